import PyProof.Rows.All
import Wide.All
import OpenK.AllK
import Wide.FinOn
import HandS.ForMost
import HandS.IsInst
import HandS.TupAny
import HandS.TupMul
import HandS.Conv
import HandS.Deep
import HandS.Strs
import HandS.SetFor
import HandS.Zip
import HandS.ExcOwn
import HandS.TryOnly
import HandS.TryMany
import HandS.Flow
import HandS.Style
import HandS.WordsExc
import KE.SortData
import KE.KDictKeyed
import KE.KDictWalk
import KE.KDictDisplayH
import HandS.TupLen
import HandS.DictTup
import HandS.TupSets
import KE.KeyNested
import PyProof.Transfer
import KE.GoesEnum
import PySem.Challenge.RW_sharedcar_k31_households_compared
set_option Elab.async false
set_option linter.all false
set_option maxRecDepth 100000
set_option maxHeartbeats 1000000
namespace Sim
open PySem PySem.Spec PyProof.Rows L2

/-- data: the library's own type; a dict is one that nobody changes any more -/
abbrev D := PyData
/-- a value: data, a place of the small heap, or the script -/
inductive W where
  | d (d : D)
  | r (i : Nat)
  | s (ns : List Int)
/-- what stands at a place of the small heap: a list, a dict -/
inductive MO where
  | lst (ds : List D)
  | dct (kvs : List (D × D))
abbrev MH := List MO
abbrev Env := List (Option W)
abbrev St := L2.St

mutual
def nkey : D → Option NestedKey
  | .none => some .none
  | .bool b => some (.num (if b = true then 1 else 0))
  | .int i => some (.num i)
  | .str x => some (.text x)
  | .tuple ds => (nkeys ds).map .tup
  | .list _ => none
  | .dict _ => none
def nkeys : List D → Option (List NestedKey)
  | [] => some []
  | d :: ds => match nkey d, nkeys ds with
    | some k, some ks => some (k :: ks)
    | _, _ => none
end

/-- the keys of a dict -/
def keysN (kvs : List (D × D)) : List (Option NestedKey) := kvs.map fun p => nkey p.1

/-- what is fixed: the written part, the world, the addresses of the error classes -/
structure Cxt where
  K : PySem.W.Frag
  w : World
  cls : Str → Option Addr
  /-- things in the making, that no value may name -/
  hid : List Addr
/-- neither written nor in the making -/
structure Fre (C : Cxt) (ρ : List Addr) (a : Addr) : Prop where
  ro : a ∉ ρ
  hi : a ∉ C.hid

/-- the dict object's own entries -/
def RawD (a : Addr) (es : Array DictEntry) (ep : Nat) : Heap → Prop := fun h => ∃ o, h.get? a = some o ∧ o.ExactDict ∧ o.data = .dict es ep

/-- a sequence to be read that nobody may write: tracked apart from the written ones, or in the written part -/
def SeqA (k : HO) (ty : String) (C : Cxt) (ρ : List Addr) (H : Hp) (a : Addr) (xs : List V) : Prop :=
  (Rd H a k ∧ Fre C ρ a) ∨ ∃ (o : Obj) (its : Array Value) (n : Nat), C.K.lookup a = some o ∧ o.cls = .type ty ∧ o.dict = none ∧ o.data = .seq its n ∧ its.size ≤ sizeLine ∧ Vals xs its.toList

mutual
inductive DR (C : Cxt) (ρ : List Addr) (H : Hp) : V → D → Prop
  | non : DR C ρ H .non .none
  | bl (b : Bool) : DR C ρ H (.bl b) (.bool b)
  | int (i : Int) : DR C ρ H (.int i) (.int i)
  | str (x : Str) : x.length ≤ sizeLine → DR C ρ H (.str x) (.str x)
  | lst {a : Addr} {xs : List V} {ds : List D} : H a = some (.lst xs) → Fre C ρ a → xs.length ≤ sizeLine → DRs C ρ H xs ds → DR C ρ H (.ref a) (.list ds)
  | tup {a : Addr} {xs : List V} {ds : List D} : SeqA (.tup xs) "tuple" C ρ H a xs → xs.length ≤ sizeLine → DRs C ρ H xs ds → DR C ρ H (.ref a) (.tuple ds)
  | dct {a : Addr} {es : List DictEntry} {ep : Nat} {kvs : List (D × D)} : H a = some (.ext (RawD a es.toArray ep)) → Fre C ρ a → (a == sysModules) = false → es.length ≤ sizeLine → (keysN kvs).Nodup → DRe C ρ H es kvs → DR C ρ H (.ref a) (.dict kvs)
inductive DRs (C : Cxt) (ρ : List Addr) (H : Hp) : List V → List D → Prop
  | nil : DRs C ρ H [] []
  | cons {v : V} {vs : List V} {d : D} {ds : List D} : DR C ρ H v d → DRs C ρ H vs ds → DRs C ρ H (v :: vs) (d :: ds)
/-- the entries of a dict -/
inductive DRe (C : Cxt) (ρ : List Addr) (H : Hp) : List DictEntry → List (D × D) → Prop
  | nil : DRe C ρ H [] []
  | cons {e : DictEntry} {es : List DictEntry} {k v : D} {kvs : List (D × D)} {kv vv : V} {nk : NestedKey} : RelV kv e.key → DR C ρ H kv k → RelV vv e.val → DR C ρ H vv v → nkey k = some nk → e.hash = nk.hash C.w →
      DRe C ρ H es kvs → DRe C ρ H (e :: es) ((k, v) :: kvs)
end

/-- what stands stays: all but the written ones; new written ones are new -/
structure Ext (ρ : List Addr) (H : Hp) (ρ' : List Addr) (H' : Hp) : Prop where
  pre : ∃ m, ρ' = ρ ++ m
  new : ∀ a, a ∈ ρ' → a ∉ ρ → H a = none
  keep : ∀ a o, H a = some o → a ∉ ρ → H' a = some o
  there : ∀ a o, H a = some o → ∃ o', H' a = some o'

section
variable {C : Cxt} {ρ ρ' ρ'' : List Addr} {H H' H'' : Hp}
theorem Ext.refl : Ext ρ H ρ H := ⟨⟨[], by simp⟩, fun a h n => absurd h n, fun _ _ h _ => h, fun _ o h => ⟨o, h⟩⟩
theorem Ext.sub (x : Ext ρ H ρ' H') {a : Addr} (h : a ∈ ρ) : a ∈ ρ' := by obtain ⟨m, rfl⟩ := x.pre; exact List.mem_append_left _ h
theorem Ext.notin (x : Ext ρ H ρ' H') {a : Addr} {o : HO} (h : H a = some o) (n : a ∉ ρ) : a ∉ ρ' := fun z => by
  have := x.new a z n; rw [h] at this; cases this
theorem Ext.trans (x : Ext ρ H ρ' H') (y : Ext ρ' H' ρ'' H'') : Ext ρ H ρ'' H'' where
  pre := by
    obtain ⟨m, rfl⟩ := x.pre
    obtain ⟨m', rfl⟩ := y.pre
    exact ⟨m ++ m', by simp⟩
  new := fun a h n => by
    cases e : H a with
    | none => rfl
    | some o =>
      by_cases q : a ∈ ρ'
      · rw [← e]; exact x.new a q n
      · have e1 := x.keep a o e n
        have := y.new a h q
        rw [e1] at this; cases this
  keep := fun a o h n => y.keep a o (x.keep a o h n) (x.notin h n)
  there := fun a o h => let ⟨o', h'⟩ := x.there a o h; y.there a o' h'
theorem Ext.pget (x : Ext ρ H ρ' H') {i : Nat} {a : Addr} (h : ρ[i]? = some a) : ρ'[i]? = some a := by
  obtain ⟨m, rfl⟩ := x.pre
  rw [List.getElem?_append_left (List.getElem?_eq_some_iff.mp h).1]; exact h
/-- a new thing that is not a written one -/
theorem Ext.upd {p : Addr} {o : HO} (h : H p = none) : Ext ρ H ρ (upd H p o) :=
  ⟨⟨[], by simp⟩, fun a h n => absurd h n, fun a u e _ => by rw [upd_ne (ne_of_none e h)]; exact e, fun a u e => ⟨u, by rw [upd_ne (ne_of_none e h)]; exact e⟩⟩
theorem Ext.alloc {p : Addr} {o : HO} (h : H p = none) : Ext ρ H (ρ ++ [p]) (L2.upd H p o) :=
  ⟨⟨[p], rfl⟩, fun a m n => by
    rcases List.mem_append.mp m with q | q
    · exact absurd q n
    · have : a = p := by simpa using q
      rw [this]; exact h, fun a u e _ => by rw [upd_ne (ne_of_none e h)]; exact e, fun a u e => ⟨u, by rw [upd_ne (ne_of_none e h)]; exact e⟩⟩
theorem Ext.write {p : Addr} {o : HO} (h : p ∈ ρ) : Ext ρ H ρ (L2.upd H p o) :=
  ⟨⟨[], by simp⟩, fun a h n => absurd h n, fun a u e n => by rw [upd_ne (show a ≠ p from fun z => n (by rw [z]; exact h))]; exact e, fun a u e => by
    by_cases z : a = p
    · subst z; exact ⟨o, upd_same⟩
    · exact ⟨u, by rw [upd_ne z]; exact e⟩⟩

theorem Fre.ext {a : Addr} {o : HO} (n : Fre C ρ a) (x : Ext ρ H ρ' H') (h : H a = some o) : Fre C ρ' a := ⟨x.notin h n.ro, n.hi⟩
theorem Fre.less {a : Addr} (n : Fre C ρ a) (x : ∀ a, a ∈ ρ' → a ∈ ρ) : Fre C ρ' a := ⟨fun z => n.ro (x _ z), n.hi⟩
theorem Rd.ext {a : Addr} {u : HO} (r : Rd H a u) (n : Fre C ρ a) (x : Ext ρ H ρ' H') : Rd H' a u ∧ Fre C ρ' a := by
  rcases r with r | ⟨o, r⟩
  · exact ⟨.inl (x.keep _ _ r n.ro), n.ext x r⟩
  · exact ⟨.inr ⟨o, x.keep _ _ r n.ro⟩, n.ext x r⟩
theorem SeqA.ext {k : HO} {ty : String} {a : Addr} {xs : List V} (s : SeqA k ty C ρ H a xs) (x : Ext ρ H ρ' H') : SeqA k ty C ρ' H' a xs := by
  rcases s with ⟨r, n⟩ | s
  · exact .inl (Rd.ext r n x)
  · exact .inr s
mutual
theorem DR.ext (x : Ext ρ H ρ' H') : ∀ (d : D) (v : V), DR C ρ H v d → DR C ρ' H' v d
  | .none, _, h => by cases h; exact .non
  | .bool b, _, h => by cases h; exact .bl b
  | .int i, _, h => by cases h; exact .int i
  | .str s, _, h => by cases h with | str _ z => exact .str s z
  | .list ds, _, h => by cases h with | lst e n z q => exact .lst (x.keep _ _ e n.ro) (n.ext x e) z (DRs.ext x ds _ q)
  | .tuple ds, _, h => by cases h with | tup s z q => exact .tup (s.ext x) z (DRs.ext x ds _ q)
  | .dict kvs, _, h => by cases h with | dct e n y z nd q => exact .dct (x.keep _ _ e n.ro) (n.ext x e) y z nd (DRe.ext x kvs _ q)
theorem DRs.ext (x : Ext ρ H ρ' H') : ∀ (ds : List D) (vs : List V), DRs C ρ H vs ds → DRs C ρ' H' vs ds
  | [], _, h => by cases h; exact .nil
  | d :: ds, _, h => by cases h with | cons h1 h2 => exact .cons (DR.ext x d _ h1) (DRs.ext x ds _ h2)
theorem DRe.ext (x : Ext ρ H ρ' H') : ∀ (kvs : List (D × D)) (es : List DictEntry), DRe C ρ H es kvs → DRe C ρ' H' es kvs
  | [], _, h => by cases h; exact .nil
  | (k, v) :: kvs, _, h => by cases h with | cons r1 h1 r2 h2 n e h3 => exact .cons r1 (DR.ext x k _ h1) r2 (DR.ext x v _ h2) n e (DRe.ext x kvs _ h3)
end
/-- fewer written ones -/
theorem SeqA.less {k : HO} {ty : String} {a : Addr} {xs : List V} (s : SeqA k ty C ρ H a xs) (x : ∀ a, a ∈ ρ' → a ∈ ρ) : SeqA k ty C ρ' H a xs := by
  rcases s with ⟨r, n⟩ | s
  · exact .inl ⟨r, n.less x⟩
  · exact .inr s
mutual
theorem DR.less (x : ∀ a, a ∈ ρ' → a ∈ ρ) : ∀ (d : D) (v : V), DR C ρ H v d → DR C ρ' H v d
  | .none, _, h => by cases h; exact .non
  | .bool b, _, h => by cases h; exact .bl b
  | .int i, _, h => by cases h; exact .int i
  | .str s, _, h => by cases h with | str _ z => exact .str s z
  | .list ds, _, h => by cases h with | lst e n z q => exact .lst e (n.less x) z (DRs.less x ds _ q)
  | .tuple ds, _, h => by cases h with | tup s z q => exact .tup (s.less x) z (DRs.less x ds _ q)
  | .dict kvs, _, h => by cases h with | dct e n y z nd q => exact .dct e (n.less x) y z nd (DRe.less x kvs _ q)
theorem DRs.less (x : ∀ a, a ∈ ρ' → a ∈ ρ) : ∀ (ds : List D) (vs : List V), DRs C ρ H vs ds → DRs C ρ' H vs ds
  | [], _, h => by cases h; exact .nil
  | d :: ds, _, h => by cases h with | cons h1 h2 => exact .cons (DR.less x d _ h1) (DRs.less x ds _ h2)
theorem DRe.less (x : ∀ a, a ∈ ρ' → a ∈ ρ) : ∀ (kvs : List (D × D)) (es : List DictEntry), DRe C ρ H es kvs → DRe C ρ' H es kvs
  | [], _, h => by cases h; exact .nil
  | (k, v) :: kvs, _, h => by cases h with | cons r1 h1 r2 h2 n e h3 => exact .cons r1 (DR.less x k _ h1) r2 (DR.less x v _ h2) n e (DRe.less x kvs _ h3)
end
theorem DRs.length : ∀ {vs : List V} {ds : List D}, DRs C ρ H vs ds → vs.length = ds.length
  | _, _, .nil => rfl
  | _, _, .cons _ h => by simp [DRs.length h]
theorem DRs.get : ∀ {vs : List V} {ds : List D} {i : Nat} {d : D}, DRs C ρ H vs ds → ds[i]? = some d → ∃ v, vs[i]? = some v ∧ DR C ρ H v d
  | _, _, _, _, .nil, e => by simp at e
  | _, _, 0, _, .cons h _, e => by simp at e; subst e; exact ⟨_, rfl, h⟩
  | _, _, i + 1, _, .cons _ t, e => by
    obtain ⟨v, h1, h2⟩ := DRs.get (i := i) t (by simpa using e)
    exact ⟨v, by simpa using h1, h2⟩
theorem DRs.getV : ∀ {vs : List V} {ds : List D} {i : Nat} {v : V}, DRs C ρ H vs ds → vs[i]? = some v → ∃ d, ds[i]? = some d ∧ DR C ρ H v d
  | _, _, _, _, .nil, e => by simp at e
  | _, _, 0, _, .cons h _, e => by simp at e; subst e; exact ⟨_, rfl, h⟩
  | _, _, i + 1, _, .cons _ t, e => by
    obtain ⟨d, h1, h2⟩ := DRs.getV (i := i) t (by simpa using e)
    exact ⟨d, by simpa using h1, h2⟩
theorem DRs.append : ∀ {vs us : List V} {ds es : List D}, DRs C ρ H vs ds → DRs C ρ H us es → DRs C ρ H (vs ++ us) (ds ++ es)
  | _, _, _, _, .nil, s => s
  | _, _, _, _, .cons r t, s => .cons r (DRs.append t s)
theorem DRs.take : ∀ {vs : List V} {ds : List D} (n : Nat), DRs C ρ H vs ds → DRs C ρ H (vs.take n) (ds.take n)
  | _, _, 0, _ => .nil
  | _, _, _ + 1, .nil => .nil
  | _, _, n + 1, .cons r t => .cons r (DRs.take n t)
theorem DRs.drop : ∀ {vs : List V} {ds : List D} (n : Nat), DRs C ρ H vs ds → DRs C ρ H (vs.drop n) (ds.drop n)
  | _, _, 0, r => r
  | _, _, _ + 1, .nil => .nil
  | _, _, n + 1, .cons _ t => DRs.drop n t
theorem DRs.reverse {vs : List V} {ds : List D} (h : DRs C ρ H vs ds) : DRs C ρ H vs.reverse ds.reverse := by
  have : ∀ {vs us : List V} {ds es : List D}, DRs C ρ H vs ds → DRs C ρ H us es → DRs C ρ H (vs.reverseAux us) (ds.reverseAux es) := by
    intro vs
    induction vs with
    | nil => intro us ds es h g; cases h; exact g
    | cons v vs ih => intro us ds es h g; cases h with | @cons _ _ d ds a b => exact ih (us := v :: us) (es := d :: es) b (.cons a g)
  exact this h .nil
theorem DRs.set {v : V} {d : D} (r : DR C ρ H v d) : ∀ {vs : List V} {ds : List D} (i : Nat), DRs C ρ H vs ds → DRs C ρ H (vs.set i v) (ds.set i d)
  | _, _, _, .nil => .nil
  | _, _, 0, .cons _ t => .cons r t
  | _, _, i + 1, .cons q t => .cons q (DRs.set r i t)
theorem DRs.dropLast : ∀ {vs : List V} {ds : List D}, DRs C ρ H vs ds → DRs C ρ H vs.dropLast ds.dropLast
  | _, _, .nil => .nil
  | _, _, .cons _ .nil => .nil
  | _, _, .cons a (.cons b t) => .cons a (DRs.dropLast (.cons b t))
theorem DRs.rep {vs : List V} {ds : List D} (h : DRs C ρ H vs ds) : ∀ n : Nat, DRs C ρ H (List.replicate n vs).flatten (List.replicate n ds).flatten
  | 0 => .nil
  | n + 1 => by
    rw [List.replicate_succ, List.replicate_succ, List.flatten_cons, List.flatten_cons]
    exact h.append (DRs.rep h n)

/-! ### values, the small heap, the names -/
def WR (C : Cxt) (ρ : List Addr) (H : Hp) (v : V) : W → Prop
  | .d d => DR C ρ H v d
  | .r i => ∃ a, ρ[i]? = some a ∧ v = .ref a
  | .s ns => ∃ a, v = .ref a ∧ SeqA (.lst (ns.map V.int)) "list" C ρ H a (ns.map V.int)
theorem WR.ext {v : V} (x : Ext ρ H ρ' H') : ∀ {w : W}, WR C ρ H v w → WR C ρ' H' v w
  | .d d, h => DR.ext x d v h
  | .r i, ⟨a, h, e⟩ => ⟨a, x.pget h, e⟩
  | .s ns, ⟨a, e, h⟩ => ⟨a, e, h.ext x⟩
inductive WRs (C : Cxt) (ρ : List Addr) (H : Hp) : List V → List W → Prop
  | nil : WRs C ρ H [] []
  | cons {v : V} {vs : List V} {d : W} {ds : List W} : WR C ρ H v d → WRs C ρ H vs ds → WRs C ρ H (v :: vs) (d :: ds)
theorem WRs.ext (x : Ext ρ H ρ' H') : ∀ {vs : List V} {ws : List W}, WRs C ρ H vs ws → WRs C ρ' H' vs ws
  | _, _, .nil => .nil
  | _, _, .cons a b => .cons (WR.ext x a) (WRs.ext x b)
theorem WRs.length : ∀ {vs : List V} {ws : List W}, WRs C ρ H vs ws → vs.length = ws.length
  | _, _, .nil => rfl
  | _, _, .cons _ b => by simp [WRs.length b]

def OR (C : Cxt) (ρ : List Addr) (H : Hp) (a : Addr) : MO → Prop
  | .lst ds => ∃ xs, H a = some (.lst xs) ∧ xs.length ≤ sizeLine ∧ DRs C ρ H xs ds
  | .dct kvs => ∃ es ep, H a = some (.ext (RawD a (List.toArray es) ep)) ∧ (a == sysModules) = false ∧ es.length ≤ sizeLine ∧ (keysN kvs).Nodup ∧ DRe C ρ H es kvs
structure HR (C : Cxt) (ρ : List Addr) (H : Hp) (m : MH) : Prop where
  len : ρ.length = m.length
  nd : ρ.Nodup
  hid : ∀ a ∈ C.hid, a ∉ ρ ∧ ∃ u, H a = some u
  obj : ∀ (i : Nat) (a : Addr) (o : MO), ρ[i]? = some a → m[i]? = some o → OR C ρ H a o
theorem OR.some {a : Addr} {o : MO} (h : OR C ρ H a o) : ∃ u, H a = Option.some u := by
  cases o with
  | lst ds => obtain ⟨xs, e, _⟩ := h; exact ⟨_, e⟩
  | dct kvs => obtain ⟨es, ep, e, _⟩ := h; exact ⟨_, e⟩
/-- the object at a stands (also where a is written), the rest by Ext -/
theorem OR.ext {a : Addr} {o : MO} (h : OR C ρ H a o) (x : Ext ρ H ρ' H') (k : ∀ u, H a = Option.some u → H' a = Option.some u) : OR C ρ' H' a o := by
  cases o with
  | lst ds => obtain ⟨xs, e, z, q⟩ := h; exact ⟨xs, k _ e, z, DRs.ext x ds _ q⟩
  | dct kvs => obtain ⟨es, ep, e, y, z, nd, q⟩ := h; exact ⟨es, ep, k _ e, y, z, nd, DRe.ext x kvs _ q⟩
theorem HR.at (h : HR C ρ H m) {i : Nat} {o : MO} (e : m[i]? = some o) : ∃ a, ρ[i]? = some a ∧ OR C ρ H a o := by
  have hi : i < m.length := (List.getElem?_eq_some_iff.mp e).1
  have hi' : i < ρ.length := by rw [h.len]; exact hi
  exact ⟨ρ[i], by simp [hi'], h.obj i _ o (by simp [hi']) e⟩
theorem HR.tracked (h : HR C ρ H m) {a : Addr} (e : a ∈ ρ) : ∃ u, H a = some u := by
  obtain ⟨i, hi, rfl⟩ := List.mem_iff_getElem.mp e
  have hi' : i < m.length := by rw [← h.len]; exact hi
  exact (h.obj i _ m[i] (by simp [hi]) (by simp [hi'])).some
/-- a new thing that isn't a written one -/
theorem HR.upd {p : Addr} {o : HO} (h : HR C ρ H m) (n : H p = none) : HR C ρ (L2.upd H p o) m :=
  ⟨h.len, h.nd, fun a ha => ⟨(h.hid a ha).1, let ⟨u, e⟩ := (h.hid a ha).2; ⟨u, by rw [upd_ne (ne_of_none e n)]; exact e⟩⟩, fun i a u e1 e2 => (h.obj i a u e1 e2).ext (Ext.upd n) fun q e => by rw [upd_ne (ne_of_none e n)]; exact e⟩
theorem HR.fresh (h : HR C ρ H m) {p : Addr} (n : H p = none) : Fre C ρ p := by
  refine ⟨fun z => ?_, fun z => ?_⟩
  · obtain ⟨u, e⟩ := h.tracked z
    rw [n] at e
    cases e
  · obtain ⟨u, e⟩ := (h.hid p z).2
    rw [n] at e
    cases e
theorem HR.alloc {p : Addr} {o : HO} {mo : MO} (h : HR C ρ H m) (n : H p = none) (new : OR C (ρ ++ [p]) (L2.upd H p o) p mo) : HR C (ρ ++ [p]) (L2.upd H p o) (m ++ [mo]) := by
  refine ⟨by simp [h.len], ?_, fun a ha => ?_, fun i a u e1 e2 => ?_⟩
  · rw [List.nodup_append]
    exact ⟨h.nd, by simp, fun a ha b hb => by
      have : b = p := by simpa using hb
      rw [this]; exact fun z => (h.fresh n).ro (z ▸ ha)⟩
  · obtain ⟨u, e⟩ := (h.hid a ha).2
    have ne := ne_of_none e n
    refine ⟨fun z => ?_, u, by rw [upd_ne ne]; exact e⟩
    rcases List.mem_append.mp z with z | z
    · exact (h.hid a ha).1 z
    · exact ne (by simpa using z)
  · by_cases hi : i < ρ.length
    · rw [List.getElem?_append_left hi] at e1
      rw [List.getElem?_append_left (by rw [← h.len]; exact hi)] at e2
      exact (h.obj i a u e1 e2).ext (Ext.alloc n) fun q e => by rw [upd_ne (ne_of_none e n)]; exact e
    · have hi2 : i = ρ.length := by
        have := (List.getElem?_eq_some_iff.mp e1).1
        simp at this; omega
      subst hi2
      simp at e1
      rw [h.len] at e2
      simp at e2
      subst e1; subst e2
      exact new
theorem nodup_get {l : List Addr} (n : l.Nodup) {i j : Nat} {a : Addr} (h1 : l[i]? = some a) (h2 : l[j]? = some a) : i = j := by
  obtain ⟨p, e⟩ := List.getElem?_eq_some_iff.mp h1
  obtain ⟨q, f⟩ := List.getElem?_eq_some_iff.mp h2
  exact (List.getElem_inj n).mp (e.trans f.symm)
theorem HR.write {i : Nat} {p : Addr} {o : HO} {mo : MO} (h : HR C ρ H m) (e : ρ[i]? = some p) (new : OR C ρ (L2.upd H p o) p mo) : HR C ρ (L2.upd H p o) (m.set i mo) := by
  refine ⟨by simp [h.len], h.nd, fun a ha => ⟨(h.hid a ha).1, ?_⟩, fun j a u e1 e2 => ?_⟩
  · obtain ⟨u, eu⟩ := (h.hid a ha).2
    exact ⟨u, by rw [upd_ne (show a ≠ p from fun z => (h.hid a ha).1 (z ▸ List.mem_of_getElem? e))]; exact eu⟩
  by_cases hj : j = i
  · subst hj
    have hl : j < m.length := by rw [← h.len]; exact (List.getElem?_eq_some_iff.mp e).1
    rw [List.getElem?_set_self hl] at e2
    rw [e] at e1
    cases e1; cases e2
    exact new
  · rw [List.getElem?_set_ne (Ne.symm hj)] at e2
    have ne : a ≠ p := fun z => hj (nodup_get h.nd e1 (z ▸ e))
    exact (h.obj j a u e1 e2).ext (Ext.write (List.mem_of_getElem? e)) fun q eq => by rw [upd_ne ne]; exact eq

inductive ER (C : Cxt) (ρ : List Addr) (H : Hp) : List (Option V) → Env → Prop
  | nil : ER C ρ H [] []
  | cons {v : Option V} {σ : St} {w : Option W} {e : Env} : (∀ u, w = some u → ∃ x, v = some x ∧ WR C ρ H x u) → ER C ρ H σ e → ER C ρ H (v :: σ) (w :: e)
theorem ER.ext (x : Ext ρ H ρ' H') : ∀ {σ : St} {e : Env}, ER C ρ H σ e → ER C ρ' H' σ e
  | _, _, .nil => .nil
  | _, _, .cons a b => .cons (fun u h => let ⟨y, h1, h2⟩ := a u h; ⟨y, h1, WR.ext x h2⟩) (ER.ext x b)
theorem ER.get : ∀ {σ : St} {e : Env} {i : Nat} {w : W}, ER C ρ H σ e → e[i]? = some (some w) → ∃ v, σ[i]? = some (some v) ∧ WR C ρ H v w
  | _, _, _, _, .nil, h => by simp at h
  | _, _, 0, w, .cons a _, h => by
    simp at h
    obtain ⟨y, h1, h2⟩ := a w h
    exact ⟨y, by simp [h1], h2⟩
  | _, _, i + 1, _, .cons _ b, h => by
    obtain ⟨v, h1, h2⟩ := ER.get (i := i) b (by simpa using h)
    exact ⟨v, by simpa using h1, h2⟩
theorem ER.set {v : V} {w : W} (r : WR C ρ H v w) : ∀ {σ : St} {e : Env} (i : Nat), ER C ρ H σ e → ER C ρ H (σ.set i (some v)) (e.set i (some w))
  | _, _, _, .nil => .nil
  | _, _, 0, .cons _ b => .cons (fun u h => ⟨v, rfl, by cases h; exact r⟩) b
  | _, _, i + 1, .cons a b => .cons a (ER.set r i b)
theorem ER.wipe1 : ∀ {σ : St} {e : Env} (i : Nat), ER C ρ H σ e → ER C ρ H (σ.set i none) (e.set i none)
  | _, _, _, .nil => .nil
  | _, _, 0, .cons _ b => .cons (fun u h => by cases h) b
  | _, _, i + 1, .cons a b => .cons a (ER.wipe1 i b)
theorem ER.length : ∀ {σ : St} {e : Env}, ER C ρ H σ e → σ.length = e.length
  | _, _, .nil => rfl
  | _, _, .cons _ b => by simp [ER.length b]
/-- the names' values at the entry -/
def startE (n : Nat) (ws : List W) : Env := ws.map some ++ List.replicate (n - ws.length) none
theorem ER.blank : ∀ n : Nat, ER C ρ H (List.replicate n none) (List.replicate n none)
  | 0 => .nil
  | n + 1 => by
    rw [List.replicate_succ, List.replicate_succ]
    exact .cons (fun u h => by cases h) (ER.blank n)
theorem ER.start {N : List Str} : ∀ {vs : List V} {ws : List W}, WRs C ρ H vs ws → ER C ρ H (L2.start N vs) (startE N.length ws) := by
  intro vs ws h
  unfold L2.start startE
  have hl := h.length
  rw [hl]
  generalize N.length - ws.length = n
  clear hl
  induction h with
  | nil => exact ER.blank n
  | cons a b ih => exact .cons (fun u e => ⟨_, rfl, by cases e; exact a⟩) ih
end
end Sim
set_option maxHeartbeats 1000000
namespace Sim
open PySem PySem.Spec PyProof.Rows L2

/-! ### when data are written alike -/
mutual
def qD : D → D → Bool
  | .none, .none => true
  | .bool a, .bool b => a == b
  | .int a, .int b => decide (a = b)
  | .str a, .str b => decide (a = b)
  | .list a, .list b => qDs a b
  | .tuple a, .tuple b => qDs a b
  | .dict a, .dict b => qDe a b
  | _, _ => false
def qDs : List D → List D → Bool
  | [], [] => true
  | a :: as, b :: bs => qD a b && qDs as bs
  | _, _ => false
def qDe : List (D × D) → List (D × D) → Bool
  | [], [] => true
  | (a, b) :: as, (c, d) :: bs => qD a c && qD b d && qDe as bs
  | _, _ => false
end
mutual
theorem qD_ok : ∀ a b : D, qD a b = true → a = b
  | .none, b, h => by cases b <;> first | rfl | (simp [qD] at h)
  | .bool a, b, h => by cases b <;> simp [qD] at h; rw [h]
  | .int a, b, h => by cases b <;> simp [qD] at h; rw [h]
  | .str a, b, h => by cases b <;> simp [qD] at h; rw [h]
  | .list a, b, h => by cases b <;> simp only [qD, Bool.false_eq_true] at h; rw [qDs_ok a _ h]
  | .tuple a, b, h => by cases b <;> simp only [qD, Bool.false_eq_true] at h; rw [qDs_ok a _ h]
  | .dict a, b, h => by cases b <;> simp only [qD, Bool.false_eq_true] at h; rw [qDe_ok a _ h]
theorem qDs_ok : ∀ a b : List D, qDs a b = true → a = b
  | [], b, h => by cases b <;> first | rfl | (simp [qDs] at h)
  | a :: as, b, h => by
    cases b <;> simp only [qDs, Bool.and_eq_true, Bool.false_eq_true] at h
    rw [qD_ok a _ h.1, qDs_ok as _ h.2]
theorem qDe_ok : ∀ a b : List (D × D), qDe a b = true → a = b
  | [], b, h => by cases b <;> first | rfl | (simp [qDe] at h)
  | (x, y) :: as, b, h => by
    cases b with
    | nil => simp [qDe] at h
    | cons p q =>
      obtain ⟨c, d⟩ := p
      simp only [qDe, Bool.and_eq_true] at h
      rw [qD_ok x _ h.1.1, qD_ok y _ h.1.2, qDe_ok as _ h.2]
end
/-! ### the small language -/
inductive BOp where | add | sub | mul | mod | fdiv | pow
  deriving DecidableEq, Repr
inductive COp where | eq | ne | lt | le | gt | ge | in_ | nin | is_ | isn
  deriving DecidableEq, Repr

mutual
inductive SE where
  | var (i : Nat)
  | dat (d : D)
  | glob (x : Str)
  | neg (a : SE)
  | not (a : SE)
  | and (a b : SE)
  | or (a b : SE)
  | bin (m : Bool) (op : BOp) (a b : SE)
  | cmp (op : COp) (a b : SE)
  | chain (o1 o2 : COp) (a b c : SE)
  | ite (c a b : SE)
  | tup (es : SEs)
  | lst (m : Bool) (es : SEs)
  | call (f : Str) (es : SEs)
  | callN (f : Str) (es : SEs)
  | blt (m : Bool) (f : Str) (es : SEs)
  | isin (T : Str) (a : SE)
  | idx (a b : SE)
  | slc (m : Bool) (a lo hi : SE)
  | nop
  | comp (m : Bool) (elt : SE) (tg : List Nat) (tt : Bool) (src : SI) (cond : SE) (own : List Nat)
  | meth (m : Bool) (f : Str) (a : SE) (es : SEs)
  | dct0 (m : Bool)
  | dct1 (m : Bool) (a b : SE)
inductive SEs where
  | nil
  | cons (e : SE) (es : SEs)
inductive SI where
  | val (a : SE)
  | rng1 (a : SE)
  | rng2 (a b : SE)
  | enum (a : SE)
  | zip (a b : SE)
  | items (a : SE)
  | values (a : SE)
end

mutual
inductive SS where
  | asg (i : Nat) (e : SE)
  | asgT (is : List Nat) (e : SE)
  | par (is : List Nat) (es : SEs)
  | sub (o i e : SE)
  | expr (e : SE)
  | ret (e : SE)
  | retN
  | ite (c : SE) (a b : SSs)
  | for_ (tg : List Nat) (tt : Bool) (src : SI) (b : SSs)
  | whl (c : SE) (b : SSs)
  | raise (c : Str)
  | try_ (b : SSs) (hs : SHs)
  | pass | brk | cont
inductive SSs where
  | nil
  | cons (s : SS) (ss : SSs)
/-- the clauses of a try: the class's name, the suite -/
inductive SHs where
  | nil
  | cons (c : Str) (b : SSs) (hs : SHs)
end

/-! ### what comes of code -/
inductive R (α : Type) where
  | ok (a : α) (m : MH)
  | exc (c : Str) (fs : List (Str × D)) (m : MH)
  | bad
def R.bind {α β : Type} (x : R α) (f : α → MH → R β) : R β := match x with
  | .ok a m => f a m
  | .exc c fs m => .exc c fs m
  | .bad => .bad
/-- where nothing may be raised -/
def R.nox {α : Type} (x : R α) : R α := match x with
  | .exc _ _ _ => .bad
  | x => x
@[simp] theorem R.nox_ok {α : Type} (a : α) (m : MH) : (R.ok a m).nox = .ok a m := Eq.trans rfl rfl
@[simp] theorem R.nox_bad {α : Type} : (R.bad : R α).nox = .bad := Eq.trans rfl rfl
@[simp] theorem R.bind_ok {α β : Type} (a : α) (m : MH) (f : α → MH → R β) : (R.ok a m).bind f = f a m := Eq.trans rfl rfl
@[simp] theorem R.bind_exc {α β : Type} (c : Str) (fs) (m : MH) (f : α → MH → R β) : (R.exc c fs m : R α).bind f = .exc c fs m := Eq.trans rfl rfl
@[simp] theorem R.bind_bad {α β : Type} (f : α → MH → R β) : (R.bad : R α).bind f = .bad := Eq.trans rfl rfl
inductive RS where
  | nx (e : Env) (m : MH)
  | rt (w : W) (m : MH)
  | bk (e : Env) (m : MH)
  | ct (e : Env) (m : MH)
  | exc (c : Str) (fs : List (Str × D)) (e : Env) (m : MH)
  | bad

/-! ### values -/
/-- a new list: data, or a place -/
def newL (mu : Bool) (ds : List D) (m : MH) : R W := if mu then .ok (.r m.length) (m ++ [.lst ds]) else .ok (.d (.list ds)) m
/-- a value as data, a written list read as it stands -/
def rd (m : MH) : W → Option D
  | .d d => some d
  | .r i => match m[i]? with
    | some (.lst ds) => some (.list ds)
    | some (.dct kvs) => some (.dict kvs)
    | none => none
  | .s _ => none
def rdL (m : MH) (w : W) : Option (List D) := match rd m w with
  | some (.list ds) => some ds
  | _ => none
/-- the items of a list or a tuple -/
def rdS (m : MH) (w : W) : Option (List D) := match rd m w with
  | some (.list ds) => some ds
  | some (.tuple ds) => some ds
  | _ => none

/-- a key that is a tuple, not too deep -/
def tupK : NestedKey → Bool
  | .tup ks => decide ((NestedKey.tup ks).depth ≤ 8)
  | _ => false
def tupKs (kvs : List (D × D)) : Bool := kvs.all fun p => match nkey p.1 with
  | some k => tupK k
  | none => false
def keyT (d : D) : Option NestedKey := match nkey d with
  | some k => if tupK k then some k else none
  | none => none
/-- a dict's value at a key -/
def dlook (kvs : List (D × D)) (k : NestedKey) : Option D := (kvs.find? fun p => decide (nkey p.1 = some k)).map (·.2)
/-- a dict with a value put at a key -/
def dput (kvs : List (D × D)) (nk : NestedKey) (k v : D) : List (D × D) :=
  if (dlook kvs nk).isSome then kvs.map (fun p => if nkey p.1 = some nk then (p.1, v) else p) else kvs ++ [(k, v)]
def newD (mu : Bool) (kvs : List (D × D)) (m : MH) : R W := if mu then .ok (.r m.length) (m ++ [.dct kvs]) else .ok (.d (.dict kvs)) m
/-- a dict read at a key; none: this is not covered -/
def dget (kvs : List (D × D)) (x : D) : Option (Option D) := match keyT x with
  | some k => if tupKs kvs then some (dlook kvs k) else none
  | none => none
def okMul (i j : Int) : Bool := (decide (-(2 ^ 64) < i) && decide (i < 2 ^ 64)) || (decide (-(2 ^ 64) < j) && decide (j < 2 ^ 64))
def binD (mu : Bool) (op : BOp) (x y : D) (m : MH) : R W := match op, x, y with
  | .add, .int i, .int j => .ok (.d (.int (i + j))) m
  | .add, .str a, .str b => if a.length + b.length ≤ sizeLine then .ok (.d (.str (a ++ b))) m else .bad
  | .add, .list a, .list b => if a.length + b.length ≤ sizeLine then newL mu (a ++ b) m else .bad
  | .add, .tuple a, .tuple b => if a.length + b.length ≤ sizeLine then .ok (.d (.tuple (a ++ b))) m else .bad
  | .sub, .int i, .int j => .ok (.d (.int (i - j))) m
  | .mul, .int i, .int j => if okMul i j then .ok (.d (.int (i * j))) m else .bad
  | .mul, .list a, .int k => if decide (-(2 ^ 62) ≤ k) && decide (k < 2 ^ 62) && decide (a.length * k.toNat ≤ sizeLine) then newL mu (List.replicate k.toNat a).flatten m else .bad
  | .mul, .tuple a, .int k => if decide (2 ≤ k) && decide (k ≤ 1000) && decide (a.length ≤ 1000) && decide (0 < a.length) then .ok (.d (.tuple (List.replicate k.toNat a).flatten)) m else .bad
  | .mod, .int i, .int j => if 0 < j then .ok (.d (.int (i % j))) m else .bad
  | .fdiv, .int i, .int j => if decide (0 < j) && decide (j < 1073741824) then .ok (.d (.int (i / j))) m else .bad
  | .pow, .int i, .int j => if decide (0 ≤ j) && decide (j ≤ 1000) && decide (i.natAbs < 1000) then .ok (.d (.int (i ^ j.toNat))) m else .bad
  | _, _, _ => .bad
def binW (mu : Bool) (op : BOp) (x y : W) (m : MH) : R W := match rd m x, rd m y with
  | some a, some b => binD mu op a b m
  | _, _ => .bad

def eqD (x y : D) : Option Bool := match x, y with
  | .int i, .int j => some (decide (i = j))
  | .str a, .str b => some (decide (a = b))
  | .bool a, .bool b => some (decide (a = b))
  | x, y => if x.canLay0 && y.canLay0 && decide (min x.depth y.depth ≤ 64) then some (PyData.eqv x y) else none
def inD (x : D) (ys : List D) : Option Bool := if x.canLay0 && PyData.canLayAll0 ys && decide (x.depth ≤ 64) then some (ys.any fun z => PyData.eqv z x) else none
def cmpD (op : COp) (x y : D) : Option Bool := match op, x, y with
  | .eq, x, y => eqD x y
  | .ne, x, y => (eqD x y).map (!·)
  | .lt, .int i, .int j => some (decide (i < j))
  | .le, .int i, .int j => some (decide (i ≤ j))
  | .gt, .int i, .int j => some (decide (j < i))
  | .ge, .int i, .int j => some (decide (j ≤ i))
  | .in_, x, .list ys => inD x ys
  | .in_, x, .tuple ys => inD x ys
  | .nin, x, .list ys => (inD x ys).map (!·)
  | .nin, x, .tuple ys => (inD x ys).map (!·)
  | .in_, x, .dict kvs => (dget kvs x).map (·.isSome)
  | .nin, x, .dict kvs => (dget kvs x).map (!·.isSome)
  | .is_, x, .none => some (match x with | .none => true | _ => false)
  | .isn, x, .none => some (match x with | .none => false | _ => true)
  | _, _, _ => none
def cmpW (op : COp) (x y : W) (m : MH) : R Bool := match rd m x, rd m y with
  | some a, some b => match cmpD op a b with
    | some c => .ok c m
    | none => .bad
  | _, _ => .bad
def truD : D → Option Bool
  | .none => some false
  | .bool b => some b
  | .int i => some (i != 0)
  | .str x => some (decide (x.length ≠ 0))
  | .list ds => some (!ds.isEmpty)
  | .tuple ds => some (!ds.isEmpty)
  | .dict _ => none
def truW (x : W) (m : MH) : R Bool := match rd m x with
  | some d => match truD d with
    | some c => .ok c m
    | none => .bad
  | none => .bad
def idxD (x y : D) : Option D := match x, y with
  | .list ds, .int i => atI ds i
  | .tuple ds, .int i => atI ds i
  | .dict kvs, x => match dget kvs x with
    | some v => v
    | none => none
  | _, _ => none
def idxW (x y : W) (m : MH) : R W := match x, y with
  | .s ns, .d (.int i) => match atI ns i with
    | some j => .ok (.d (.int j)) m
    | none => .bad
  | x, y => match rd m x, rd m y with
  | some a, some b => match idxD a b with
    | some d => .ok (.d d) m
    | none => .bad
  | _, _ => .bad
/-- xs[lo:hi] -/
def cutL (ds : List D) (lo hi : Option Int) : List D := (ds.drop (HT.sIx ds.length 0 lo)).take (HT.sIx ds.length ds.length hi - HT.sIx ds.length 0 lo)
def slcW (mu : Bool) (x : W) (lo hi : Option Int) (m : MH) : R W := match rd m x with
  | some (.list ds) => newL mu (cutL ds lo hi) m
  | some (.tuple ds) => .ok (.d (.tuple (cutL ds lo hi))) m
  | _ => .bad
def bools : List D → Option (List Bool)
  | [] => some []
  | .bool b :: ds => (bools ds).map (b :: ·)
  | _ :: _ => none
def tyD : D → Str
  | .none => "NoneType"
  | .bool _ => "bool"
  | .int _ => "int"
  | .str _ => "str"
  | .list _ => "list"
  | .tuple _ => "tuple"
  | .dict _ => "dict"
/-- isinstance(x, T), T a built-in class -/
def isinD (T : Str) (x : D) : Option Bool := match x with
  | .dict _ => none
  | x => some (decide (tyD x = T) || (decide (T = "int") && decide (tyD x = "bool")))
def rangeD (lo : Int) (n : Nat) : List D := (List.range n).map fun (i : Nat) => .int (lo + i)
def bLen (ws : List W) (m : MH) : R W := match ws with
  | [.s ns] => .ok (.d (.int ns.length)) m
  | [x] => match rd m x with
    | some (.list ds) => .ok (.d (.int ds.length)) m
    | some (.tuple ds) => .ok (.d (.int ds.length)) m
    | some (.str x) => .ok (.d (.int x.length)) m
    | some (.dict kvs) => .ok (.d (.int kvs.length)) m
    | _ => .bad
  | _ => .bad
def bAll (ws : List W) (m : MH) : R W := match ws with
  | [x] => match (rdL m x).bind bools with
    | some bs => .ok (.d (.bool (bs.all id))) m
    | none => .bad
  | _ => .bad
def bAny (ws : List W) (m : MH) : R W := match ws with
  | [x] => match (rdL m x).bind bools with
    | some bs => .ok (.d (.bool (bs.any id))) m
    | none => .bad
  | _ => .bad
def bList (mu : Bool) (ws : List W) (m : MH) : R W := match ws with
  | [x] => match rdS m x with
    | some ds => newL mu ds m
    | none => match rd m x with
      | some (.dict kvs) => newL mu (kvs.map (·.1)) m
      | _ => .bad
  | _ => .bad
def bTuple (ws : List W) (m : MH) : R W := match ws with
  | [x] => match rdS m x with
    | some ds => .ok (.d (.tuple ds)) m
    | none => .bad
  | _ => .bad
def bInt (ws : List W) (m : MH) : R W := match ws with
  | [x] => match rd m x with
    | some (.int i) => .ok (.d (.int i)) m
    | some (.bool b) => .ok (.d (.int (if b then 1 else 0))) m
    | _ => .bad
  | _ => .bad
/-- the ints of a list -/
def intsOf : List D → Option (List Int)
  | [] => some []
  | .int b :: ds => (intsOf ds).map (b :: ·)
  | _ :: _ => none
/-- the greatest, the least -/
def maxI : List Int → Int → Int
  | [], a => a
  | b :: bs, a => maxI bs (if b > a then b else a)
def minI : List Int → Int → Int
  | [], a => a
  | b :: bs, a => minI bs (if b < a then b else a)
def bMax (ws : List W) (m : MH) : R W := match ws with
  | [.d (.int i), .d (.int j)] => .ok (.d (.int (if j > i then j else i))) m
  | [.d (.list ds)] => match intsOf ds with
    | some (i :: is) => .ok (.d (.int (maxI is i))) m
    | _ => .bad
  | _ => .bad
def bMin (ws : List W) (m : MH) : R W := match ws with
  | [.d (.int i), .d (.int j)] => .ok (.d (.int (if j < i then j else i))) m
  | [.d (.list ds)] => match intsOf ds with
    | some (i :: is) => .ok (.d (.int (minI is i))) m
    | _ => .bad
  | _ => .bad
/-- ascending, each once -/
def upInts (ns : List Int) : List Int := ns.eraseDups.mergeSort (fun i j => decide (i ≤ j))
/-- data that may be sorted -/
def sortOk (ds : List D) : Bool := (ds.all fun a => ds.all fun b => PySem.W.alike a b) && (ds.all (fun d => match d with
    | .tuple (_ :: _) => true
    | _ => false) || ds.all (fun d => match d with
    | .tuple _ => false
    | .none => false
    | _ => true)) && ds.all fun d => decide (d.depth ≤ 50) && d.canLay0
def sortD (ds : List D) : List D := ds.mergeSort (PySem.W.dataLe false id)
/-- sorted(xs) -/
def bSorted (mu : Bool) (ws : List W) (m : MH) : R W := match ws with
  | [.d (.list ds)] => if sortOk ds then newL mu (sortD ds) m else .bad
  | _ => .bad
/-- equal keys are written alike -/
def sameK (ds : List D) : Bool := ds.all fun a => ds.all fun b => !decide (nkey a = nkey b) || qD a b
/-- each key once -/
def uniqK : List D → List D
  | [] => []
  | d :: ds => d :: (uniqK ds).filter fun e => !decide (nkey e = nkey d)
/-- ascending -/
def ascK : List D → Bool
  | [] => true
  | d :: ds => PySem.W.dataLe false id d d && ds.all (fun e => PySem.W.dataLe false id d e && !PySem.W.dataLe false id e d) && ascK ds
def setOk (ds : List D) : Bool := ds.all (fun d => (keyT d).isSome) && decide (ds.length < 60) && sameK ds && sortOk (uniqK ds) && ascK (sortD (uniqK ds))
/-- sorted(set(xs)) -/
def bSortedSet (mu : Bool) (ws : List W) (m : MH) : R W := match ws with
  | [.d (.tuple ds)] => match intsOf ds with
    | some ns => if ns.length < 60 then newL mu ((upInts ns).map .int) m else .bad
    | none => .bad
  | [.d (.list ds)] => match intsOf ds with
    | some ns => if ns.length < 60 then newL mu ((upInts ns).map .int) m else .bad
    | none => if setOk ds then newL mu (sortD (uniqK ds)) m else .bad
  | _ => .bad
/-- list(d.values()) -/
def bValues (mu : Bool) (ws : List W) (m : MH) : R W := match ws with
  | [x] => match rd m x with
    | some (.dict kvs) => newL mu (kvs.map (·.2)) m
    | _ => .bad
  | _ => .bad
/-- pairs put into a dict, one after the other -/
def dputs : List D → List (D × D) → Option (List (D × D))
  | [], kvs => some kvs
  | .tuple [k, v] :: ds, kvs => match keyT k with
    | some nk => dputs ds (dput kvs nk k v)
    | none => none
  | _ :: _, _ => none
/-- dict(pairs) -/
def bDict (mu : Bool) (ws : List W) (m : MH) : R W := match ws with
  | [.d (.list ds)] => match dputs ds [] with
    | some kvs => newD mu kvs m
    | none => .bad
  | _ => .bad
/-- list(range(a, b)) -/
def bListRange (mu : Bool) (ws : List W) (m : MH) : R W := match ws with
  | [.d (.int a), .d (.int b)] => if decide (-(2 ^ 61) ≤ a) && decide (a < 2 ^ 61) && decide (-(2 ^ 61) ≤ b) && decide (b < 2 ^ 61) && decide (b - a ≤ 16777216) then newL mu (rangeD a (b - a).toNat) m else .bad
  | _ => .bad
/-- xs[::-1] -/
def bRev (mu : Bool) (ws : List W) (m : MH) : R W := match ws with
  | [x] => match rdL m x with
    | some ds => newL mu ds.reverse m
    | none => .bad
  | _ => .bad
def bltW (mu : Bool) (f : Str) (ws : List W) (m : MH) : R W :=
  if f = "len" then bLen ws m
  else if f = "all" then bAll ws m
  else if f = "any" then bAny ws m
  else if f = "list" then bList mu ws m
  else if f = "tuple" then bTuple ws m
  else if f = "int" then bInt ws m
  else if f = "max" then bMax ws m
  else if f = "min" then bMin ws m
  else if f = "sorted set!" then bSortedSet mu ws m
  else if f = "list range!" then bListRange mu ws m
  else if f = "reversed!" then bRev mu ws m
  else if f = "sorted" then bSorted mu ws m
  else if f = "list values!" then bValues mu ws m
  else if f = "dict" then bDict mu ws m
  else .bad
def mAppend (x : W) (ws : List W) (m : MH) : R W := match x, ws with
  | .r i, [.d d] => match m[i]? with
    | some (.lst ds) => if ds.length < sizeLine then .ok (.d .none) (m.set i (.lst (ds ++ [d]))) else .bad
    | _ => .bad
  | _, _ => .bad
/-- what the receiver must be -/
def preMeth (f : Str) (x : W) (m : MH) : Bool :=
  if f = "append" then match x with
    | .r i => match m[i]? with
      | some (.lst _) => true
      | _ => false
    | _ => false
  else if f = "get" then match rd m x with
    | some (.dict _) => true
    | _ => false
  else false
def mGet (x : W) (ws : List W) (m : MH) : R W := match rd m x, ws with
  | some (.dict kvs), [.d k] => match dget kvs k with
    | some (some v) => .ok (.d v) m
    | some none => .ok (.d .none) m
    | none => .bad
  | _, _ => .bad
def methW (mu : Bool) (f : Str) (x : W) (ws : List W) (m : MH) : R W :=
  if f = "append" then mAppend x ws m
  else if f = "get" then mGet x ws m
  else .bad
/-- x[i] = v -/
def subW (x i v : W) (m : MH) : R Unit := match x, i, v with
  | .r p, .d (.int k), .d d => match m[p]? with
    | some (.lst ds) => match ixN ds.length k with
      | some j => .ok () (m.set p (.lst (ds.set j d)))
      | none => .bad
    | _ => .bad
  | .r p, .d k, .d d => match m[p]? with
    | some (.dct kvs) => match keyT k with
      | some nk => if tupKs kvs && decide (kvs.length < sizeLine) then .ok () (m.set p (.dct (dput kvs nk k d))) else .bad
      | none => .bad
    | _ => .bad
  | _, _, _ => .bad
/-- what a loop walks: values told beforehand, or the list at a place as it stands at each turn -/
inductive Src where
  | vals (ds : List D)
  | dyn (i : Nat)
def srcOf (w : W) (m : MH) : Option Src := match w with
  | .d (.list ds) => some (.vals ds)
  | .d (.tuple ds) => some (.vals ds)
  | .d (.dict kvs) => some (.vals (kvs.map (·.1)))
  | .d _ => none
  | .r i => match m[i]? with
    | some (.lst _) => some (.dyn i)
    | _ => none
  | .s _ => none
def zipD : List D → List D → List D
  | x :: xs, y :: ys => .tuple [x, y] :: zipD xs ys
  | _, _ => []
def enumD : Nat → List D → List D
  | _, [] => []
  | n, x :: xs => .tuple [.int n, x] :: enumD (n + 1) xs
/-- a target: one name, or a tuple of names -/
def asgTg (tg : List Nat) (tt : Bool) (d : D) (e : Env) : Option Env :=
  if tt then match d with
    | .tuple ds => if ds.length = tg.length then some ((tg.zip ds).foldl (fun e p => e.set p.1 (some (.d p.2))) e) else none
    | _ => none
  else match tg with
    | [i] => some (e.set i (some (.d d)))
    | _ => none
def wipeE (e : Env) : List Nat → Env
  | [] => e
  | v :: vs => (wipeE e vs).set v none

mutual
/-- no list in it -/
def noL : D → Bool
  | .list _ => false
  | .dict _ => false
  | .tuple ds => noLs ds
  | .none => true
  | .bool _ => true
  | .int _ => true
  | .str _ => true
def noLs : List D → Bool
  | [] => true
  | d :: ds => noL d && noLs ds
end
def pureW : W → Bool
  | .d d => noL d
  | _ => false
/-! ### expressions -/
abbrev CallS := Str → List W → MH → R W
/-- a call with arguments without lists, whose list is a new one -/
def callN (C : CallS) (f : Str) (ws : List W) (m : MH) : R W := if ws.all pureW then (match C f ws [] with
  | .ok (.d (.list ds)) _ => if noLs ds then .ok (.r m.length) (m ++ [.lst ds]) else .bad
  | .exc c [] _ => .exc c [] m
  | _ => .bad) else .bad
/-- [.. for .. in the values] -/
def compV (f : D → MH → R (Option D)) : List D → List D → MH → R (List D)
  | [], acc, m => .ok acc m
  | d :: ds, acc, m => (f d m).bind fun r m' => compV f ds (match r with | some y => acc ++ [y] | none => acc) m'
/-- a part of a slice -/
def partOf (a : SE) (m : MH) (r : R W) : R (Option Int) := match a with
  | .nop => .ok none m
  | _ => r.bind fun x m => match x with
    | .d (.int i) => .ok (some i) m
    | _ => .bad
def condOf (a : SE) (m : MH) (r : R Bool) : R Bool := match a with
  | .nop => .ok true m
  | _ => r
/-- .. over the list at p, as it stands at each turn -/
def compP (f : D → MH → R (Option D)) (p : Nat) : Nat → Nat → List D → MH → R (List D)
  | 0, i, acc, m => match m[p]? with
    | some (.lst ds) => if ds.length ≤ i then .ok acc m else .bad
    | _ => .bad
  | n + 1, i, acc, m => match m[p]? with
    | some (.lst ds) => match ds[i]? with
      | none => .ok acc m
      | some d => (f d m).bind fun r m' => compP f p n (i + 1) (match r with | some y => acc ++ [y] | none => acc) m'
    | _ => .bad
def lenAt (m : MH) (p : Nat) : Nat := match m[p]? with
  | some (.lst ds) => ds.length
  | _ => 0
/-- one turn of a comprehension -/
def compF (tg : List Nat) (tt : Bool) (own : List Nat) (e : Env) (test : Env → MH → R Bool) (elt : Env → MH → R W) (d : D) (m : MH) : R (Option D) := match asgTg tg tt d (wipeE e own) with
  | none => .bad
  | some e' => (test e' m).nox.bind fun k m => if k then (elt e' m).nox.bind fun y m => match y with
    | .d y => .ok (some y) m
    | _ => .bad
    else .ok none m
mutual
def evE (C : CallS) (G : Str → Option D) : SE → Env → MH → R W
  | .var i, e, m => match e[i]? with
    | some (some w) => .ok w m
    | _ => .bad
  | .dat d, _, m => .ok (.d d) m
  | .glob x, _, m => match G x with
    | some d => .ok (.d d) m
    | none => .bad
  | .neg a, e, m => (evE C G a e m).bind fun x m => match x with
    | .d (.int i) => .ok (.d (.int (-i))) m
    | _ => .bad
  | .not a, e, m => (evE C G a e m).bind fun x m => (truW x m).bind fun b m => .ok (.d (.bool (!b))) m
  | .and a b, e, m => (evE C G a e m).bind fun x m => (truW x m).bind fun c m => if c then evE C G b e m else .ok x m
  | .or a b, e, m => (evE C G a e m).bind fun x m => (truW x m).bind fun c m => if c then .ok x m else evE C G b e m
  | .bin mu op a b, e, m => (evE C G a e m).bind fun x m => (evE C G b e m).bind fun y m => binW mu op x y m
  | .cmp op a b, e, m => (evE C G a e m).bind fun x m => (evE C G b e m).bind fun y m => (cmpW op x y m).bind fun c m => .ok (.d (.bool c)) m
  | .chain o1 o2 a b c, e, m => (evE C G a e m).bind fun x m => (evE C G b e m).bind fun y m => (cmpW o1 x y m).bind fun k m =>
      if k then (evE C G c e m).bind fun z m => (cmpW o2 y z m).bind fun k m => .ok (.d (.bool k)) m else .ok (.d (.bool false)) m
  | .ite c a b, e, m => (evT C G c e m).bind fun k m => if k then evE C G a e m else evE C G b e m
  | .tup es, e, m => (evA C G es e m).bind fun ds m => .ok (.d (.tuple ds)) m
  | .lst mu es, e, m => (evA C G es e m).bind fun ds m => newL mu ds m
  | .call f es, e, m => (evW C G es e m).bind fun ws m => C f ws m
  | .callN f es, e, m => (evW C G es e m).bind fun ws m => callN C f ws m
  | .blt mu f es, e, m => (evW C G es e m).bind fun ws m => bltW mu f ws m
  | .isin T a, e, m => (evE C G a e m).bind fun x m => match (rd m x).bind (isinD T) with
    | some c => .ok (.d (.bool c)) m
    | none => .bad
  | .idx a b, e, m => (evE C G a e m).bind fun x m => (evE C G b e m).bind fun y m => idxW x y m
  | .slc mu a lo hi, e, m => (evE C G a e m).bind fun x m => (partOf lo m (evE C G lo e m)).bind fun l m => (partOf hi m (evE C G hi e m)).bind fun h m => slcW mu x l h m
  | .nop, _, _ => .bad
  | .comp mu elt tg tt src cond own, e, m => (evI C G src e m).bind fun s m => (match s with
    | .vals ds => compV (compF tg tt own e (fun e' m => condOf cond m (evT C G cond e' m)) (evE C G elt)) ds [] m
    | .dyn p => compP (compF tg tt own e (fun e' m => condOf cond m (evT C G cond e' m)) (evE C G elt)) p (lenAt m p) 0 [] m).bind fun ys m => newL mu ys m
  | .meth mu f a es, e, m => (evE C G a e m).bind fun x m => if preMeth f x m then (evW C G es e m).bind fun ws m => methW mu f x ws m else .bad
  | .dct0 mu, _, m => newD mu [] m
  | .dct1 mu a b, e, m => (evE C G a e m).nox.bind fun x m => (evE C G b e m).nox.bind fun y m => match x, y with
    | .d k, .d v => match keyT k with
      | some _ => newD mu [(k, v)] m
      | none => .bad
    | _, _ => .bad
/-- a test -/
def evT (C : CallS) (G : Str → Option D) : SE → Env → MH → R Bool
  | .not a, e, m => (evT C G a e m).bind fun b m => .ok (!b) m
  | .and a b, e, m => (evT C G a e m).bind fun c m => if c then evT C G b e m else .ok false m
  | .or a b, e, m => (evT C G a e m).bind fun c m => if c then .ok true m else evT C G b e m
  | .cmp op a b, e, m => (evE C G a e m).bind fun x m => (evE C G b e m).bind fun y m => cmpW op x y m
  | .chain o1 o2 a b c, e, m => (evE C G a e m).bind fun x m => (evE C G b e m).bind fun y m => (cmpW o1 x y m).bind fun k m =>
      if k then (evE C G c e m).bind fun z m => cmpW o2 y z m else .ok false m
  | .ite c a b, e, m => (evT C G c e m).bind fun k m => if k then evT C G a e m else evT C G b e m
  | .isin T a, e, m => (evE C G a e m).bind fun x m => match (rd m x).bind (isinD T) with
    | some c => .ok c m
    | none => .bad
  | .call f es, e, m => ((evW C G es e m).bind fun ws m => C f ws m).bind truW
  | .blt mu f es, e, m => ((evW C G es e m).bind fun ws m => bltW mu f ws m).bind truW
  | .var i, e, m => match e[i]? with
    | some (some w) => truW w m
    | _ => .bad
  | .idx a b, e, m => ((evE C G a e m).bind fun x m => (evE C G b e m).bind fun y m => idxW x y m).bind truW
  | _, _, _ => .bad
/-- items, as data -/
def evA (C : CallS) (G : Str → Option D) : SEs → Env → MH → R (List D)
  | .nil, _, m => .ok [] m
  | .cons a es, e, m => (evE C G a e m).bind fun x m => match x with
    | .d d => (evA C G es e m).bind fun ds m => .ok (d :: ds) m
    | _ => .bad
/-- arguments -/
def evW (C : CallS) (G : Str → Option D) : SEs → Env → MH → R (List W)
  | .nil, _, m => .ok [] m
  | .cons a es, e, m => (evE C G a e m).bind fun x m => (evW C G es e m).bind fun ds m => .ok (x :: ds) m
def evI (C : CallS) (G : Str → Option D) : SI → Env → MH → R Src
  | .val a, e, m => (evE C G a e m).bind fun x m => match srcOf x m with
    | some s => .ok s m
    | none => .bad
  | .rng1 a, e, m => (evE C G a e m).bind fun x m => match x with
    | .d (.int j) => if decide (-(2 ^ 62) ≤ j) && decide (j ≤ 16777216) then .ok (.vals (rangeD 0 j.toNat)) m else .bad
    | _ => .bad
  | .rng2 a b, e, m => (evE C G a e m).bind fun x m => (evE C G b e m).bind fun y m => match x, y with
    | .d (.int i), .d (.int j) => if decide (-(2 ^ 61) ≤ i) && decide (i < 2 ^ 61) && decide (-(2 ^ 61) ≤ j) && decide (j < 2 ^ 61) && decide (j - i ≤ 16777216) then .ok (.vals (rangeD i (j - i).toNat)) m else .bad
    | _, _ => .bad
  | .enum a, e, m => (evE C G a e m).bind fun x m => match x with
    | .d (.list ds) => .ok (.vals (enumD 0 ds)) m
    | .d (.tuple ds) => .ok (.vals (enumD 0 ds)) m
    | _ => .bad
  | .zip a b, e, m => (evE C G a e m).bind fun x m => (evE C G b e m).bind fun y m => match x, y with
    | .d (.list xs), .d (.list ys) => .ok (.vals (zipD xs ys)) m
    | _, _ => .bad
  | .items a, e, m => (evE C G a e m).bind fun x m => match x with
    | .d (.dict kvs) => .ok (.vals (kvs.map fun p => .tuple [p.1, p.2])) m
    | _ => .bad
  | .values _, _, _ => .bad
end

/-! ### statements -/
def RS.thn (x : RS) (f : Env → MH → RS) : RS := match x with
  | .nx e m => f e m
  | x => x
def R.thn {α : Type} (x : R α) (e : Env) (f : α → MH → RS) : RS := match x with
  | .ok a m => f a m
  | .exc c fs m => .exc c fs e m
  | .bad => .bad
@[simp] theorem RS.thn_nx (e : Env) (m : MH) (f : Env → MH → RS) : (RS.nx e m).thn f = f e m := Eq.trans rfl rfl
@[simp] theorem RS.thn_rt (w : W) (m : MH) (f : Env → MH → RS) : (RS.rt w m).thn f = .rt w m := Eq.trans rfl rfl
@[simp] theorem RS.thn_bk (e : Env) (m : MH) (f : Env → MH → RS) : (RS.bk e m).thn f = .bk e m := Eq.trans rfl rfl
@[simp] theorem RS.thn_ct (e : Env) (m : MH) (f : Env → MH → RS) : (RS.ct e m).thn f = .ct e m := Eq.trans rfl rfl
@[simp] theorem RS.thn_exc (c : Str) (fs : List (Str × D)) (e : Env) (m : MH) (f : Env → MH → RS) : (RS.exc c fs e m).thn f = .exc c fs e m := Eq.trans rfl rfl
@[simp] theorem R.thn_ok {α : Type} (a : α) (m : MH) (e : Env) (f : α → MH → RS) : (R.ok a m).thn e f = f a m := Eq.trans rfl rfl
@[simp] theorem R.thn_exc {α : Type} (c : Str) (fs : List (Str × D)) (m : MH) (e : Env) (f : α → MH → RS) : (R.exc c fs m : R α).thn e f = .exc c fs e m := Eq.trans rfl rfl
/-- a loop over values -/
def forV (asg : D → Env → Option Env) (body : Env → MH → RS) : List D → Env → MH → RS
  | [], e, m => .nx e m
  | d :: ds, e, m => match asg d e with
    | none => .bad
    | some e' => match body e' m with
      | .nx e m => forV asg body ds e m
      | .ct e m => forV asg body ds e m
      | .bk e m => .nx e m
      | x => x
/-- a loop over the list at p, as it stands at each turn -/
def forP (asg : D → Env → Option Env) (body : Env → MH → RS) (p : Nat) : Nat → Nat → Env → MH → RS
  | 0, i, e, m => match m[p]? with
    | some (.lst ds) => if ds.length ≤ i then .nx e m else .bad
    | _ => .bad
  | n + 1, i, e, m => match m[p]? with
    | some (.lst ds) => match ds[i]? with
      | none => .nx e m
      | some d => match asg d e with
        | none => .bad
        | some e' => match body e' m with
          | .nx e m => forP asg body p n (i + 1) e m
          | .ct e m => forP asg body p n (i + 1) e m
          | .bk e m => .nx e m
          | x => x
    | _ => .bad
def whileF (test : Env → MH → R Bool) (body : Env → MH → RS) : Nat → Env → MH → RS
  | 0, _, _ => .bad
  | n + 1, e, m => (test e m).thn e fun c m => if c then match body e m with
      | .nx e m => whileF test body n e m
      | .ct e m => whileF test body n e m
      | .bk e m => .nx e m
      | x => x
    else .nx e m
/-- the most turns of a while -/
def whileMost : Nat := 1000000000
def setAll (is : List Nat) (ws : List W) (e : Env) : Env := (is.zip ws).foldl (fun e p => e.set p.1 (some p.2)) e
mutual
def evS (C : CallS) (G : Str → Option D) (X : Str → Str → Bool) : SS → Env → MH → RS
  | .asg i a, e, m => (evE C G a e m).thn e fun x m => .nx (e.set i (some x)) m
  | .asgT is a, e, m => (evE C G a e m).thn e fun x m => match x with
    | .d d => match asgTg is true d e with
      | some e => .nx e m
      | none => .bad
    | _ => .bad
  | .par is es, e, m => (evW C G es e m).thn e fun ws m => if ws.length = is.length then .nx (setAll is ws e) m else .bad
  | .sub o i a, e, m => (evE C G a e m).thn e fun v m => (evE C G o e m).thn e fun x m => (evE C G i e m).thn e fun k m => (subW x k v m).thn e fun _ m => .nx e m
  | .expr a, e, m => (evE C G a e m).thn e fun _ m => .nx e m
  | .ret a, e, m => (evE C G a e m).thn e fun x m => .rt x m
  | .retN, _, m => .rt (.d .none) m
  | .ite c a b, e, m => (evT C G c e m).thn e fun k m => if k then evSs C G X a e m else evSs C G X b e m
  | .for_ tg tt src b, e, m => (evI C G src e m).thn e fun s m => match s with
    | .vals ds => forV (asgTg tg tt) (evSs C G X b) ds e m
    | .dyn p => forP (asgTg tg tt) (evSs C G X b) p (lenAt m p) 0 e m
  | .whl c b, e, m => whileF (evT C G c) (evSs C G X b) whileMost e m
  | .raise c, e, m => .exc c [] e m
  | .try_ b hs, e, m => match evSs C G X b e m with
    | .exc c fs e m => evHs C G X hs c fs e m
    | x => x
  | .pass, e, m => .nx e m
  | .brk, e, m => .bk e m
  | .cont, e, m => .ct e m
def evSs (C : CallS) (G : Str → Option D) (X : Str → Str → Bool) : SSs → Env → MH → RS
  | .nil, e, m => .nx e m
  | .cons s ss, e, m => (evS C G X s e m).thn fun e m => evSs C G X ss e m
def evHs (C : CallS) (G : Str → Option D) (X : Str → Str → Bool) : SHs → Str → List (Str × D) → Env → MH → RS
  | .nil, c, fs, e, m => .exc c fs e m
  | .cons k b hs, c, fs, e, m => if X c k then evSs C G X b e m else evHs C G X hs c fs e m
end

/-! ### defs -/
structure Fn where
  name : Str
  np : Nat
  N : List Str
  body : SSs
  keep : Bool
/-- a call's end: what the callee has made and hands back becomes data; the rest is forgotten -/
def endCall (keep : Bool) (n : Nat) (w : W) (m : MH) : R W :=
  if keep then .ok w m else match w with
    | .d d => .ok (.d d) (m.take n)
    | .r i => if i < n then .ok (.r i) (m.take n) else match rd m (.r i) with
      | some d => .ok (.d d) (m.take n)
      | none => .bad
    | .s ns => .ok (.s ns) (m.take n)
def run (F : List Fn) (G : Str → Option D) (X : Str → Str → Bool) : Nat → CallS
  | 0, _, _, _ => .bad
  | k + 1, f, ws, m => match F.find? (fun fn => decide (fn.name = f)) with
    | none => .bad
    | some fn => if ws.length = fn.np then
        match evSs (run F G X k) G X fn.body (startE fn.N.length ws) m with
        | .nx _ m' => endCall fn.keep m.length (.d .none) m'
        | .rt w m' => endCall fn.keep m.length w m'
        | .exc c fs _ m' => .exc c fs (m'.take m.length)
        | _ => .bad
      else .bad
end Sim
set_option maxHeartbeats 1000000
namespace Sim
open PySem PySem.Spec PyProof.Rows L2

/-! ### from the model's syntax to the small language -/
structure Gam where
  N : List Str
  sc : Scope
  F : List (Str × Nat)
  B : List Str
  G : List Str
  E : List Str
  mutn : List Str
  retm : Bool
  fnAll : Bool

def ixOf (x : Str) : List Str → Option Nat
  | [] => none
  | y :: ys => if x = y then some 0 else (ixOf x ys).map (· + 1)
theorem ixOf_get {x : Str} : ∀ {l : List Str} {i : Nat}, ixOf x l = some i → l[i]? = some x
  | [], _, h => by cases h
  | y :: ys, i, h => by
    unfold ixOf at h
    split at h
    · cases h; subst_vars; rfl
    · cases e : ixOf x ys with
      | none => rw [e] at h; cases h
      | some j =>
        rw [e] at h
        cases h
        simpa using ixOf_get e
def okName (x : Str) : Bool := !(x == ("__debug__" : Str)) && !(x == ("__classdict__" : Str)) && decide (x ≠ "__name__")
/-- a name of the module's or the built-ins' -/
def isGl (Γ : Gam) (x : Str) : Bool := match Γ.sc.names.lookup x with
  | some .globalImplicit => okName x
  | _ => false
def isBlt (Γ : Gam) (x : Str) : Bool := isGl Γ x && Γ.B.contains x
/-- a name that may be stored -/
def slot (Γ : Gam) (x : Str) : Option Nat := match Γ.sc.names.lookup x with
  | some .local => ixOf x Γ.N
  | some .cell => if Γ.fnAll then ixOf x Γ.N else none
  | _ => none
def locSlot (Γ : Gam) (x : Str) : Option Nat := match Γ.sc.names.lookup x with
  | some .local => ixOf x Γ.N
  | _ => none
def cOp : Operator → Option BOp
  | .Add => some .add | .Sub => some .sub | .Mult => some .mul | .Mod => some .mod | .FloorDiv => some .fdiv | .Pow => some .pow
  | _ => none
def cCmp : CmpOp → Option COp
  | .Eq => some .eq | .NotEq => some .ne | .Lt => some .lt | .LtE => some .le | .Gt => some .gt | .GtE => some .ge | .In => some .in_ | .NotIn => some .nin | .Is => some .is_ | .IsNot => some .isn
def typeNames : List Str := ["int", "bool", "str", "tuple", "list"]
def plainBlts : List Str := ["len", "all", "any", "list", "tuple", "int", "max", "min"]
def noSet : Expr → Bool
  | .Set .. => false
  | _ => true
def noSlice : Expr → Bool
  | .Slice .. => false
  | _ => true
def noStar : Expr → Bool
  | .Starred .. => false
  | _ => true
/-- the names of a target -/
def tgNames : List Expr → Option (List Str)
  | [] => some []
  | .Name x _ :: r => (tgNames r).map (x :: ·)
  | _ :: _ => none
def allSome {α : Type} : List (Option α) → Option (List α)
  | [] => some []
  | some x :: r => (allSome r).map (x :: ·)
  | none :: _ => none
/-- the names of a comprehension's own, with their places -/
def ownOf (N : List Str) (scope : Scope) : Option (List (Str × Nat)) :=
  some ((scope.names.filter fun y => match y.2 with | .local => true | .cell => true | _ => false).filterMap fun y => (ixOf y.1 N).map fun i => (y.1, i))
def tgOf (Γ : Gam) : Expr → Option (List Nat × Bool)
  | .Name x _ => (locSlot Γ x).map fun i => ([i], false)
  | .Tuple es _ _ => (tgNames es).bind fun xs => (allSome (xs.map (locSlot Γ))).map fun is => (is, true)
  | _ => none
/-- an object whose attribute is asked for plainly -/
def plainBase : Expr → Bool
  | .Call _ [] _ _ => false
  | _ => true
def isCall : Expr → Bool
  | .Call .. => true
  | _ => false
def isNop : SE → Bool
  | .nop => true
  | _ => false
def siPair : SI → Bool
  | .enum _ => true
  | .zip _ _ => true
  | .items _ => true
  | _ => false
def inner (Γ : Gam) (scope : Scope) : Gam := { Γ with sc := relS scope Γ.sc, fnAll := false, mutn := [], retm := false }

mutual
def cE : Nat → Gam → Bool → Expr → Option SE
  | 0, _, _, _ => none
  | n + 1, Γ, mu, e => match e with
    | .Constant c _ _ => match c with
      | .int i => some (.dat (.int i))
      | .str x => if x.length ≤ 10000 then some (.dat (.str x)) else none
      | .bool b => some (.dat (.bool b))
      | .none => some (.dat .none)
      | _ => none
    | .Name x _ => match Γ.sc.names.lookup x with
      | some .globalImplicit => if okName x && Γ.G.contains x then some (.glob x) else none
      | some .local => if okName x then (ixOf x Γ.N).map .var else none
      | some .cell => if okName x then (ixOf x Γ.N).map .var else none
      | some .free => if okName x then (ixOf x Γ.N).map .var else none
      | _ => none
    | .UnaryOp op a _ => match op with
      | .USub => (cE n Γ false a).map .neg
      | .Not => (cE n Γ false a).map .not
      | _ => none
    | .BoolOp op es _ => match op, es with
      | .And, [a] => cE n Γ false a
      | .And, a :: b :: r => match cE n Γ false a, cE n Γ false (.BoolOp .And (b :: r) e.pos) with
        | some a, some b => some (.and a b)
        | _, _ => none
      | .Or, [a] => cE n Γ false a
      | .Or, a :: b :: r => match cE n Γ false a, cE n Γ false (.BoolOp .Or (b :: r) e.pos) with
        | some a, some b => some (.or a b)
        | _, _ => none
      | _, _ => none
    | .BinOp a op b _ => match cOp op, cE n Γ false a, cE n Γ false b with
      | some op, some a, some b => some (.bin mu op a b)
      | _, _, _ => none
    | .Compare a ops bs _ => match ops, bs with
      | [op], [b] => if noSet b then match cCmp op, cE n Γ false a, cE n Γ false b with
        | some op, some a, some b => some (.cmp op a b)
        | _, _, _ => none else none
      | [o1, o2], [b, c] => if noSet c then match cCmp o1, cCmp o2, cE n Γ false a, cE n Γ false b, cE n Γ false c with
        | some o1, some o2, some a, some b, some c => some (.chain o1 o2 a b c)
        | _, _, _, _, _ => none else none
      | _, _ => none
    | .IfExp c a b _ => match cE n Γ false c, cE n Γ mu a, cE n Γ mu b with
      | some c, some a, some b => some (.ite c a b)
      | _, _, _ => none
    | .Tuple es _ _ => if es.length ≤ 1000 then (cA n Γ es).map .tup else none
    | .List es _ => if es.length ≤ 1000 then (cA n Γ es).map (.lst mu) else none
    | .Dict ks vs _ => match ks, vs with
      | [], [] => some (.dct0 mu)
      | [some k], [v] => match cE n Γ false k, cE n Γ false v with
        | some k, some v => some (.dct1 mu k v)
        | _, _ => none
      | _, _ => none
    | .Subscript a i _ => match i with
      | .Slice lo hi none _ => match cE n Γ false a, cO n Γ lo, cO n Γ hi with
        | some a, some lo, some hi => some (.slc mu a lo hi)
        | _, _, _ => none
      | .Slice none none (some (.UnaryOp .USub (.Constant (.int 1) _ _) _)) _ => match cE n Γ false a with
        | some a => some (.blt mu "reversed!" (.cons a .nil))
        | none => none
      | _ => if noSlice i then match cE n Γ false a, cE n Γ false i with
        | some a, some i => some (.idx a i)
        | _, _ => none else none
    | .Call f es kws _ => match f, kws with
      | .Name x _, [] =>
        if isGl Γ x then
          if x = "isinstance" then match es with
            | [a, .Name T _] => if isBlt Γ x && isBlt Γ T && typeNames.contains T && noStar a then (cE n Γ false a).map (.isin T) else none
            | _ => none
          else if Γ.F.lookup x = some es.length then (if mu && decide (x ≠ "_law_source") && decide (0 < es.length) then (cA n Γ es).map (.callN x) else (cA n Γ es).map (.call x))
          else if isBlt Γ x && x = "sorted" then match es with
            | [.Call (.Name y p) [a] [] q] => if isBlt Γ y && y = "set" && noStar a then (cE n Γ false a).map fun a => .blt mu "sorted set!" (.cons a .nil) else (cE n Γ false (.Call (.Name y p) [a] [] q)).map fun a => .blt mu "sorted" (.cons a .nil)
            | [a] => if noStar a then (cE n Γ false a).map fun a => .blt mu "sorted" (.cons a .nil) else none
            | _ => none
          else if isBlt Γ x && x = "dict" then match es with
            | [a] => if noStar a then (cE n Γ false a).map fun a => .blt mu "dict" (.cons a .nil) else none
            | _ => none
          else if isBlt Γ x && x = "list" then match es with
            | [.Call (.Name y p) [a, b] [] q] => if isBlt Γ y && y = "range" && noStar a && noStar b then (match cE n Γ false a, cE n Γ false b with
                | some a, some b => some (.blt mu "list range!" (.cons a (.cons b .nil)))
                | _, _ => none) else (cE n Γ false (.Call (.Name y p) [a, b] [] q)).map fun a => .blt mu "list" (.cons a .nil)
            | [.Call (.Name y p) [a] [] q] => if isBlt Γ y && y = "range" && noStar a then (cE n Γ false a).map fun a => .blt mu "list range!" (.cons (.dat (.int 0)) (.cons a .nil)) else (cE n Γ false (.Call (.Name y p) [a] [] q)).map fun a => .blt mu "list" (.cons a .nil)
            | [.Call (.Attribute o m ap) [] [] cp] => if m = "values" && plainBase o && (ap.endLine == cp.line) then (cE n Γ false o).map fun a => .blt mu "list values!" (.cons a .nil) else none
            | [a] => if noStar a then (cE n Γ false a).map fun a => .blt mu "list" (.cons a .nil) else none
            | _ => none
          else if isBlt Γ x && plainBlts.contains x && decide (0 < es.length) then (cA n Γ es).map (.blt mu x)
          else none
        else none
      | .Attribute o m ap, [] => if m = "append" && plainBase o && (ap.endLine == e.pos.line) then match es with
          | [a] => if noStar a then match cE n Γ (isCall o) o, cE n Γ false a with
            | some o, some a => some (.meth mu "append" o (.cons a .nil))
            | _, _ => none else none
          | _ => none
        else if m = "get" && plainBase o && (ap.endLine == e.pos.line) then match es with
          | [a] => if noStar a then match cE n Γ (isCall o) o, cE n Γ false a with
            | some o, some a => some (.meth mu "get" o (.cons a .nil))
            | _, _ => none else none
          | _ => none
        else none
      | _, _ => none
    | .ListComp elt gens scope _ => match gens with
      | [⟨tg, iter, ifs, 0⟩] => if noSet iter then match cI n Γ iter, ownOf Γ.N scope, tgOf (inner Γ scope) tg with
        | some src, some own, some (is, tt) => if blkC Γ.N Γ.sc scope own && is.all (fun i => own.any fun p => p.2 == i) && (!siPair src || tt) then match (match ifs with
            | [] => some SE.nop
            | [c] => cE n (inner Γ scope) false c
            | _ => none), cE n (inner Γ scope) false elt with
          | some cond, some elt => some (.comp mu elt is tt src cond (own.map (·.2)))
          | _, _ => none else none
        | _, _, _ => none else none
      | _ => none
    | _ => none
def cA : Nat → Gam → List Expr → Option SEs
  | 0, _, _ => none
  | _ + 1, _, [] => some .nil
  | n + 1, Γ, e :: es => if noStar e then match cE n Γ false e, cA n Γ es with
    | some e, some es => some (.cons e es)
    | _, _ => none else none
def cO : Nat → Gam → Option Expr → Option SE
  | 0, _, _ => none
  | _ + 1, _, none => some .nop
  | n + 1, Γ, some e => (cE n Γ false e).bind fun s => if isNop s then none else some s
def cI : Nat → Gam → Expr → Option SI
  | 0, _, _ => none
  | n + 1, Γ, e => match e with
    | .Call (.Name x _) [a] [] _ => if isBlt Γ x && x = "range" && noStar a then (cE n Γ false a).map .rng1
      else if isBlt Γ x && x = "enumerate" && noStar a then (cE n Γ false a).map .enum else (cE n Γ false e).map .val
    | .Call (.Name x _) [a, b] [] _ => if isBlt Γ x && x = "range" && noStar a && noStar b then (match cE n Γ false a, cE n Γ false b with
        | some a, some b => some (.rng2 a b)
        | _, _ => none)
      else if isBlt Γ x && x = "zip" && noStar a && noStar b then (match cE n Γ false a, cE n Γ false b with
        | some a, some b => some (.zip a b)
        | _, _ => none)
      else (cE n Γ false e).map .val
    | .Call (.Attribute o m ap) [] [] cp => if m = "items" && plainBase o && (ap.endLine == cp.line) then (cE n Γ false o).map .items else none
    | _ => if noSet e then (cE n Γ false e).map .val else none
end

/-- the model's swappedStores, where the block is a def -/
def nameOn (sc : Scope) (line : Nat) : Expr → Option Str
  | .Name id pos => if sc.names.lookup id == some .local && pos.line == line then some id else none
  | _ => none
def isStar : Expr → Bool
  | .Starred .. => true
  | _ => false
def swp (sc : Scope) (ts vs : List Expr) : Option (Option (List Str)) :=
  if !(ts.length == 2 || ts.length == 3) || vs.length != ts.length then some none
  else if vs.any isStar then some none
  else
    let names := ts.filterMap (nameOn sc ((ts.head?.map (·.pos.line)).getD 0))
    if names.length != ts.length || names.eraseDups.length != names.length then some none
    else if vs.all (foldedForSure 8) then some none
    else if vs.all (constantsAlone 8) then none
    else some (some names)
def cPar (f : Bool → Expr → Option SE) (mutn : List Str) : List Str → List Expr → Option SEs
  | [], [] => some .nil
  | x :: xs, e :: es => if noStar e then match f (mutn.contains x) e, cPar f mutn xs es with
    | some e, some es => some (.cons e es)
    | _, _ => none else none
  | _, _ => none
def distinct : List Nat → Bool
  | [] => true
  | i :: is => !is.contains i && distinct is
/-- an except clause's suite -/
def cSu (Γ : Gam) : List Stmt → Option SSs
  | [.Return (some (.Constant (.bool b) _ _)) _] => some (.cons (.ret (.dat (.bool b))) .nil)
  | [.Return (some (.Constant (.str x) _ _)) _] => if x.length ≤ 10000 then some (.cons (.ret (.dat (.str x))) .nil) else none
  | [.Return (some (.Constant .none _ _)) _] => some (.cons (.ret (.dat .none)) .nil)
  | [.Continue _] => some (.cons .cont .nil)
  | [.Pass _] => some (.cons .pass .nil)
  | _ => none
def cHs (Γ : Gam) : List ExceptHandler → Option SHs
  | [] => some .nil
  | .ExceptHandler (some (.Name c _)) none (b :: suite) _ :: hds => if isGl Γ c && Γ.E.contains c then match cSu Γ (b :: suite), cHs Γ hds with
    | some s, some hs => some (.cons c s hs)
    | _, _ => none else none
  | _ :: _ => none

mutual
def cS : Nat → Gam → Stmt → Option SS
  | 0, _, _ => none
  | n + 1, Γ, s => match s with
    | .Return (some e) _ => (cE n Γ Γ.retm e).map .ret
    | .Return none _ => some .retN
    | .Pass _ => some .pass
    | .Break _ => some .brk
    | .Continue _ => some .cont
    | .Expr e _ => match e with
      | .Call .. => (cE n Γ false e).map .expr
      | _ => none
    | .If c a b _ => match cE n Γ false c, cSs n Γ a, cSs n Γ b with
      | some c, some a, some b => some (.ite c a b)
      | _, _, _ => none
    | .While c b [] _ => match cE n Γ false c, cSs n Γ b with
      | some c, some b => some (.whl c b)
      | _, _ => none
    | .For tg iter b [] _ => if noSet iter then match (match tg with
          | .Name x _ => (slot Γ x).map fun i => ([i], false)
          | .Tuple es _ _ => (tgNames es).bind fun xs => (allSome (xs.map (slot Γ))).map fun is => (is, true)
          | _ => none), cI n Γ iter, cSs n Γ b with
      | some (is, tt), some src, some b => if !siPair src || tt then some (.for_ is tt src b) else none
      | _, _, _ => none else none
    | .Assign [tg] e p => match tg with
      | .Name x px => match slot Γ x with
        | some i => match e with
          | .SetComp .. => none
          | .DictComp .. => none
          | _ => (cE n Γ (Γ.mutn.contains x) e).map (.asg i)
        | none => none
      | .Tuple ts _ _ => match e with
        | .Tuple vs _ _ => match swp Γ.sc ts vs with
          | some none => if vs.length ≤ 1000 then (tgNames ts).bind fun xs => match allSome (xs.map (slot Γ)), cA n Γ vs with
            | some is, some es => some (.asgT is (.tup es))
            | _, _ => none else none
          | some (some xs) => match allSome (xs.map (slot Γ)), cPar (cE n Γ) Γ.mutn xs vs with
            | some is, some es => if distinct is then some (.par is es) else none
            | _, _ => none
          | none => none
        | .ListComp .. => none
        | .SetComp .. => none
        | .DictComp .. => none
        | _ => (tgNames ts).bind fun xs => match allSome (xs.map (slot Γ)), cE n Γ false e with
          | some is, some e => some (.asgT is e)
          | _, _ => none
      | .Subscript o i _ => if noSlice i then match cE n Γ false o, cE n Γ false i, cE n Γ false e with
          | some o, some i, some e => some (.sub o i e)
          | _, _, _ => none else none
      | _ => none
    | .Try b (h :: hs) [] [] _ => match cSs n Γ b, cHs Γ (h :: hs) with
      | some b, some hs => some (.try_ b hs)
      | _, _ => none
    | .Raise (some (.Call (.Name c _) [.Constant (.str _) _ _] [] _)) none _ => if isGl Γ c && Γ.E.contains c then some (.raise c) else none
    | _ => none
def cSs : Nat → Gam → List Stmt → Option SSs
  | 0, _, _ => none
  | _ + 1, _, [] => some .nil
  | n + 1, Γ, s :: ss => match cS n Γ s, cSs n Γ ss with
    | some s, some ss => some (.cons s ss)
    | _, _ => none
end
end Sim
set_option maxHeartbeats 1000000
namespace Sim
open PySem PySem.Spec PyProof.Rows L2

/-! ### data carried over -/
section
variable {C C' : Cxt} {ρ ρ' : List Addr} {H H' : Hp}
theorem SeqA.conv {ki : HO} {ty : String} {a : Addr} {xs : List V} (eK : C'.K = C.K) (k : ∀ a o, H a = some o → Fre C ρ a → H' a = some o ∧ Fre C' ρ' a) (s : SeqA ki ty C ρ H a xs) : SeqA ki ty C' ρ' H' a xs := by
  rcases s with ⟨r | ⟨o, r⟩, n⟩ | s
  · exact .inl ⟨.inl (k _ _ r n).1, (k _ _ r n).2⟩
  · exact .inl ⟨.inr ⟨o, (k _ _ r n).1⟩, (k _ _ r n).2⟩
  · exact .inr (eK ▸ s)
mutual
theorem DR.conv (eK : C'.K = C.K) (ew : C'.w = C.w) (k : ∀ a o, H a = some o → Fre C ρ a → H' a = some o ∧ Fre C' ρ' a) : ∀ (d : D) (v : V), DR C ρ H v d → DR C' ρ' H' v d
  | .none, _, h => by cases h; exact .non
  | .bool b, _, h => by cases h; exact .bl b
  | .int i, _, h => by cases h; exact .int i
  | .str s, _, h => by cases h with | str _ z => exact .str s z
  | .list ds, _, h => by cases h with | lst e n z q => exact .lst (k _ _ e n).1 (k _ _ e n).2 z (DRs.conv eK ew k ds _ q)
  | .tuple ds, _, h => by cases h with | tup s z q => exact .tup (s.conv eK k) z (DRs.conv eK ew k ds _ q)
  | .dict kvs, _, h => by cases h with | dct e n y z nd q => exact .dct (k _ _ e n).1 (k _ _ e n).2 y z nd (DRe.conv eK ew k kvs _ q)
theorem DRs.conv (eK : C'.K = C.K) (ew : C'.w = C.w) (k : ∀ a o, H a = some o → Fre C ρ a → H' a = some o ∧ Fre C' ρ' a) : ∀ (ds : List D) (vs : List V), DRs C ρ H vs ds → DRs C' ρ' H' vs ds
  | [], _, h => by cases h; exact .nil
  | d :: ds, _, h => by cases h with | cons h1 h2 => exact .cons (DR.conv eK ew k d _ h1) (DRs.conv eK ew k ds _ h2)
theorem DRe.conv (eK : C'.K = C.K) (ew : C'.w = C.w) (k : ∀ a o, H a = some o → Fre C ρ a → H' a = some o ∧ Fre C' ρ' a) : ∀ (kvs : List (D × D)) (es : List DictEntry), DRe C ρ H es kvs → DRe C' ρ' H' es kvs
  | [], _, h => by cases h; exact .nil
  | (a, b) :: kvs, _, h => by cases h with | cons r1 h1 r2 h2 n e h3 => exact .cons r1 (DR.conv eK ew k a _ h1) r2 (DR.conv eK ew k b _ h2) n (ew ▸ e) (DRe.conv eK ew k kvs _ h3)
end
theorem WR.conv (eK : C'.K = C.K) (ew : C'.w = C.w) (p : ∀ (i : Nat) (a : Addr), ρ[i]? = some a → ρ'[i]? = some a) (k : ∀ a o, H a = some o → Fre C ρ a → H' a = some o ∧ Fre C' ρ' a) {v : V} : ∀ {w : W}, WR C ρ H v w → WR C' ρ' H' v w
  | .d d, h => DR.conv eK ew k d v h
  | .r i, ⟨a, h, e⟩ => ⟨a, p _ _ h, e⟩
  | .s ns, ⟨a, e, h⟩ => ⟨a, e, h.conv eK k⟩
theorem ER.conv (eK : C'.K = C.K) (ew : C'.w = C.w) (p : ∀ (i : Nat) (a : Addr), ρ[i]? = some a → ρ'[i]? = some a) (k : ∀ a o, H a = some o → Fre C ρ a → H' a = some o ∧ Fre C' ρ' a) : ∀ {σ : St} {e : Env}, ER C ρ H σ e → ER C' ρ' H' σ e
  | _, _, .nil => .nil
  | _, _, .cons a b => .cons (fun u h => let ⟨y, h1, h2⟩ := a u h; ⟨y, h1, WR.conv eK ew p k h2⟩) (ER.conv eK ew p k b)
theorem OR.conv (eK : C'.K = C.K) (ew : C'.w = C.w) (k : ∀ a o, H a = Option.some o → Fre C ρ a → H' a = Option.some o ∧ Fre C' ρ' a) {a : Addr} {o : MO} (h : OR C ρ H a o) (s : ∀ u, H a = Option.some u → H' a = Option.some u) : OR C' ρ' H' a o := by
  cases o with
  | lst ds => obtain ⟨xs, e, z, q⟩ := h; exact ⟨xs, s _ e, z, DRs.conv eK ew k ds _ q⟩
  | dct kvs => obtain ⟨es, ep, e, y, z, nd, q⟩ := h; exact ⟨es, ep, s _ e, y, z, nd, DRe.conv eK ew k kvs _ q⟩
/-- a later context: what is in the making there was so already, or was not yet -/
structure Cext (C C2 : Cxt) (H : Hp) : Prop where
  eK : C2.K = C.K
  ew : C2.w = C.w
  hid : ∀ a ∈ C2.hid, a ∈ C.hid ∨ H a = none
theorem Cext.refl {C : Cxt} {H : Hp} : Cext C C H := ⟨rfl, rfl, fun _ h => .inl h⟩
theorem Cext.keep {C C2 : Cxt} {ρ ρ2 : List Addr} {H H2 : Hp} (c : Cext C C2 H) (x : Ext ρ H ρ2 H2) : ∀ a o, H a = some o → Fre C ρ a → H2 a = some o ∧ Fre C2 ρ2 a := fun a o e f =>
  ⟨x.keep _ _ e f.ro, x.notin e f.ro, fun z => by
    rcases c.hid a z with q | q
    · exact f.hi q
    · rw [e] at q; cases q⟩
theorem DR.fwd {C C2 : Cxt} {ρ ρ2 : List Addr} {H H2 : Hp} (c : Cext C C2 H) (x : Ext ρ H ρ2 H2) {d : D} {v : V} (h : DR C ρ H v d) : DR C2 ρ2 H2 v d := DR.conv c.eK c.ew (c.keep x) d v h
theorem SeqA.fwd {C C2 : Cxt} {ρ ρ2 : List Addr} {H H2 : Hp} {ki : HO} {ty : String} {a : Addr} {xs : List V} (c : Cext C C2 H) (x : Ext ρ H ρ2 H2) (h : SeqA ki ty C ρ H a xs) : SeqA ki ty C2 ρ2 H2 a xs := SeqA.conv c.eK (c.keep x) h
end
/-! ### results beside readings -/
def XE (C : Cxt) (ρ : List Addr) (c : Str) (fs : List (Str × D)) (H : Hp) (E : XK) : Prop :=
  ∃ a, C.cls c = some a ∧ ((fs = [] ∧ E (.ref a) none H) ∨ (fs ≠ [] ∧ ∀ (dd : Addr) (xs : List (Str × V)), H dd = some (.xd xs) → xs.map (·.1) = fs.map (·.1) → DRs C ρ H (xs.map (·.2)) (fs.map (·.2)) → dd ∉ ρ → E (.ref a) (some dd) H))
def RG {α β : Type} (C : Cxt) (rel : List Addr → Hp → β → α → Prop) (E : XK) (r : R α) (ρ : List Addr) (H : Hp) (Q : β → Hp → Prop) : Prop := match r with
  | .ok a m => ∀ ρ' b H', Ext ρ H ρ' H' → HR C ρ' H' m → rel ρ' H' b a → Q b H'
  | .exc c fs m => ∀ ρ' H', Ext ρ H ρ' H' → HR C ρ' H' m → XE C ρ' c fs H' E
  | .bad => False
section
variable {C : Cxt} {α β α' β' : Type} {rel : List Addr → Hp → β → α → Prop} {rel' : List Addr → Hp → β' → α' → Prop} {E : XK} {ρ ρ' : List Addr} {H H' : Hp} {r : R α} {m : MH}
theorem RG.base {Q : β → Hp → Prop} (h : RG C rel E r ρ H Q) (x : Ext ρ H ρ' H') : RG C rel E r ρ' H' Q := by
  cases r with
  | ok a m => exact fun ρ2 b H2 y => h ρ2 b H2 (x.trans y)
  | exc c fs m => exact fun ρ2 H2 y => h ρ2 H2 (x.trans y)
  | bad => exact h
theorem RG.mono {Q Q' : β → Hp → Prop} (h : RG C rel E r ρ H Q) (f : ∀ b H', Q b H' → Q' b H') : RG C rel E r ρ H Q' := by
  cases r with
  | ok a m => exact fun ρ2 b H2 y z w => f _ _ (h ρ2 b H2 y z w)
  | exc c fs m => exact h
  | bad => exact h
theorem RG.bind {f : α → MH → R α'} {Q : β' → Hp → Prop} (h : RG C rel' E (r.bind f) ρ H Q) :
    RG C rel E r ρ H fun b H1 => ∃ ρ1 a m1, r = .ok a m1 ∧ Ext ρ H ρ1 H1 ∧ HR C ρ1 H1 m1 ∧ rel ρ1 H1 b a ∧ RG C rel' E (f a m1) ρ1 H1 Q := by
  cases r with
  | ok a m => exact fun ρ2 b H2 y z w => ⟨ρ2, a, m, rfl, y, z, w, h.base y⟩
  | exc c fs m => exact h
  | bad => exact h
end

/-! ### the readings -/
abbrev relW (C : Cxt) : List Addr → Hp → V → W → Prop := fun ρ H b a => WR C ρ H b a
abbrev relB : List Addr → Hp → Bool → Bool → Prop := fun _ _ b a => b = a
abbrev relWs (C : Cxt) : List Addr → Hp → List V → List W → Prop := fun ρ H b a => WRs C ρ H b a
abbrev relDs (C : Cxt) : List Addr → Hp → List V → List D → Prop := fun ρ H b a => DRs C ρ H b a
abbrev relO : List Addr → Hp → Option Int → Option Int → Prop := fun _ _ b a => b = a
def tG {α β : Type} (C : Cxt) (Wx : WX) (rel : List Addr → Hp → β → α → Prop) (f : Env → MH → R α) : St → Hp → (β → Hp → Prop) → Prop := fun σ H Q =>
  ∃ ρ e m, HR C ρ H m ∧ ER C ρ H σ e ∧ RG C rel (WE Wx σ) (f e m) ρ H Q
abbrev tE (C : Cxt) (Wx : WX) (f : Env → MH → R W) : TE := tG C Wx (relW C) f
abbrev tT (C : Cxt) (Wx : WX) (f : Env → MH → R Bool) : TT := tG C Wx relB f
abbrev tW (C : Cxt) (Wx : WX) (f : Env → MH → R (List W)) : TA := tG C Wx (relWs C) f
abbrev tD (C : Cxt) (Wx : WX) (f : Env → MH → R (List D)) : TA := tG C Wx (relDs C) f
/-- what is asked of a value's operation: by values -/
def rG {α β ι κ : Type} (C : Cxt) (reli : List Addr → Hp → ι → κ → Prop) (rel : List Addr → Hp → β → α → Prop) (f : κ → MH → R α) : ι → Hp → (β → Hp → Prop) → Prop := fun x H Q =>
  ∃ ρ w m E, HR C ρ H m ∧ reli ρ H x w ∧ RG C rel E (f w m) ρ H Q
def r2 (C : Cxt) (f : W → W → MH → R W) : R2 := fun x y H Q => ∃ ρ w1 w2 m E, HR C ρ H m ∧ WR C ρ H x w1 ∧ WR C ρ H y w2 ∧ RG C (relW C) E (f w1 w2 m) ρ H Q
def r2B (C : Cxt) (f : W → W → MH → R Bool) : R2 := fun x y H Q => ∃ ρ w1 w2 m E, HR C ρ H m ∧ WR C ρ H x w1 ∧ WR C ρ H y w2 ∧ RG C relB E (f w1 w2 m) ρ H fun c H' => Q (.bl c) H'

section
variable {C : Cxt} {Wx : WX} {α β α' β' : Type} {rel : List Addr → Hp → β → α → Prop} {rel' : List Addr → Hp → β' → α' → Prop} {σ : St} {H : Hp}
/-- one thing after another -/
theorem tG.bind {f : Env → MH → R α} {g : Env → α → MH → R α'} {Q : β' → Hp → Prop} (h : tG C Wx rel' (fun e m => (f e m).bind (g e)) σ H Q) :
    tG C Wx rel f σ H fun b H1 => ∃ ρ e a m, HR C ρ H1 m ∧ ER C ρ H1 σ e ∧ rel ρ H1 b a ∧ RG C rel' (WE Wx σ) (g e a m) ρ H1 Q := by
  obtain ⟨ρ, e, m, hr, er, q⟩ := h
  refine ⟨ρ, e, m, hr, er, (RG.bind (rel := rel) q).mono fun b H1 => ?_⟩
  rintro ⟨ρ1, a, m1, _, x, z, w, q1⟩
  exact ⟨ρ1, e, a, m1, z, er.ext x, w, q1⟩
end
section
variable {X : Cx} {e : Expr}
theorem _root_.L2.PE.imp {t t' : TE} (h : PE X e t) (i : ∀ σ H Q, t' σ H Q → t σ H Q) : PE X e t' := ⟨fun pins s σ H Q I q => h.run pins s σ H Q I (i σ H Q q)⟩
theorem _root_.L2.PT.imp {t t' : TT} (h : PT X e t) (i : ∀ σ H Q, t' σ H Q → t σ H Q) : PT X e t' := ⟨fun pins s σ H Q I q => h.run pins s σ H Q I (i σ H Q q)⟩
theorem _root_.L2.PW.imp {t t' : TT} (h : PW X e t) (i : ∀ σ H Q, t' σ H Q → t σ H Q) : PW X e t' := ⟨fun wh pins s σ H Q I q => h.run wh pins s σ H Q I (i σ H Q q)⟩
theorem _root_.L2.PA.imp {es : List Expr} {t t' : TA} (h : PA X es t) (i : ∀ σ H Q, t' σ H Q → t σ H Q) : PA X es t' := ⟨fun pos pins s σ H Q I q => h.run pos pins s σ H Q I (i σ H Q q)⟩
theorem _root_.L2.PO.imp {o : Option Expr} {t t' : TO} (h : PO X o t) (i : ∀ σ H Q, t' σ H Q → t σ H Q) : PO X o t' := ⟨fun pins s σ H Q I q => h.run pins s σ H Q I (i σ H Q q)⟩
end

/-! ### reading values -/
section
variable {C : Cxt} {ρ : List Addr} {H : Hp} {m : MH} {v : V} {w : W}
/-- a value to be read as data -/
inductive RD (C : Cxt) (ρ : List Addr) (H : Hp) : V → D → Prop
  | dr {v d} : DR C ρ H v d → RD C ρ H v d
  | lst {a : Addr} {xs : List V} {ds : List D} : H a = some (.lst xs) → xs.length ≤ sizeLine → DRs C ρ H xs ds → RD C ρ H (.ref a) (.list ds)
  | dct {a : Addr} {es : List DictEntry} {ep : Nat} {kvs : List (D × D)} : H a = some (.ext (RawD a es.toArray ep)) → (a == sysModules) = false → es.length ≤ sizeLine → (keysN kvs).Nodup → DRe C ρ H es kvs → RD C ρ H (.ref a) (.dict kvs)
theorem rd_ok (h : HR C ρ H m) (r : WR C ρ H v w) {d : D} (e : rd m w = some d) : RD C ρ H v d := by
  cases w with
  | d d' => cases e; exact .dr r
  | s ns => cases e
  | r i =>
    obtain ⟨a, ha, rfl⟩ := r
    cases q : m[i]? with
    | none => simp only [rd, q] at e; cases e
    | some o =>
      obtain ⟨a', ha', ob⟩ := h.at q
      rw [ha] at ha'; cases ha'
      simp only [rd, q] at e
      cases o with
      | lst ds => cases e; obtain ⟨xs, h1, h2, h3⟩ := ob; exact .lst h1 h2 h3
      | dct kvs => cases e; obtain ⟨es, ep, h1, h2, h3, nd, h4⟩ := ob; exact .dct h1 h2 h3 nd h4
theorem RD.list {ds : List D} (h : RD C ρ H v (.list ds)) : ∃ a xs, v = .ref a ∧ H a = some (.lst xs) ∧ xs.length ≤ sizeLine ∧ DRs C ρ H xs ds := by
  cases h with
  | dr h => cases h with | lst e n z q => exact ⟨_, _, rfl, e, z, q⟩
  | lst e z q => exact ⟨_, _, rfl, e, z, q⟩
theorem SeqA.sqT {a : Addr} {xs : List V} (h : SeqA (.tup xs) "tuple" C ρ H a xs) : SqT C.K H a xs := by
  rcases h with ⟨r, _⟩ | ⟨o, its, n, h1, h2, _, h3, h4, h5⟩
  · exact .inl r
  · exact .inr ⟨o, its, n, h1, h2, h3, h4, h5⟩
theorem SeqA.sqL {a : Addr} {xs : List V} (h : SeqA (.lst xs) "list" C ρ H a xs) : SqL C.K H a xs := by
  rcases h with ⟨r, _⟩ | ⟨o, its, n, h1, h2, h0, h3, h4, h5⟩
  · exact .inl r
  · exact .inr ⟨o, its, n, h1, h2, h0, h3, h4, h5⟩
theorem RD.tup {ds : List D} (h : RD C ρ H v (.tuple ds)) : ∃ a xs, v = .ref a ∧ SqT C.K H a xs ∧ xs.length ≤ sizeLine ∧ DRs C ρ H xs ds := by
  cases h with
  | dr h => cases h with | tup e z q => exact ⟨_, _, rfl, e.sqT, z, q⟩
theorem RD.dict {kvs : List (D × D)} (h : RD C ρ H v (.dict kvs)) : ∃ a es ep, v = .ref a ∧ H a = some (.ext (RawD a (List.toArray es) ep)) ∧ (a == sysModules) = false ∧ es.length ≤ sizeLine ∧ (keysN kvs).Nodup ∧ DRe C ρ H es kvs := by
  cases h with
  | dr h => cases h with | dct e n y z nd q => exact ⟨_, _, _, rfl, e, y, z, nd, q⟩
  | dct e y z nd q => exact ⟨_, _, _, rfl, e, y, z, nd, q⟩
theorem RD.int {i : Int} (h : RD C ρ H v (.int i)) : v = .int i := by cases h with | dr h => cases h; rfl
theorem RD.bool {i : Bool} (h : RD C ρ H v (.bool i)) : v = .bl i := by cases h with | dr h => cases h; rfl
theorem RD.none (h : RD C ρ H v .none) : v = .non := by cases h with | dr h => cases h; rfl
theorem RD.str {x : Str} (h : RD C ρ H v (.str x)) : v = .str x ∧ x.length ≤ sizeLine := by cases h with | dr h => cases h with | str _ z => exact ⟨rfl, z⟩
mutual
theorem DR.dp : ∀ (d : D) (v : V), DR C ρ H v d → d.canLay0 = true → Dp C.K H v d
  | .none, _, h, _ => by cases h; exact .non
  | .bool b, _, h, _ => by cases h; exact .bl b
  | .int i, _, h, _ => by cases h; exact .int i
  | .str s, _, h, _ => by cases h; exact .str s
  | .list ds, _, h, c => by cases h with | lst e n z q => exact .lst (.inl (.inl e)) (DRs.dp ds _ q (by simpa [PyData.canLay0] using c))
  | .tuple ds, _, h, c => by cases h with | tup s z q => exact .tup s.sqT (DRs.dp ds _ q (by simpa [PyData.canLay0] using c))
  | .dict kvs, _, _, c => by simp [PyData.canLay0] at c
theorem DRs.dp : ∀ (ds : List D) (vs : List V), DRs C ρ H vs ds → PyData.canLayAll0 ds = true → DpAll C.K H vs ds
  | [], _, h, _ => by cases h; exact .nil
  | d :: ds, _, h, c => by
    rw [PyData.canLayAll0, Bool.and_eq_true] at c
    cases h with | cons h1 h2 => exact .cons (DR.dp d _ h1 c.1) (DRs.dp ds _ h2 c.2)
end
theorem RD.dp {d : D} (h : RD C ρ H v d) (c : d.canLay0 = true) : Dp C.K H v d := by
  cases h with
  | dr h => exact DR.dp _ _ h c
  | lst e z q => exact .lst (.inl (.inl e)) (DRs.dp _ _ q (by simpa [PyData.canLay0] using c))
  | dct => simp [PyData.canLay0] at c
/-- a new list at p, as data or as a place -/
theorem newL_ok {E : XK} {p : Addr} {xs : List V} {ds : List D} {mu : Bool} {Q : VK} (h : HR C ρ H m) (n : H p = none) (z : xs.length ≤ sizeLine) (q : DRs C ρ H xs ds) (hq : RG C (relW C) E (newL mu ds m) ρ H Q) : Q (.ref p) (upd H p (.lst xs)) := by
  unfold newL at hq
  cases mu with
  | true =>
    rw [if_pos rfl] at hq
    refine hq (ρ ++ [p]) _ _ (Ext.alloc n) (h.alloc n ⟨xs, upd_same, z, DRs.ext (Ext.alloc n) _ _ q⟩) ⟨p, ?_, rfl⟩
    rw [← h.len]; simp
  | false =>
    rw [if_neg Bool.false_ne_true] at hq
    exact hq ρ _ _ (Ext.upd n) (h.upd n) (.lst upd_same (h.fresh n) z (DRs.ext (Ext.upd n) _ _ q))
/-- a new tuple at p -/
theorem newT_ok {E : XK} {p : Addr} {xs : List V} {ds : List D} {Q : VK} (h : HR C ρ H m) (n : H p = none) (z : xs.length ≤ sizeLine) (q : DRs C ρ H xs ds) (hq : RG C (relW C) E (.ok (.d (.tuple ds)) m) ρ H Q) : Q (.ref p) (upd H p (.tup xs)) :=
  hq ρ _ _ (Ext.upd n) (h.upd n) (.tup (.inl ⟨.inl upd_same, h.fresh n⟩) z (DRs.ext (Ext.upd n) _ _ q))
/-- a result that makes nothing -/
theorem pure_ok {α β : Type} {rel : List Addr → Hp → β → α → Prop} {E : XK} {a : α} {b : β} {Q : β → Hp → Prop} (h : HR C ρ H m) (r : rel ρ H b a) (hq : RG C rel E (.ok a m) ρ H Q) : Q b H := hq ρ b H Ext.refl h r
end
end Sim
set_option maxHeartbeats 1000000
namespace Sim
open PySem PySem.Spec PyProof.Rows L2
/-! ### the operations keep their word -/
section
variable {C : Cxt} {X : Cx} {ρ : List Addr} {H : Hp} {m : MH} {E : XK}

theorem RG.off {α β : Type} {rel : List Addr → Hp → β → α → Prop} {Q : β → Hp → Prop} (q : RG C rel E (R.bad : R α) ρ H Q) {P : Prop} : P := (show False from q).elim
/-- a result that makes nothing, at its value -/
theorem RG.dat {d : D} {v : V} {Q : VK} (q : RG C (relW C) E (.ok (.d d) m) ρ H Q) (h : HR C ρ H m) (r : DR C ρ H v d) : Q v H := q ρ v H Ext.refl h r

theorem add_ok (eK : X.K = C.K) (mu : Bool) : OpR X (binaryOp .Add) (r2 C (binW mu .add)) := by
  intro pins s σ H x y v u Q I rx ry h
  obtain ⟨ρ, w1, w2, m, E, hr, h1, h2, q⟩ := h
  unfold binW at q
  cases e1 : rd m w1 with
  | none => simp only [e1] at q; exact q.off
  | some d1 =>
    cases e2 : rd m w2 with
    | none => simp only [e1, e2] at q; exact q.off
    | some d2 =>
      have k1 := rd_ok hr h1 e1
      have k2 := rd_ok hr h2 e2
      simp only [e1, e2] at q
      cases d1 <;> cases d2 <;> simp only [binD] at q <;> first | exact q.off | skip
      · cases k1.int; cases k2.int
        exact op_add pins s σ H _ _ v u Q I rx ry ⟨_, _, rfl, rfl, q.dat hr (.int _)⟩
      · rename_i a b
        split at q
        · rename_i z
          obtain ⟨rfl, _⟩ := k1.str
          obtain ⟨rfl, _⟩ := k2.str
          exact op_add_str pins s σ H _ _ v u Q I rx ry ⟨_, _, rfl, rfl, z, q.dat hr (.str _ (by show (a ++ b).length ≤ sizeLine; show (a.cps ++ b.cps).size ≤ _; rw [Array.size_append]; exact z))⟩
        · exact q.off
      · split at q
        · rename_i z
          obtain ⟨a, xs, rfl, ha, za, qa⟩ := k1.list
          obtain ⟨b, ys, rfl, hb, zb, qb⟩ := k2.list
          rw [← qa.length, ← qb.length] at z
          exact op_cat pins s σ H _ _ v u Q I rx ry ⟨_, _, _, _, rfl, rfl, ha, hb, z, fun p hp => newL_ok hr hp (by rw [List.length_append]; exact z) (qa.append qb) q⟩
        · exact q.off
      · split at q
        · rename_i z
          obtain ⟨a, xs, rfl, ha, za, qa⟩ := k1.tup
          obtain ⟨b, ys, rfl, hb, zb, qb⟩ := k2.tup
          rw [← qa.length, ← qb.length] at z
          refine op_catA pins s σ H _ _ v u Q I rx ry ⟨_, _, _, _, rfl, rfl, eK ▸ ha, eK ▸ hb, z, fun e => ?_, fun _ e => ?_, fun _ _ p hp => newT_ok hr hp (by rw [List.length_append]; exact z) (qa.append qb) q⟩
          · subst e
            cases qa
            rw [List.nil_append] at q
            cases k2 with | dr r => exact q.dat hr r
          · subst e
            cases qb
            rw [List.append_nil] at q
            cases k1 with | dr r => exact q.dat hr r
        · exact q.off
theorem sub_ok (mu : Bool) : OpR X (binaryOp .Sub) (r2 C (binW mu .sub)) := by
  intro pins s σ H x y v u Q I rx ry h
  obtain ⟨ρ, w1, w2, m, E, hr, h1, h2, q⟩ := h
  unfold binW at q
  cases e1 : rd m w1 with
  | none => simp only [e1] at q; exact q.off
  | some d1 =>
    cases e2 : rd m w2 with
    | none => simp only [e1, e2] at q; exact q.off
    | some d2 =>
      have k1 := rd_ok hr h1 e1
      have k2 := rd_ok hr h2 e2
      simp only [e1, e2] at q
      cases d1 <;> cases d2 <;> simp only [binD] at q <;> first | exact q.off | skip
      · cases k1.int; cases k2.int
        exact op_sub pins s σ H _ _ v u Q I rx ry ⟨_, _, rfl, rfl, q.dat hr (.int _)⟩
theorem okMul_ok {i j : Int} (h : okMul i j = true) : CMul i j := by
  unfold okMul at h
  simp only [Bool.or_eq_true, Bool.and_eq_true, decide_eq_true_eq] at h
  exact h
theorem mul_ok (eK : X.K = C.K) (mu : Bool) : OpR X (binaryOp .Mult) (r2 C (binW mu .mul)) := by
  intro pins s σ H x y v u Q I rx ry h
  obtain ⟨ρ, w1, w2, m, E, hr, h1, h2, q⟩ := h
  unfold binW at q
  cases e1 : rd m w1 with
  | none => simp only [e1] at q; exact q.off
  | some d1 =>
    cases e2 : rd m w2 with
    | none => simp only [e1, e2] at q; exact q.off
    | some d2 =>
      have k1 := rd_ok hr h1 e1
      have k2 := rd_ok hr h2 e2
      simp only [e1, e2] at q
      cases d1 <;> cases d2 <;> simp only [binD] at q <;> first | exact q.off | skip
      · split at q
        · rename_i z
          cases k1.int; cases k2.int
          exact op_mul pins s σ H _ _ v u Q I rx ry ⟨_, _, rfl, rfl, okMul_ok z, q.dat hr (.int _)⟩
        · exact q.off
      · rename_i ds k
        split at q
        · rename_i z
          simp only [Bool.and_eq_true, decide_eq_true_eq] at z
          obtain ⟨⟨z1, z2⟩, z3⟩ := z
          obtain ⟨a, xs, rfl, ha, za, qa⟩ := k1.list
          cases k2.int
          rw [← qa.length] at z3
          exact op_rep pins s σ H _ _ v u Q I rx ry ⟨_, _, _, rfl, rfl, ha, by omega, by omega, z3, fun p hp => newL_ok hr hp (by rw [PyProof.Rows.lm_len_rep_flat, Nat.mul_comm]; exact z3) (qa.rep _) q⟩
        · exact q.off
      · rename_i ds k
        split at q
        · rename_i z
          simp only [Bool.and_eq_true, decide_eq_true_eq] at z
          obtain ⟨⟨⟨z1, z2⟩, z3⟩, z4⟩ := z
          obtain ⟨a, xs, rfl, ha, za, qa⟩ := k1.tup
          cases k2.int
          have hl := qa.length
          exact op_repT pins s σ H _ _ v u Q I rx ry ⟨_, _, _, rfl, rfl, eK ▸ ha, by intro e; subst e; simp at hl; omega, by omega, by omega, by omega, fun p hp => newT_ok hr hp (by rw [PyProof.Rows.lm_len_rep_flat, hl, sizeLine_eq]; have := Nat.mul_le_mul (show k.toNat ≤ 1000 by omega) z3; omega) (qa.rep _) q⟩
        · exact q.off
theorem mod_ok (mu : Bool) : OpR X (binaryOp .Mod) (r2 C (binW mu .mod)) := by
  intro pins s σ H x y v u Q I rx ry h
  obtain ⟨ρ, w1, w2, m, E, hr, h1, h2, q⟩ := h
  unfold binW at q
  cases e1 : rd m w1 with
  | none => simp only [e1] at q; exact q.off
  | some d1 =>
    cases e2 : rd m w2 with
    | none => simp only [e1, e2] at q; exact q.off
    | some d2 =>
      have k1 := rd_ok hr h1 e1
      have k2 := rd_ok hr h2 e2
      simp only [e1, e2] at q
      cases d1 <;> cases d2 <;> simp only [binD] at q <;> first | exact q.off | skip
      · split at q
        · rename_i z
          cases k1.int; cases k2.int
          exact op_mod pins s σ H _ _ v u Q I rx ry ⟨_, _, rfl, rfl, z, q.dat hr (.int _)⟩
        · exact q.off
theorem fdiv_ok (mu : Bool) : OpR X (binaryOp .FloorDiv) (r2 C (binW mu .fdiv)) := by
  intro pins s σ H x y v u Q I rx ry h
  obtain ⟨ρ, w1, w2, m, E, hr, h1, h2, q⟩ := h
  unfold binW at q
  cases e1 : rd m w1 with
  | none => simp only [e1] at q; exact q.off
  | some d1 =>
    cases e2 : rd m w2 with
    | none => simp only [e1, e2] at q; exact q.off
    | some d2 =>
      have k1 := rd_ok hr h1 e1
      have k2 := rd_ok hr h2 e2
      simp only [e1, e2] at q
      cases d1 <;> cases d2 <;> simp only [binD] at q <;> first | exact q.off | skip
      · split at q
        · rename_i z
          simp only [Bool.and_eq_true, decide_eq_true_eq] at z
          cases k1.int; cases k2.int
          exact op_fdiv pins s σ H _ _ v u Q I rx ry ⟨_, _, rfl, rfl, z, q.dat hr (.int _)⟩
        · exact q.off
theorem pow_ok (mu : Bool) : OpR X (binaryOp .Pow) (r2 C (binW mu .pow)) := by
  intro pins s σ H x y v u Q I rx ry h
  obtain ⟨ρ, w1, w2, m, E, hr, h1, h2, q⟩ := h
  unfold binW at q
  cases e1 : rd m w1 with
  | none => simp only [e1] at q; exact q.off
  | some d1 =>
    cases e2 : rd m w2 with
    | none => simp only [e1, e2] at q; exact q.off
    | some d2 =>
      have k1 := rd_ok hr h1 e1
      have k2 := rd_ok hr h2 e2
      simp only [e1, e2] at q
      cases d1 <;> cases d2 <;> simp only [binD] at q <;> first | exact q.off | skip
      · split at q
        · rename_i z
          simp only [Bool.and_eq_true, decide_eq_true_eq] at z
          cases k1.int; cases k2.int
          exact op_pow pins s σ H _ _ v u Q I rx ry ⟨_, _, rfl, rfl, ⟨z.1.1, by omega, by omega⟩, q.dat hr (.int _)⟩
        · exact q.off
theorem bin_ok (eK : X.K = C.K) (mu : Bool) {o : Operator} {op : BOp} (h : cOp o = some op) : OpR X (binaryOp o) (r2 C (binW mu op)) := by
  cases o <;> cases h
  · exact add_ok eK mu
  · exact sub_ok mu
  · exact mul_ok eK mu
  · exact mod_ok mu
  · exact pow_ok mu
  · exact fdiv_ok mu
theorem neg_ok : UnR X (unaryOp .USub) (fun x H Q => ∃ ρ w m E, HR C ρ H m ∧ WR C ρ H x w ∧ RG C (relW C) E (match w with | .d (.int i) => (.ok (.d (.int (-i))) m : R W) | _ => .bad) ρ H Q) := by
  intro pins s σ H x v Q I rx h
  obtain ⟨ρ, w, m, E, hr, h1, q⟩ := h
  split at q
  · have h1 : DR C ρ H x _ := h1
    cases h1
    exact un_neg pins s σ H _ v Q I rx ⟨_, rfl, q.dat hr (.int _)⟩
  · exact q.off
end
end Sim
set_option maxHeartbeats 1000000
namespace Sim
open PySem PySem.Spec PyProof.Rows L2
/-! ### dicts: the entries by keys -/
section
variable {C : Cxt} {X : Cx} {ρ ρ' : List Addr} {H H' : Hp}
mutual
theorem DR.nested {pins : List (Addr × Obj)} {σ : St} {s : Shared} (eK : X.K = C.K) (I : Inv X pins σ H s) : ∀ (d : D) (v : V) (u : Value) (k : NestedKey), DR C ρ H v d → nkey d = some k → RelV v u → NestedIs s.heap k u
  | .none, _, u, k, h, e, r => by cases h; cases e; cases (show u = _ from r); exact .none
  | .bool b, _, u, k, h, e, r => by cases h; cases e; cases (show u = _ from r); exact .bool rfl
  | .int i, _, u, k, h, e, r => by cases h; cases e; obtain ⟨t, rfl⟩ := (show ∃ t, u = _ from r); exact .int i t
  | .str x, _, u, k, h, e, r => by cases h; cases e; obtain ⟨t, rfl⟩ := (show ∃ t, u = _ from r); exact .text x t
  | .list ds, _, u, k, h, e, r => by cases e
  | .dict ds, _, u, k, h, e, r => by cases e
  | .tuple ds, _, u, k, h, e, r => by
    cases h with | @tup a xs _ sq z q =>
    rw [nkey] at e
    cases e2 : nkeys ds with
    | none => rw [e2] at e; cases e
    | some ks =>
      rw [e2] at e
      cases e
      cases (show u = _ from r)
      obtain ⟨its, rv, ⟨o, ho, hc, n, hd⟩, _⟩ := I.tuple (eK ▸ sq.sqT)
      exact .tup ho hc hd (DRs.nested eK I ds xs its ks q e2 rv)
theorem DRs.nested {pins : List (Addr × Obj)} {σ : St} {s : Shared} (eK : X.K = C.K) (I : Inv X pins σ H s) : ∀ (ds : List D) (vs : List V) (us : List Value) (ks : List NestedKey), DRs C ρ H vs ds → nkeys ds = some ks → Vals vs us → NestedAll s.heap ks us
  | [], _, us, ks, h, e, r => by cases h; cases e; cases r; exact .nil
  | d :: ds, _, us, ks, h, e, r => by
    cases h with | cons h1 h2 =>
    cases r with | cons r1 r2 =>
    rw [nkeys] at e
    cases e1 : nkey d with
    | none => simp only [e1] at e; cases e
    | some k =>
      cases e2 : nkeys ds with
      | none => simp only [e1, e2] at e; cases e
      | some ks' =>
        simp only [e1, e2] at e
        cases e
        exact .cons (DR.nested eK I d _ _ k h1 e1 r1) (DRs.nested eK I ds _ _ ks' h2 e2 r2)
end
theorem DRe.length : ∀ {es : List DictEntry} {kvs : List (D × D)}, DRe C ρ H es kvs → es.length = kvs.length
  | _, _, .nil => rfl
  | _, _, .cons _ _ _ _ _ _ t => by rw [List.length_cons, List.length_cons, DRe.length t]
/-- the entries, told by keys -/
inductive KX (C : Cxt) (ρ : List Addr) (H : Hp) : List (D × D) → List (NestedKey × Addr × Value) → Prop
  | nil : KX C ρ H [] []
  | cons {k v : D} {nk : NestedKey} {b : Addr} {vv : V} {u : Value} {kvs : List (D × D)} {xs : List (NestedKey × Addr × Value)} : nkey k = some nk → tupK nk = true → DR C ρ H (.ref b) k → RelV vv u → DR C ρ H vv v → KX C ρ H kvs xs → KX C ρ H ((k, v) :: kvs) ((nk, b, u) :: xs)
theorem tup_ref {k : D} {nk : NestedKey} {v : V} (h : DR C ρ H v k) (e : nkey k = some nk) (t : tupK nk = true) : ∃ b, v = .ref b := by
  cases h with
  | non => cases e; cases t
  | bl b => cases e; cases t
  | int b => cases e; cases t
  | str b => cases e; cases t
  | lst => cases e
  | dct => cases e
  | tup => exact ⟨_, rfl⟩
theorem KX.of {w : World} {P : Program} (ew : C.w = w) : ∀ {es : List DictEntry} {kvs : List (D × D)}, DRe C ρ H es kvs → tupKs kvs = true → ∃ xs, es = xs.map (entryOfKey (nestedKind P w)) ∧ KX C ρ H kvs xs
  | _, _, .nil, _ => ⟨[], rfl, .nil⟩
  | _, _, @DRe.cons _ _ _ e es k v kvs kv vv nk r1 h1 r2 h2 n he t, z => by
    rw [tupKs, List.all_cons, Bool.and_eq_true] at z
    simp only [n] at z
    obtain ⟨xs, e1, q⟩ := KX.of (P := P) ew t z.2
    obtain ⟨b, rfl⟩ := tup_ref h1 n z.1
    refine ⟨(nk, b, e.val) :: xs, ?_, .cons n z.1 h1 r2 h2 q⟩
    rw [List.map_cons, ← e1]
    congr 1
    cases e with | mk hh kk uu =>
    have : kk = .ref b := r1
    subst this
    have he : hh = nk.hash C.w := he
    rw [he, ew]
    rfl
theorem KX.to {w : World} {P : Program} (ew : C.w = w) : ∀ {kvs : List (D × D)} {xs : List (NestedKey × Addr × Value)}, KX C ρ H kvs xs → DRe C ρ H (xs.map (entryOfKey (nestedKind P w))) kvs
  | _, _, .nil => .nil
  | _, _, .cons n t h1 r2 h2 q => by
    rw [List.map_cons]
    refine .cons (kv := .ref _) rfl h1 r2 h2 n ?_ (KX.to ew q)
    rw [ew]
    rfl
theorem KX.tup : ∀ {kvs : List (D × D)} {xs : List (NestedKey × Addr × Value)}, KX C ρ H kvs xs → tupKs kvs = true
  | _, _, .nil => rfl
  | _, _, .cons n t _ _ _ q => by
    rw [tupKs, List.all_cons]
    simp only [n, t, Bool.true_and]
    exact KX.tup q
theorem KX.keys : ∀ {kvs : List (D × D)} {xs : List (NestedKey × Addr × Value)}, KX C ρ H kvs xs → keysN kvs = (xs.map (·.1)).map some
  | _, _, .nil => rfl
  | _, _, .cons n t _ _ _ q => by
    unfold keysN
    rw [List.map_cons, List.map_cons, List.map_cons, ← KX.keys q, n]
    rfl
theorem KX.nodup {kvs : List (D × D)} {xs : List (NestedKey × Addr × Value)} (h : KX C ρ H kvs xs) (n : (keysN kvs).Nodup) : (xs.map (·.1)).Nodup := by
  rw [h.keys] at n
  have := List.pairwise_map.mp n
  exact List.Pairwise.imp (fun h e => h (by rw [e])) this
theorem KX.nodup2 {kvs : List (D × D)} {xs : List (NestedKey × Addr × Value)} (h : KX C ρ H kvs xs) (n : (xs.map (·.1)).Nodup) : (keysN kvs).Nodup := by
  rw [h.keys]
  exact List.pairwise_map.mpr (List.Pairwise.imp (fun h e => h (Option.some.inj e)) n)
theorem KX.length : ∀ {kvs : List (D × D)} {xs : List (NestedKey × Addr × Value)}, KX C ρ H kvs xs → kvs.length = xs.length
  | _, _, .nil => rfl
  | _, _, .cons _ _ _ _ _ q => by rw [List.length_cons, List.length_cons, KX.length q]
theorem KX.is {pins : List (Addr × Obj)} {σ : St} {s : Shared} (eK : X.K = C.K) (I : Inv X pins σ H s) : ∀ {kvs : List (D × D)} {xs : List (NestedKey × Addr × Value)}, KX C ρ H kvs xs → ∀ x ∈ xs, (nestedKind X.prog X.w).is s.heap x.1 x.2.1
  | _, _, .nil, x, hx => nomatch hx
  | _, _, .cons n t h1 _ _ q, x, hx => by
    rcases List.mem_cons.mp hx with rfl | hx
    · exact ⟨DR.nested eK I _ _ _ _ h1 n rfl, by
        unfold tupK at t
        split at t
        · simpa using t
        · cases t⟩
    · exact KX.is eK I q x hx
theorem key_is {pins : List (Addr × Obj)} {σ : St} {s : Shared} (eK : X.K = C.K) (I : Inv X pins σ H s) {v : V} {u : Value} {d : D} {k : NestedKey} (h : DR C ρ H v d) (e : keyT d = some k) (r : RelV v u) : nkey d = some k ∧ tupK k = true ∧ ∃ b, v = .ref b ∧ u = .ref b ∧ (nestedKind X.prog X.w).is s.heap k b := by
  unfold keyT at e
  cases n : nkey d with
  | none => rw [n] at e; cases e
  | some k' =>
    rw [n] at e
    simp only at e
    split at e
    · rename_i t
      cases e
      obtain ⟨b, rfl⟩ := tup_ref h n t
      obtain rfl : u = .ref b := r
      refine ⟨rfl, t, b, rfl, rfl, DR.nested eK I _ _ _ _ h n rfl, ?_⟩
      unfold tupK at t
      split at t
      · simpa using t
      · cases t
    · cases e
theorem KX.look (k : NestedKey) : ∀ {kvs : List (D × D)} {xs : List (NestedKey × Addr × Value)}, KX C ρ H kvs xs → match dlook kvs k with
    | some v => ∃ b u vv, atKey xs k = some (b, u) ∧ RelV vv u ∧ DR C ρ H vv v
    | none => atKey xs k = none
  | _, _, .nil => rfl
  | _, _, @KX.cons _ _ _ k0 v0 nk b vv u kvs xs n t h1 r2 h2 q => by
    by_cases h : nk = k
    · subst h
      have e1 : dlook ((k0, v0) :: kvs) nk = some v0 := by simp [dlook, List.find?_cons, n]
      rw [e1]
      exact ⟨b, u, vv, by simp [atKey, List.find?_cons], r2, h2⟩
    · have e1 : dlook ((k0, v0) :: kvs) k = dlook kvs k := by simp [dlook, List.find?_cons, n, h]
      have e2 : atKey ((nk, b, u) :: xs) k = atKey xs k := by simp [atKey, List.find?_cons, h]
      rw [e1, e2]
      exact KX.look k q
theorem KX.some_iff (k : NestedKey) {kvs : List (D × D)} {xs : List (NestedKey × Addr × Value)} (q : KX C ρ H kvs xs) : (dlook kvs k).isSome = (atKey xs k).isSome := by
  have h := q.look k
  cases e : dlook kvs k with
  | none => rw [e] at h; rw [h]; rfl
  | some v => rw [e] at h; obtain ⟨b, u, vv, h1, _⟩ := h; rw [h1]; rfl
theorem KX.put {k : NestedKey} {kd vd : D} {b : Addr} {vv : V} {u : Value} (n : nkey kd = some k) (t : tupK k = true) (h1 : DR C ρ H (.ref b) kd) (r : RelV vv u) (h2 : DR C ρ H vv vd) {kvs : List (D × D)} {xs : List (NestedKey × Addr × Value)} (q : KX C ρ H kvs xs) :
    KX C ρ H (dput kvs k kd vd) (storedH xs k b u) := by
  unfold dput storedH
  rw [q.some_iff k]
  generalize (atKey xs k).isSome = bb
  split
  · clear h1 b
    induction q with
    | nil => exact .nil
    | @cons k0 v0 nk b0 vv0 u0 kvs xs n0 t0 h10 r20 h20 q ih =>
      rw [List.map_cons, List.map_cons]
      by_cases h : nk = k
      · subst h
        simp only [n0, if_true, putAt]
        exact .cons n0 t0 h10 r h2 ih
      · simp only [n0, Option.some.injEq, h, if_false, putAt]
        exact .cons n0 t0 h10 r20 h20 ih
  · induction q with
    | nil => exact .cons n t h1 r h2 .nil
    | cons n0 t0 h10 r20 h20 q ih => exact .cons n0 t0 h10 r20 h20 ih
theorem KX.ext (x : Ext ρ H ρ' H') : ∀ {kvs : List (D × D)} {xs : List (NestedKey × Addr × Value)}, KX C ρ H kvs xs → KX C ρ' H' kvs xs
  | _, _, .nil => .nil
  | _, _, .cons n t h1 r2 h2 q => .cons n t (DR.ext x _ _ h1) r2 (DR.ext x _ _ h2) (KX.ext x q)
/-- the dict in the heap -/
theorem dict_at {pins : List (Addr × Obj)} {σ : St} {s : Shared} (eK : X.K = C.K) (ew : X.w = C.w) (I : Inv X pins σ H s) {a : Addr} {es : List DictEntry} {ep : Nat} {kvs : List (D × D)} (e : H a = some (.ext (RawD a es.toArray ep))) (q : DRe C ρ H es kvs) (n : (keysN kvs).Nodup) (t : tupKs kvs = true) :
    ∃ xs, s.heap.DictOfH (nestedKind X.prog X.w) a xs ∧ KX C ρ H kvs xs ∧ es = xs.map (entryOfKey (nestedKind X.prog X.w)) := by
  obtain ⟨xs, e1, kx⟩ := KX.of (P := X.prog) (w := X.w) ew.symm q t
  obtain ⟨⟨o, ho, hx, hd⟩, _, _⟩ := (show ObjOk X.prog X.w H s.heap a (.ext (RawD a es.toArray ep)) from I.hok a _ e)
  exact ⟨xs, ⟨o, es.toArray, ep, ho, hx, hd, by simpa using e1, kx.is eK I, kx.nodup n⟩, kx, e1⟩
theorem rawO_ok {P : Program} {w : World} {h : Heap} {a : Addr} {es : Array DictEntry} {ep : Nat} {o : Obj} (ho : h.get? a = some o) (hx : o.ExactDict) (hd : o.data = .dict es ep) : ObjOk P w H h a (.ext (RawD a es ep)) :=
  ⟨⟨o, ho, hx, hd⟩, ⟨o, ho⟩, fun h1 h2 ⟨o1, e1, x1, d1⟩ k => ⟨o1, k _ e1, x1, d1⟩⟩
/-- a written dict of the heap, as a thing of the abstract one -/
theorem dict_raw {P : Program} {w : World} {h : Heap} {a : Addr} {xs : List (NestedKey × Addr × Value)} (d : h.DictOfH (nestedKind P w) a xs) : ∃ ep, ObjOk P w H h a (.ext (RawD a (xs.map (entryOfKey (nestedKind P w))).toArray ep)) ∧ ∃ u, h.get? a = some u := by
  obtain ⟨o, es, ep, ho, hx, hd, he, _, _⟩ := d
  refine ⟨ep, ?_, o, ho⟩
  have : es = (xs.map (entryOfKey (nestedKind P w))).toArray := by rw [← he]
  rw [← this]
  exact rawO_ok ho hx hd
end
end Sim
set_option maxHeartbeats 1000000
namespace Sim
open PySem PySem.Spec PyProof.Rows L2
/-! ### dicts: what is asked of them -/
section
variable {C : Cxt} {X : Cx} {ρ : List Addr} {H : Hp} {m : MH} {E : XK}
theorem RD.key {x : V} {d : D} {k : NestedKey} (h : RD C ρ H x d) (e : keyT d = some k) : DR C ρ H x d := by
  cases h with
  | dr h => exact h
  | lst => cases e
  | dct => cases e
theorem dget_some {kvs : List (D × D)} {d : D} {o : Option D} (h : dget kvs d = some o) : ∃ k, keyT d = some k ∧ tupKs kvs = true ∧ dlook kvs k = o := by
  unfold dget at h
  split at h
  · rename_i k e
    split at h
    · rename_i t
      exact ⟨k, e, t, Option.some.inj h⟩
    · cases h
  · cases h
theorem nroom {X : Cx} (hu : X.A.units + 65 < cLine) : (nestedKind X.prog X.w).room X.A.in1 := by
  show X.A.units + 1 + 8 < cLine
  omega
theorem dict_in (eK : X.K = C.K) (ew : X.w = C.w) (hu : X.A.units + 65 < cLine) {pins : List (Addr × Obj)} {s : Shared} {σ : St} {x y : V} {v u : Value} {d : D} {kvs : List (D × D)} {o : Option D} {Q : VK} (I : Inv X pins σ H s) (rx : RelV x v) (ry : RelV y u)
    (k1 : RD C ρ H x d) (k2 : RD C ρ H y (.dict kvs)) (h : dget kvs d = some o) (neg : Bool) (q : Q (.bl (if neg then !o.isSome else o.isSome)) H) :
    wpAny (model X.prog X.w) X.A (compareOp (if neg then .NotIn else .In) v u) (EP X pins σ Q) X.xe s := by
  obtain ⟨k, e, t, rfl⟩ := dget_some h
  obtain ⟨n, _, b, rfl, rfl, hk⟩ := key_is eK I (k1.key e) e rx
  obtain ⟨a, es, ep, rfl, ha, hs, hz, nd, qe⟩ := k2.dict
  cases (show u = _ from ry)
  obtain ⟨xs, dd, kx, _⟩ := dict_at eK ew I ha qe nd t
  rw [kx.some_iff k] at q
  cases neg
  · exact wpAny_in_heap (nroom hu) hk hs dd ⟨.bl _, H, I.tok _, rfl, q⟩
  · show wpAny _ _ (do return Value.bool (!(← contains (.ref a) (.ref b)))) _ _ s
    exact wpAny_bind (wpAny_contains_heap (nroom hu) hk hs dd (wpAny_pure ⟨.bl _, H, I.tok _, rfl, q⟩))
theorem dict_idx (eK : X.K = C.K) (ew : X.w = C.w) (hu : X.A.units + 65 < cLine) {value slice : Expr} {pins : List (Addr × Obj)} {s : Shared} {σ : St} {x y : V} {v u : Value} {d : D} {kvs : List (D × D)} {r : D} {Q : VK} (I : Inv X pins σ H s) (rx : RelV x v) (ry : RelV y u)
    (k1 : RD C ρ H x (.dict kvs)) (k2 : RD C ρ H y d) (h : dget kvs d = some (some r)) (q : ∀ z, DR C ρ H z r → Q z H) (hs : subscripted slice false v u = operate [v, u] (getItem v u)) :
    wpAny (model X.prog X.w) X.A (subscriptTail value slice v u) (EP X pins σ Q) X.xe s := by
  obtain ⟨k, e, t, e2⟩ := dget_some h
  obtain ⟨n, _, b, rfl, rfl, hk⟩ := key_is eK I (k2.key e) e ry
  obtain ⟨a, es, ep, rfl, ha, hm, hz, nd, qe⟩ := k1.dict
  cases (show v = _ from rx)
  obtain ⟨xs, dd, kx, _⟩ := dict_at eK ew I ha qe nd t
  have := kx.look k
  rw [e2] at this
  obtain ⟨b2, u2, vv, h1, h2, h3⟩ := this
  exact PyProof.Rows.tail_any dd.typeIs PySem.F.slot_dict_getitem.lookup (wpAny_getItem_heap (nroom hu) hk dd h1 ⟨vv, H, I.tok _, h2, q _ h3⟩) hs
theorem dict_get (eK : X.K = C.K) (ew : X.w = C.w) (hu : X.A.units + 65 < cLine) : MtR X "dict.get" (fun x xs H Q => ∃ ρ w ws m E, HR C ρ H m ∧ WR C ρ H x w ∧ WRs C ρ H xs ws ∧ RG C (relW C) E (mGet w ws m) ρ H Q) := by
  intro pins s σ H x xs v us Q I rx rs h
  obtain ⟨ρ, w, ws, m, E, hr, h1, h2, q⟩ := h
  unfold mGet at q
  split at q
  · rename_i kvs d e1
    have k1 := rd_ok hr h1 e1
    cases h2 with | @cons y _ _ _ hy h2 =>
    cases h2
    have hy : DR C ρ H y d := hy
    obtain ⟨u, rfl, ru⟩ := rs.one
    obtain ⟨a, es, ep, rfl, ha, hm, hz, nd, qe⟩ := k1.dict
    cases (show v = _ from rx)
    cases eg : dget kvs d with
    | none => rw [eg] at q; exact q.off
    | some o =>
      obtain ⟨k, e, t, e2⟩ := dget_some eg
      obtain ⟨n, _, b, rfl, rfl, hk⟩ := key_is eK I hy e ru
      obtain ⟨xs, dd, kx, _⟩ := dict_at eK ew I ha qe nd t
      have hl := kx.look k
      refine call_meetsIn PySem.F.slot_dict_get dd.typeIs PySem.F.entry_dict_get (PySem.F.args_dict_get_2 _ _) (meetsH_dict_get (nestedKind X.prog X.w) a b hm) ⟨nroom hu, k, xs, hk, dd, ?_⟩
      cases o with
      | none =>
        rw [e2] at hl
        simp only [hl]
        rw [eg] at q
        exact ⟨.non, H, I.tok _, rfl, q.dat hr .non⟩
      | some r =>
        rw [e2] at hl
        obtain ⟨b2, u2, vv, h1, h2, h3⟩ := hl
        simp only [h1]
        rw [eg] at q
        exact ⟨vv, H, I.tok _, h2, q.dat hr h3⟩
  · exact q.off
theorem dict_set (eK : X.K = C.K) (ew : X.w = C.w) (hu : X.A.units + 65 < cLine) {pins : List (Addr × Obj)} {s : Shared} {σ : St} {a : Addr} {y z : V} {iv u : Value} {kd vd : D} {kvs : List (D × D)} {k : NestedKey} {Q : Hp → Prop} {p : Nat} (I : Inv X pins σ H s) (hr : HR C ρ H m) (ha : ρ[p]? = some a) (hm : m[p]? = some (.dct kvs)) (ri : RelV y iv) (rv : RelV z u)
    (h1 : DR C ρ H y kd) (h2 : DR C ρ H z vd) (e : keyT kd = some k) (t : tupKs kvs = true) (hz : kvs.length < sizeLine) (q : ∀ H', Ext ρ H ρ H' → HR C ρ H' (m.set p (.dct (dput kvs k kd vd))) → Q H') :
    wpAny (model X.prog X.w) X.A (setItem (.ref a) iv u) (fun _ s' => ∃ H', Inv X pins σ H' s' ∧ Q H') X.xe s := by
  obtain ⟨n, tk, b, rfl, rfl, hk⟩ := key_is eK I h1 e ri
  obtain ⟨a', ha', es, ep, he, hs, hl, nd, qe⟩ := hr.at hm
  rw [ha] at ha'; cases ha'
  obtain ⟨xs, dd, kx, ee⟩ := dict_at eK ew I he qe nd t
  have hxl := kx.length
  refine wpAny_setItem_heap (hsz := by omega) (nroom hu) hk dd fun h' dd' sb => ?_
  have kx' := kx.put n tk h1 rv h2
  obtain ⟨ep', ok', he'⟩ := dict_raw (H := H) dd'
  obtain ⟨_, _, _, _, _, _, _, _, nd'⟩ := id dd'
  have xt := Ext.write (ρ := ρ) (H := H) (o := .ext (RawD a ((storedH xs k b u).map (entryOfKey (nestedKind X.prog X.w))).toArray ep')) (List.mem_of_getElem? ha)
  have hw := hr.write (o := .ext (RawD a ((storedH xs k b u).map (entryOfKey (nestedKind X.prog X.w))).toArray ep')) (mo := .dct (dput kvs k kd vd)) ha
    ⟨_, ep', upd_same, hs, by rw [List.length_map]; have := storedH_length xs k b u; omega, kx'.nodup2 nd', KX.to ew.symm (kx'.ext xt)⟩
  have ok2 : ∀ H2, ObjOk X.prog X.w H2 h' a (.ext (RawD a ((storedH xs k b u).map (entryOfKey (nestedKind X.prog X.w))).toArray ep')) := fun _ => ok'
  exact ⟨_, d_write I (by rw [he]; exact True.intro) sb he' (ok2 _), q _ xt hw⟩
end
end Sim
set_option maxHeartbeats 1000000
namespace Sim
open PySem PySem.Spec PyProof.Rows L2
section
variable {C : Cxt} {X : Cx} {ρ : List Addr} {H : Hp} {m : MH} {E : XK}
theorem RG.bl {b : Bool} {Q : Bool → Hp → Prop} (q : RG C relB E (.ok b m) ρ H Q) (h : HR C ρ H m) : Q b H := q ρ b H Ext.refl h rfl

theorem eqD_ok (eK : X.K = C.K) (hu : X.A.units + 65 < cLine) {pins : List (Addr × Obj)} {s : Shared} {σ : St} {x y : V} {v u : Value} {d e : D} {c : Bool} {Q : VK} (I : Inv X pins σ H s) (rx : RelV x v) (ry : RelV y u)
    (k1 : RD C ρ H x d) (k2 : RD C ρ H y e) (h : eqD d e = some c) (q : Q (.bl c) H) : wpAny (model X.prog X.w) X.A (compareOp .Eq v u) (EP X pins σ Q) X.xe s := by
  unfold eqD at h
  split at h
  · cases h; cases k1.int; cases k2.int
    exact op_eq pins s σ H _ _ v u Q I rx ry ⟨rfl, by simpa using q⟩
  · cases h; obtain ⟨rfl, _⟩ := k1.str; obtain ⟨rfl, _⟩ := k2.str
    exact op_eq pins s σ H _ _ v u Q I rx ry ⟨rfl, by simpa using q⟩
  · cases h; cases k1.bool; cases k2.bool
    exact op_eq pins s σ H _ _ v u Q I rx ry ⟨rfl, by simpa using q⟩
  · split at h
    · rename_i z
      cases h
      simp only [Bool.and_eq_true, decide_eq_true_eq] at z
      obtain ⟨as, r1⟩ := Dp.reads I d x v (eK ▸ k1.dp z.1.1) rx
      obtain ⟨bs, r2⟩ := Dp.reads I e y u (eK ▸ k2.dp z.1.2) ry
      exact SeqAt.compareEq_reads r1 r2 z.1.1 z.1.2 (by omega) ⟨.bl _, H, I, rfl, q⟩
    · cases h
theorem neD_ok (eK : X.K = C.K) (hu : X.A.units + 65 < cLine) {pins : List (Addr × Obj)} {s : Shared} {σ : St} {x y : V} {v u : Value} {d e : D} {c : Bool} {Q : VK} (I : Inv X pins σ H s) (rx : RelV x v) (ry : RelV y u)
    (k1 : RD C ρ H x d) (k2 : RD C ρ H y e) (h : eqD d e = some c) (q : Q (.bl (!c)) H) : wpAny (model X.prog X.w) X.A (compareOp .NotEq v u) (EP X pins σ Q) X.xe s := by
  unfold eqD at h
  split at h
  · cases h; cases k1.int; cases k2.int
    exact op_ne pins s σ H _ _ v u Q I rx ry ⟨rfl, by simpa using q⟩
  · cases h; obtain ⟨rfl, _⟩ := k1.str; obtain ⟨rfl, _⟩ := k2.str
    exact op_ne pins s σ H _ _ v u Q I rx ry ⟨rfl, by simpa using q⟩
  · cases h; cases k1.bool; cases k2.bool
    exact op_ne pins s σ H _ _ v u Q I rx ry ⟨rfl, by simpa using q⟩
  · split at h
    · rename_i z
      cases h
      simp only [Bool.and_eq_true, decide_eq_true_eq] at z
      obtain ⟨as, r1⟩ := Dp.reads I d x v (eK ▸ k1.dp z.1.1) rx
      obtain ⟨bs, r2⟩ := Dp.reads I e y u (eK ▸ k2.dp z.1.2) ry
      exact SeqAt.compareNe_reads r1 r2 z.1.1 z.1.2 (by omega) ⟨.bl _, H, I, rfl, q⟩
    · cases h
theorem RD.lay_list {ds : List D} {x : V} (k : RD C ρ H x (.list ds)) (c : PyData.canLayAll0 ds = true) : Dp C.K H x (.list ds) := k.dp (by simpa [PyData.canLay0] using c)
theorem RD.lay_tup {ds : List D} {x : V} (k : RD C ρ H x (.tuple ds)) (c : PyData.canLayAll0 ds = true) : Dp C.K H x (.tuple ds) := k.dp (by simpa [PyData.canLay0] using c)
theorem inL_ok (eK : X.K = C.K) (hu : X.A.units + 65 < cLine) {pins : List (Addr × Obj)} {s : Shared} {σ : St} {x y : V} {v u : Value} {d : D} {ds : List D} {c : Bool} {Q : VK} (I : Inv X pins σ H s) (rx : RelV x v) (ry : RelV y u)
    (k1 : RD C ρ H x d) (k2 : RD C ρ H y (.list ds) ∨ RD C ρ H y (.tuple ds)) (h : inD d ds = some c) (neg : Bool) (q : Q (.bl (if neg then !c else c)) H) :
    wpAny (model X.prog X.w) X.A (compareOp (if neg then .NotIn else .In) v u) (EP X pins σ Q) X.xe s := by
  unfold inD at h
  split at h
  · rename_i z
    cases h
    simp only [Bool.and_eq_true, decide_eq_true_eq] at z
    obtain ⟨⟨z1, z2⟩, z3⟩ := z
    obtain ⟨as, r1⟩ := Dp.reads I d x v (eK ▸ k1.dp z1) rx
    rcases k2 with k2 | k2
    · obtain ⟨bs, r2⟩ := Dp.reads I (.list ds) y u (eK ▸ k2.lay_list z2) ry
      cases neg
      · exact SeqAt.in_list_reads r2 r1 z2 z1 (by omega) ⟨.bl _, H, I, rfl, q⟩
      · exact SeqAt.notIn_list_reads r2 r1 z2 z1 (by omega) ⟨.bl _, H, I, rfl, q⟩
    · obtain ⟨bs, r2⟩ := Dp.reads I (.tuple ds) y u (eK ▸ k2.lay_tup z2) ry
      cases neg
      · exact SeqAt.in_tuple_reads r2 r1 z2 z1 (by omega) ⟨.bl _, H, I, rfl, q⟩
      · exact SeqAt.notIn_tuple_reads r2 r1 z2 z1 (by omega) ⟨.bl _, H, I, rfl, q⟩
  · cases h
theorem RD.non_iff {d : D} {x : V} (k : RD C ρ H x d) : decide (x = .non) = (match d with | .none => true | _ => false) := by
  cases k with
  | dr k => cases k <;> simp
  | lst => simp
  | dct => simp
theorem cmp_ok (eK : X.K = C.K) (ew : X.w = C.w) (hu : X.A.units + 65 < cLine) {o : CmpOp} {op : COp} (ho : cCmp o = some op) : OpR X (compareOp o) (r2B C (cmpW op)) := by
  intro pins s σ H x y v u Q I rx ry h
  obtain ⟨ρ, w1, w2, m, E, hr, h1, h2, q⟩ := h
  unfold cmpW at q
  cases e1 : rd m w1 with
  | none => simp only [e1] at q; exact q.off
  | some d1 =>
    cases e2 : rd m w2 with
    | none => simp only [e1, e2] at q; exact q.off
    | some d2 =>
      have k1 := rd_ok hr h1 e1
      have k2 := rd_ok hr h2 e2
      simp only [e1, e2] at q
      cases e3 : cmpD op d1 d2 with
      | none => simp only [e3] at q; exact q.off
      | some c =>
        simp only [e3] at q
        have q' : Q (.bl c) H := q.bl hr
        unfold cmpD at e3
        split at e3
        · cases o <;> cases ho
          exact eqD_ok eK hu I rx ry k1 k2 e3 q'
        · cases o <;> cases ho
          cases e4 : eqD d1 d2 with
          | none => rw [e4] at e3; cases e3
          | some c' =>
            rw [e4] at e3
            cases e3
            exact neD_ok eK hu I rx ry k1 k2 e4 q'
        · cases o <;> cases ho
          cases e3; cases k1.int; cases k2.int
          exact op_lt pins s σ H _ _ v u Q I rx ry ⟨_, _, rfl, rfl, q'⟩
        · cases o <;> cases ho
          cases e3; cases k1.int; cases k2.int
          exact op_le pins s σ H _ _ v u Q I rx ry ⟨_, _, rfl, rfl, q'⟩
        · cases o <;> cases ho
          cases e3; cases k1.int; cases k2.int
          exact op_gt pins s σ H _ _ v u Q I rx ry ⟨_, _, rfl, rfl, q'⟩
        · cases o <;> cases ho
          cases e3; cases k1.int; cases k2.int
          exact op_ge pins s σ H _ _ v u Q I rx ry ⟨_, _, rfl, rfl, q'⟩
        · cases o <;> cases ho
          exact inL_ok eK hu I rx ry k1 (.inl k2) e3 false q'
        · cases o <;> cases ho
          exact inL_ok eK hu I rx ry k1 (.inr k2) e3 false q'
        · cases o <;> cases ho
          cases e4 : inD d1 _ with
          | none => rw [e4] at e3; cases e3
          | some c' =>
            rw [e4] at e3
            cases e3
            exact inL_ok eK hu I rx ry k1 (.inl k2) e4 true q'
        · cases o <;> cases ho
          cases e4 : inD d1 _ with
          | none => rw [e4] at e3; cases e3
          | some c' =>
            rw [e4] at e3
            cases e3
            exact inL_ok eK hu I rx ry k1 (.inr k2) e4 true q'
        · cases o <;> cases ho
          cases e4 : dget _ d1 with
          | none => rw [e4] at e3; cases e3
          | some c' =>
            rw [e4] at e3
            cases e3
            exact dict_in eK ew hu I rx ry k1 k2 e4 false q'
        · cases o <;> cases ho
          cases e4 : dget _ d1 with
          | none => rw [e4] at e3; cases e3
          | some c' =>
            rw [e4] at e3
            cases e3
            exact dict_in eK ew hu I rx ry k1 k2 e4 true q'
        · cases o <;> cases ho
          have e5 := k1.non_iff
          cases k2.none
          refine op_isN pins s σ H _ _ v u Q I rx ry ⟨rfl, ?_⟩
          rw [e5]
          cases e3
          cases d1 <;> exact q'
        · cases o <;> cases ho
          have e5 := k1.non_iff
          cases k2.none
          refine op_notN pins s σ H _ _ v u Q I rx ry ⟨rfl, ?_⟩
          rw [e5]
          cases e3
          cases d1 <;> exact q'
        · cases e3

/-! ### truth -/
theorem truD_ok {d : D} {x : V} {c : Bool} (k : RD C ρ H x d) (h : truD d = some c) : TruV C.K x H c := by
  unfold truD at h
  split at h
  · cases h; cases k.none; exact rfl
  · cases h; cases k.bool; exact rfl
  · cases h; cases k.int; exact rfl
  · cases h
    obtain ⟨rfl, z⟩ := k.str
    refine ⟨z, ?_⟩
    rw [Bool.eq_iff_iff]
    simp
  · cases h
    obtain ⟨a, xs, rfl, ha, z, q⟩ := k.list
    refine .inl ⟨xs, .inl (.inl ha), ?_⟩
    cases q <;> rfl
  · cases h
    obtain ⟨a, xs, rfl, ha, z, q⟩ := k.tup
    refine .inr (.inl ⟨xs, ha, ?_⟩)
    cases q <;> rfl
  · cases h
theorem truW_ok (eK : X.K = C.K) {pins : List (Addr × Obj)} {s : Shared} {σ : St} {x : V} {v : Value} {w : W} {Q : Bool → Hp → Prop} (I : Inv X pins σ H s) (rx : RelV x v) (hr : HR C ρ H m) (h1 : WR C ρ H x w)
    (q : RG C relB E (truW w m) ρ H Q) : wpAny (model X.prog X.w) X.A (truthy v) (TP X pins σ Q) X.xe s := by
  unfold truW at q
  cases e1 : rd m w with
  | none => simp only [e1] at q; exact q.off
  | some d =>
    simp only [e1] at q
    cases e2 : truD d with
    | none => simp only [e2] at q; exact q.off
    | some c =>
      simp only [e2] at q
      exact tru_ok pins s σ H x v Q I rx ⟨c, eK ▸ truD_ok (rd_ok hr h1 e1) e2, q.bl hr⟩

/-! ### items, slices -/
theorem atI_rel {xs : List V} {ds : List D} {i : Int} {d : D} (q : DRs C ρ H xs ds) (h : atI ds i = some d) : ∃ v, atI xs i = some v ∧ DR C ρ H v d := by
  unfold atI at h ⊢
  rw [← q.length] at h
  cases e : ixN xs.length i with
  | none => rw [e] at h; cases h
  | some j =>
    rw [e] at h
    exact q.get h
theorem idx_ok (eK : X.K = C.K) (ew : X.w = C.w) (hu : X.A.units + 65 < cLine) : IxR X (r2 C idxW) := by
  intro value slice pins s σ H x y v u Q I rx ry h hs
  obtain ⟨ρ, w1, w2, m, E, hr, h1, h2, q⟩ := h
  unfold idxW at q
  split at q
  · rename_i ns i
    split at q
    · rename_i j hj
      obtain ⟨a, rfl, ha⟩ := h1
      have h2 : DR C ρ H y (.int i) := h2
      cases h2
      have : atI (ns.map V.int) i = some (.int j) := by
        unfold atI at hj ⊢
        rw [List.length_map]
        cases e : ixN ns.length i with
        | none => rw [e] at hj; cases hj
        | some k =>
          rw [e] at hj
          have hj : ns[k]? = some j := hj
          show (ns.map V.int)[k]? = _
          rw [List.getElem?_map, hj]
          rfl
      exact ix_list value slice pins s σ H _ _ v u Q I rx ry ⟨a, _, i, .int j, rfl, rfl, eK ▸ ha.sqL, this, q.dat hr (.int j)⟩ hs
    · exact q.off
  · cases e1 : rd m w1 with
    | none => simp only [e1] at q; exact q.off
    | some d1 =>
      cases e2 : rd m w2 with
      | none => simp only [e1, e2] at q; exact q.off
      | some d2 =>
        have k1 := rd_ok hr h1 e1
        have k2 := rd_ok hr h2 e2
        simp only [e1, e2] at q
        cases e3 : idxD d1 d2 with
        | none => simp only [e3] at q; exact q.off
        | some d =>
          simp only [e3] at q
          unfold idxD at e3
          split at e3
          · obtain ⟨a, xs, rfl, ha, z, qa⟩ := k1.list
            cases k2.int
            obtain ⟨v', h3, h4⟩ := atI_rel qa e3
            exact ix_list value slice pins s σ H _ _ v u Q I rx ry ⟨a, _, _, v', rfl, rfl, .inl (.inl ha), h3, q.dat hr h4⟩ hs
          · obtain ⟨a, xs, rfl, ha, z, qa⟩ := k1.tup
            cases k2.int
            obtain ⟨v', h3, h4⟩ := atI_rel qa e3
            exact ix_tup value slice pins s σ H _ _ v u Q I rx ry ⟨a, _, _, v', rfl, rfl, eK ▸ ha, h3, q.dat hr h4⟩ hs
          · split at e3
            · rename_i v0 eg
              rw [e3] at eg
              exact dict_idx eK ew hu I rx ry k1 k2 eg (fun z hz => q.dat hr hz) hs
            · cases e3
          · cases e3
theorem cut_rel {xs : List V} {ds : List D} (q : DRs C ρ H xs ds) (lo hi : Option Int) : DRs C ρ H (cutV xs lo hi) (cutL ds lo hi) := by
  unfold cutV cutL
  rw [q.length]
  exact (q.drop _).take _
theorem cut_whole {α : Type} (xs : List α) (lo hi : Option Int) (h : HT.sIx xs.length 0 lo = 0 ∧ HT.sIx xs.length xs.length hi = xs.length) : (xs.drop (HT.sIx xs.length 0 lo)).take (HT.sIx xs.length xs.length hi - HT.sIx xs.length 0 lo) = xs := by
  rw [h.1, h.2]
  simp
theorem slc_ok (eK : X.K = C.K) (mu : Bool) : SlR X (fun x lo hi H Q => ∃ ρ w m E, HR C ρ H m ∧ WR C ρ H x w ∧ RG C (relW C) E (slcW mu w lo hi m) ρ H Q) := by
  intro pins s σ H x v vl vu lo hi sl Q I rx hs pl pu h
  obtain ⟨ρ, w, m, E, hr, h1, q⟩ := h
  unfold slcW at q
  cases e1 : rd m w with
  | none => simp only [e1] at q; exact q.off
  | some d1 =>
    have k1 := rd_ok hr h1 e1
    simp only [e1] at q
    split at q
    · rename_i ds e
      cases e
      obtain ⟨a, xs, rfl, ha, z, qa⟩ := k1.list
      exact sl_list pins s σ H _ v vl vu lo hi sl Q I rx hs pl pu ⟨a, xs, rfl, .inl (.inl ha), fun p hp => newL_ok hr hp (Nat.le_trans (cutV_length xs lo hi) z) (cut_rel qa lo hi) q⟩
    · rename_i ds e
      cases e
      obtain ⟨a, xs, rfl, ha, z, qa⟩ := k1.tup
      refine sl_tupA pins s σ H _ v vl vu lo hi sl Q I rx hs pl pu ⟨a, xs, rfl, eK ▸ ha, fun hw => ?_, fun _ p hp => newT_ok hr hp (Nat.le_trans (cutV_length xs lo hi) z) (cut_rel qa lo hi) q⟩
      have : cutL ds lo hi = ds := by
        unfold cutL
        rw [qa.length] at hw
        exact cut_whole ds lo hi hw
      rw [this] at q
      cases k1 with | dr r => exact q.dat hr r
    · exact q.off
/-- x[i] = v -/
theorem sub_store_ok (eK : X.K = C.K) (ew : X.w = C.w) (hu : X.A.units + 65 < cLine) : PSet X (fun o i v H Q => ∃ ρ wo wi wv m E, HR C ρ H m ∧ WR C ρ H o wo ∧ WR C ρ H i wi ∧ WR C ρ H v wv ∧ RG C (fun _ _ (_ : Unit) (_ : Unit) => True) E (subW wo wi wv m) ρ H fun _ H' => Q H') := by
  intro pins s σ H o i v ov iv u Q I ro ri rv h
  obtain ⟨ρ, wo, wi, wv, m, E, hr, h1, h2, h3, q⟩ := h
  unfold subW at q
  split at q
  · rename_i p k d
    split at q
    · rename_i ds hm
      split at q
      · rename_i j hj
        obtain ⟨a, ha, rfl⟩ := h1
        have h2 : DR C ρ H i (.int k) := h2
        cases h2
        obtain ⟨a', ha', xs, hl, z, qs⟩ := hr.at hm
        rw [ha] at ha'; cases ha'
        refine set_list pins s σ H _ _ v ov iv u Q I ro ri rv ⟨a, xs, k, j, rfl, rfl, hl, by rw [qs.length]; exact hj, ?_⟩
        have hw := hr.write (o := .lst (xs.set j v)) (mo := .lst (ds.set j d)) ha ⟨_, upd_same, by rw [List.length_set]; exact z, DRs.set (DR.ext (Ext.write (List.mem_of_getElem? ha)) _ _ h3) j (DRs.ext (Ext.write (List.mem_of_getElem? ha)) _ _ qs)⟩
        exact q ρ () _ (Ext.write (List.mem_of_getElem? ha)) hw trivial
      · exact q.off
    · exact q.off
  · rename_i p kd vd _
    split at q
    · rename_i kvs hm
      split at q
      · rename_i nk hk
        split at q
        · rename_i z
          rw [Bool.and_eq_true, decide_eq_true_eq] at z
          obtain ⟨a, ha, rfl⟩ := h1
          cases (show ov = _ from ro)
          exact dict_set eK ew hu I hr ha hm ri rv h2 h3 hk z.1 z.2 fun H' x hr' => q ρ () _ x hr' trivial
        · exact q.off
      · exact q.off
    · exact q.off
  · exact q.off
end
end Sim
set_option maxHeartbeats 1000000
namespace Sim
open PySem PySem.Spec PyProof.Rows L2
/-- what a call of a built-in asks -/
def rB (C : Cxt) (f : List W → MH → R W) : List V → Hp → VK → Prop := fun vs H Q => ∃ ρ ws m E, HR C ρ H m ∧ WRs C ρ H vs ws ∧ RG C (relW C) E (f ws m) ρ H Q
section
variable {C : Cxt} {X : Cx} {ρ : List Addr} {H : Hp} {m : MH} {E : XK}
theorem WRs.one {vs : List V} {x : W} (h : WRs C ρ H vs [x]) : ∃ v, vs = [v] ∧ WR C ρ H v x := by
  cases h with | cons a b => cases b; exact ⟨_, rfl, a⟩
theorem WRs.two {vs : List V} {x y : W} (h : WRs C ρ H vs [x, y]) : ∃ v u, vs = [v, u] ∧ WR C ρ H v x ∧ WR C ρ H u y := by
  cases h with | cons a b => cases b with | cons b c => cases c; exact ⟨_, _, rfl, a, b⟩
theorem len_ok (eK : X.K = C.K) (ew : X.w = C.w) : CallR X (.builtin "len") (rB C bLen) := by
  intro pins s σ H xs us Q I r h
  obtain ⟨ρ, ws, m, E, hr, h1, q⟩ := h
  unfold bLen at q
  split at q
  · rename_i ns
    obtain ⟨v, rfl, h2⟩ := h1.one
    obtain ⟨a, rfl, ha⟩ := h2
    exact call_len pins s σ H _ us Q I r ⟨_, ns.length, rfl, .inl ⟨_, eK ▸ ha.sqL, by simp⟩, q.dat hr (.int _)⟩
  · rename_i x hx
    obtain ⟨v, rfl, h2⟩ := h1.one
    split at q
    · rename_i ds e
      obtain ⟨a, xs, rfl, ha, z, qa⟩ := (rd_ok hr h2 e).list
      exact call_len pins s σ H _ us Q I r ⟨_, ds.length, rfl, .inl ⟨_, .inl (.inl ha), qa.length.symm⟩, q.dat hr (.int _)⟩
    · rename_i ds e
      obtain ⟨a, xs, rfl, ha, z, qa⟩ := (rd_ok hr h2 e).tup
      exact call_len pins s σ H _ us Q I r ⟨_, ds.length, rfl, .inr ⟨_, eK ▸ ha, qa.length.symm⟩, q.dat hr (.int _)⟩
    · rename_i y e
      obtain ⟨rfl, z⟩ := (rd_ok hr h2 e).str
      exact call_len pins s σ H _ us Q I r ⟨_, y.length, rfl, ⟨z, rfl⟩, q.dat hr (.int _)⟩
    · rename_i kvs e
      obtain ⟨a, es, ep, rfl, ha, hm, hz, nd, qe⟩ := (rd_ok hr h2 e).dict
      obtain ⟨u, rfl, ru⟩ := r.one
      cases (show u = _ from ru)
      obtain ⟨hd, _, _⟩ := (show ObjOk X.prog X.w H s.heap a (.ext (RawD a es.toArray ep)) from I.hok a _ ha)
      have hl := qe.length
      have e1 : ((List.toArray es).size : Int) = kvs.length := by rw [List.size_toArray, hl]
      have hT : s.TypeIs (.ref a) "dict" := (show s.heap.DictRaw a es.toArray ep from hd).typeIs
      refine PyProof.Rows.call_len_slot (n := (List.toArray es).size) hT PySem.F.slot_dict_len (fun Q' hq => call_len_raw hm hd hq) (by omega) (by rw [List.size_toArray]; rw [sizeLine_eq] at hz; omega) ?_
      exact ⟨.int _, H, I.tok _, ⟨_, rfl⟩, by rw [e1]; exact q.dat hr (.int _)⟩
    · exact q.off
  · exact q.off
/-- the values of the entries, the keys -/
theorem DRe.vals : ∀ {es : List DictEntry} {kvs : List (D × D)}, DRe C ρ H es kvs → ∃ vs, Vals vs (es.map (·.val)) ∧ DRs C ρ H vs (kvs.map (·.2))
  | _, _, .nil => ⟨[], .nil, .nil⟩
  | _, _, .cons _ _ r2 h2 _ _ t => let ⟨vs, a, b⟩ := DRe.vals t; ⟨_ :: vs, .cons r2 a, .cons h2 b⟩
theorem DRe.kes : ∀ {es : List DictEntry} {kvs : List (D × D)}, DRe C ρ H es kvs → ∃ vs, Vals vs (es.map (·.key)) ∧ DRs C ρ H vs (kvs.map (·.1))
  | _, _, .nil => ⟨[], .nil, .nil⟩
  | _, _, .cons r1 h1 _ _ _ _ t => let ⟨vs, a, b⟩ := DRe.kes t; ⟨_ :: vs, .cons r1 a, .cons h1 b⟩
theorem rdL_ok (hr : HR C ρ H m) {v : V} {w : W} (h : WR C ρ H v w) {ds : List D} (e : rdL m w = some ds) : ∃ a xs, v = .ref a ∧ H a = some (.lst xs) ∧ xs.length ≤ sizeLine ∧ DRs C ρ H xs ds := by
  unfold rdL at e
  split at e
  · rename_i es e2
    cases e
    exact (rd_ok hr h e2).list
  · cases e
theorem bools_ok : ∀ {ds : List D} {bs : List Bool} {xs : List V}, bools ds = some bs → DRs C ρ H xs ds → xs = bs.map V.bl
  | [], bs, xs, h, q => by cases h; cases q; rfl
  | .bool b :: ds, bs, xs, h, q => by
    rw [bools] at h
    cases e : bools ds with
    | none => rw [e] at h; cases h
    | some r =>
      rw [e] at h
      cases h
      cases q with
      | cons q1 q2 =>
        cases q1
        rw [bools_ok e q2]
        rfl
  | .none :: _, _, _, h, _ => by cases h
  | .int _ :: _, _, _, h, _ => by cases h
  | .str _ :: _, _, _, h, _ => by cases h
  | .list _ :: _, _, _, h, _ => by cases h
  | .tuple _ :: _, _, _, h, _ => by cases h
  | .dict _ :: _, _, _, h, _ => by cases h
theorem all_ok (hc : X.calm = true) : CallR X (.builtin "all") (rB C bAll) := by
  intro pins s σ H xs us Q I r h
  obtain ⟨ρ, ws, m, E, hr, h1, q⟩ := h
  unfold bAll at q
  split at q
  · obtain ⟨v, rfl, h2⟩ := h1.one
    split at q
    · rename_i bs e
      cases e2 : rdL m _ with
      | none => rw [e2] at e; cases e
      | some ds =>
        rw [e2] at e
        obtain ⟨a, xs, rfl, ha, z, qa⟩ := rdL_ok hr h2 e2
        have e3 := bools_ok (show bools ds = some bs from e) qa
        subst e3
        exact cr_all hc pins s σ H _ us Q I r ⟨a, bs, rfl, .inl (.inl ha), q.dat hr (.bl _)⟩
    · exact q.off
  · exact q.off
theorem any_ok (hc : X.calm = true) : CallR X (.builtin "any") (rB C bAny) := by
  intro pins s σ H xs us Q I r h
  obtain ⟨ρ, ws, m, E, hr, h1, q⟩ := h
  unfold bAny at q
  split at q
  · obtain ⟨v, rfl, h2⟩ := h1.one
    split at q
    · rename_i bs e
      cases e2 : rdL m _ with
      | none => rw [e2] at e; cases e
      | some ds =>
        rw [e2] at e
        obtain ⟨a, xs, rfl, ha, z, qa⟩ := rdL_ok hr h2 e2
        have e3 := bools_ok (show bools ds = some bs from e) qa
        subst e3
        exact cr_any hc pins s σ H _ us Q I r ⟨a, bs, rfl, .inl (.inl ha), q.dat hr (.bl _)⟩
    · exact q.off
  · exact q.off
theorem rdS_ok (hr : HR C ρ H m) {v : V} {w : W} (h : WR C ρ H v w) {ds : List D} (e : rdS m w = some ds) :
    (rd m w = some (.list ds) ∧ ∃ a xs, v = .ref a ∧ H a = some (.lst xs) ∧ xs.length ≤ sizeLine ∧ DRs C ρ H xs ds) ∨ (rd m w = some (.tuple ds) ∧ ∃ a xs, v = .ref a ∧ SqT C.K H a xs ∧ xs.length ≤ sizeLine ∧ DRs C ρ H xs ds) := by
  unfold rdS at e
  split at e
  · rename_i es e2
    cases e
    exact .inl ⟨e2, (rd_ok hr h e2).list⟩
  · rename_i es e2
    cases e
    exact .inr ⟨e2, (rd_ok hr h e2).tup⟩
  · cases e
theorem items_eq {n : Nat} {es : Array DictEntry} {f : DictEntry → Value} {acc : Array Value} (h : ItemsOf (fun i v => ∃ hi : i < es.size, v = f es[i]) acc es.size) : acc.toList = es.toList.map f := by
  apply List.ext_getElem?
  intro j
  rw [List.getElem?_map, Array.getElem?_toList, Array.getElem?_toList]
  cases hj : acc[j]? with
  | none =>
    have h1 : acc.size ≤ j := Array.getElem?_eq_none_iff.mp hj
    rw [Array.getElem?_eq_none (by have := h.1; omega)]
    rfl
  | some v =>
    obtain ⟨hi, e⟩ := h.2 j v hj
    rw [Array.getElem?_eq_getElem hi, e]
    rfl
theorem list_ok (eK : X.K = C.K) (hc : X.calm = true) (mu : Bool) : CallR X (.type "list") (rB C (bList mu)) := by
  intro pins s σ H xs us Q I r h
  obtain ⟨ρ, ws, m, E, hr, h1, q⟩ := h
  unfold bList at q
  split at q
  · obtain ⟨v, rfl, h2⟩ := h1.one
    split at q
    · rename_i ds e
      rcases rdS_ok hr h2 e with ⟨_, a, xs, rfl, ha, z, qa⟩ | ⟨_, a, xs, rfl, ha, z, qa⟩
      · exact call_list_of pins s σ H _ us Q I r ⟨a, xs, rfl, .inl (.inl (.inl ha)), fun p hp => newL_ok hr hp z qa q⟩
      · exact call_list_of pins s σ H _ us Q I r ⟨a, xs, rfl, .inr (eK ▸ ha), fun p hp => newL_ok hr hp z qa q⟩
    · split at q
      · rename_i kvs e
        obtain ⟨a, es, ep, rfl, ha, hm, hz, nd, qe⟩ := (rd_ok hr h2 e).dict
        obtain ⟨u, rfl, ru⟩ := r.one
        cases (show u = _ from ru)
        obtain ⟨hd, _, _⟩ := (show ObjOk X.prog X.w H s.heap a (.ext (RawD a es.toArray ep)) from I.hok a _ ha)
        obtain ⟨vs, hv, qv⟩ := qe.kes
        have hvl : vs.length = es.length := by rw [hv.length, List.length_map]
        refine PySem.W.kdl_call (KdlSrc.rawDict (es := es.toArray) (ep := ep) hm) (I.ok.hd hc) hd (by rw [List.size_toArray]; exact hz) fun h' tk acc' c' kp e3 it => ?_
        have ea : acc'.toList = es.map (·.key) := by simpa using items_eq (n := 0) (f := DictEntry.key) it
        refine ⟨.ref s.heap.objs.size, _, I.laid (t' := tk) (o := .lst vs) kp (Nat.le_refl _) ?_, rfl, newL_ok hr (I.hok.fresh (Nat.le_refl _)) (by omega) qv q⟩
        exact ⟨by omega, acc'.toList, c', by rw [ea]; exact hv, by rw [Array.toArray_toList]; exact e3⟩
      · exact q.off
  · exact q.off
theorem tuple_ok (eK : X.K = C.K) : CallR X (.type "tuple") (rB C bTuple) := by
  intro pins s σ H xs us Q I r h
  obtain ⟨ρ, ws, m, E, hr, h1, q⟩ := h
  unfold bTuple at q
  split at q
  · obtain ⟨v, rfl, h2⟩ := h1.one
    split at q
    · rename_i ds e
      rcases rdS_ok hr h2 e with ⟨_, a, xs, rfl, ha, z, qa⟩ | ⟨e2, a, xs, rfl, ha, z, qa⟩
      · exact call_tuple_of pins s σ H _ us Q I r ⟨a, xs, rfl, .inl ⟨.inl (.inl ha), fun p hp => newT_ok hr hp z qa q⟩⟩
      · refine call_tuple_of pins s σ H _ us Q I r ⟨a, xs, rfl, .inr ⟨eK ▸ ha, ?_⟩⟩
        have := rd_ok hr h2 e2
        cases this with | dr k => exact q.dat hr k
    · exact q.off
  · exact q.off
theorem int_ok : CallR X (.type "int") (rB C bInt) := by
  intro pins s σ H xs us Q I r h
  obtain ⟨ρ, ws, m, E, hr, h1, q⟩ := h
  unfold bInt at q
  split at q
  · obtain ⟨v, rfl, h2⟩ := h1.one
    split at q
    · rename_i i e
      cases (rd_ok hr h2 e).int
      exact call_int1 pins s σ H _ us Q I r (.inl ⟨i, rfl, q.dat hr (.int _)⟩)
    · rename_i i e
      cases (rd_ok hr h2 e).bool
      exact call_int1 pins s σ H _ us Q I r (.inr ⟨i, rfl, q.dat hr (.int _)⟩)
    · exact q.off
  · exact q.off
theorem intsOf_ok : ∀ {ds : List D} {bs : List Int} {xs : List V}, intsOf ds = some bs → DRs C ρ H xs ds → xs = bs.map V.int
  | [], bs, xs, h, q => by cases h; cases q; rfl
  | .int b :: ds, bs, xs, h, q => by
    rw [intsOf] at h
    cases e : intsOf ds with
    | none => rw [e] at h; cases h
    | some r =>
      rw [e] at h
      cases h
      cases q with
      | cons q1 q2 =>
        cases q1
        rw [intsOf_ok e q2]
        rfl
  | .none :: _, _, _, h, _ => by cases h
  | .bool _ :: _, _, _, h, _ => by cases h
  | .str _ :: _, _, _, h, _ => by cases h
  | .list _ :: _, _, _, h, _ => by cases h
  | .tuple _ :: _, _, _, h, _ => by cases h
  | .dict _ :: _, _, _, h, _ => by cases h
theorem maxI_mem : ∀ (is : List Int) (i : Int), maxI is i ∈ i :: is ∧ ∀ y ∈ i :: is, y ≤ maxI is i
  | [], i => by simp [maxI]
  | b :: bs, i => by
    unfold maxI
    obtain ⟨h1, h2⟩ := maxI_mem bs (if b > i then b else i)
    refine ⟨?_, fun y hy => ?_⟩
    · rcases List.mem_cons.mp h1 with h | h
      · rw [h]; split <;> simp
      · exact List.mem_cons_of_mem _ (List.mem_cons_of_mem _ h)
    · have h3 := h2 _ List.mem_cons_self
      generalize maxI bs (if b > i then b else i) = mm at h3 h2 ⊢
      rcases List.mem_cons.mp hy with rfl | hy
      · split at h3 <;> omega
      · rcases List.mem_cons.mp hy with rfl | hy
        · split at h3 <;> omega
        · exact h2 y (List.mem_cons_of_mem _ hy)
theorem maxI_eq {is : List Int} {i mx : Int} (h1 : mx ∈ i :: is) (h2 : ∀ y ∈ i :: is, y ≤ mx) : mx = maxI is i := by
  obtain ⟨a, b⟩ := maxI_mem is i
  have := b mx h1
  have := h2 _ a
  omega
theorem minI_mem : ∀ (is : List Int) (i : Int), minI is i ∈ i :: is ∧ ∀ y ∈ i :: is, minI is i ≤ y
  | [], i => by simp [minI]
  | b :: bs, i => by
    unfold minI
    obtain ⟨h1, h2⟩ := minI_mem bs (if b < i then b else i)
    refine ⟨?_, fun y hy => ?_⟩
    · rcases List.mem_cons.mp h1 with h | h
      · rw [h]; split <;> simp
      · exact List.mem_cons_of_mem _ (List.mem_cons_of_mem _ h)
    · have h3 := h2 _ List.mem_cons_self
      generalize minI bs (if b < i then b else i) = mm at h3 h2 ⊢
      rcases List.mem_cons.mp hy with rfl | hy
      · split at h3 <;> omega
      · rcases List.mem_cons.mp hy with rfl | hy
        · split at h3 <;> omega
        · exact h2 y (List.mem_cons_of_mem _ hy)
theorem minI_eq {is : List Int} {i mx : Int} (h1 : mx ∈ i :: is) (h2 : ∀ y ∈ i :: is, mx ≤ y) : mx = minI is i := by
  obtain ⟨a, b⟩ := minI_mem is i
  have := b mx h1
  have := h2 _ a
  omega
theorem max_ok (hc : X.calm = true) : CallR X (.builtin "max") (rB C bMax) := by
  intro pins s σ H xs us Q I r h
  obtain ⟨ρ, ws, m, E, hr, h1, q⟩ := h
  unfold bMax at q
  split at q
  · rename_i i j
    obtain ⟨v, u, rfl, h2, h3⟩ := h1.two
    have h2 : DR C ρ H v (.int i) := h2
    have h3 : DR C ρ H u (.int j) := h3
    cases h2; cases h3
    exact call_max2 hc pins s σ H _ us Q I r ⟨i, j, rfl, q.dat hr (.int _)⟩
  · rename_i ds
    obtain ⟨v, rfl, h2⟩ := h1.one
    split at q
    · rename_i i is ei
      obtain ⟨a, xs, rfl, ha, z, qa⟩ := (RD.dr (show DR C ρ H v (.list ds) from h2)).list
      have ex := intsOf_ok ei qa
      subst ex
      refine cr_max hc pins s σ H _ us Q I r ⟨a, i :: is, rfl, .inl (.inl ha), by simp, fun mx h3 h4 => ?_⟩
      rw [maxI_eq h3 h4]
      exact q.dat hr (.int _)
    · exact q.off
  · exact q.off
theorem min_ok (hc : X.calm = true) : CallR X (.builtin "min") (rB C bMin) := by
  intro pins s σ H xs us Q I r h
  obtain ⟨ρ, ws, m, E, hr, h1, q⟩ := h
  unfold bMin at q
  split at q
  · rename_i i j
    obtain ⟨v, u, rfl, h2, h3⟩ := h1.two
    have h2 : DR C ρ H v (.int i) := h2
    have h3 : DR C ρ H u (.int j) := h3
    cases h2; cases h3
    exact call_min2 hc pins s σ H _ us Q I r ⟨i, j, rfl, q.dat hr (.int _)⟩
  · rename_i ds
    obtain ⟨v, rfl, h2⟩ := h1.one
    split at q
    · rename_i i is ei
      obtain ⟨a, xs, rfl, ha, z, qa⟩ := (RD.dr (show DR C ρ H v (.list ds) from h2)).list
      have ex := intsOf_ok ei qa
      subst ex
      refine cr_min hc pins s σ H _ us Q I r ⟨a, i :: is, rfl, .inl (.inl ha), by simp, fun mx h3 h4 => ?_⟩
      rw [minI_eq h3 h4]
      exact q.dat hr (.int _)
    · exact q.off
  · exact q.off

/-! ### isinstance -/
theorem TyV_of {T : String} {d : D} {x : V} (k : RD C ρ H x d) (n : ∀ kvs, d ≠ .dict kvs) (h : (match d with | .none => "NoneType" | .bool _ => "bool" | .int _ => "int" | .str _ => "str" | .list _ => "list" | .tuple _ => "tuple" | .dict _ => "dict") = T) : TyX C.K H x (.type T) := by
  subst h
  cases d with
  | none => cases k.none; exact .base .non
  | bool b => cases k.bool; exact .base (.bl b)
  | int b => cases k.int; exact .base (.int b)
  | str b => obtain ⟨rfl, _⟩ := k.str; exact .base (.str b)
  | list ds => obtain ⟨a, xs, rfl, ha, z, qa⟩ := k.list; exact .base (.lst ha)
  | tuple ds =>
    obtain ⟨a, xs, rfl, ha, z, qa⟩ := k.tup
    rcases ha with (ha | ⟨o, ha⟩) | ⟨o, its, n, h1, h2, _⟩
    · exact .base (.tup ha)
    · exact .fTuple ha
    · exact .kTuple h1 h2
  | dict kvs => exact absurd rfl (n kvs)
end
end Sim
set_option maxHeartbeats 1000000
namespace Sim
open PySem PySem.Spec PyProof.Rows L2

/-! ### promises and contexts -/
/-- what `run` says of f, as a promise -/
def spOf (C : Cxt) (F : List Fn) (G : Str → Option D) (XX : Str → Str → Bool) (k : Nat) (f : Str) (n : Nat) : Sp := fun vs H Q E =>
  vs.length = n ∧ ∃ ρ ws m, HR C ρ H m ∧ WRs C ρ H vs ws ∧ RG C (relW C) E (run F G XX k f ws m) ρ H Q
structure Gd (C : Cxt) (F : List Fn) (G : Str → Option D) (XX : Str → Str → Bool) (k : Nat) (Γ : Gam) (X : Cx) : Prop where
  eK : X.K = C.K
  ew : X.w = C.w
  eN : X.N = Γ.N
  esc : X.env.scope = Γ.sc
  nd : X.N.Nodup
  calm : X.calm = true
  room : Room k X.A
  fns : ∀ f n, Γ.F.lookup f = some n → ∃ (a : Addr) (fd : FuncData) (ps : List Str), X.mg f = some (.ref a) ∧ PySem.W.keepIn X.K (.ref a) = true ∧ Binds X.K fd ps [] ∧ ∀ h : List Addr, FnOk X.prog X.w X.K X.mg X.base (L2.CX X.prog X.w) k a fd ps (spOf { C with hid := h } F G XX k f n)
  blts : ∀ x, Γ.B.contains x = true → X.mg x = none
  globs : ∀ x, Γ.G.contains x = true → ∃ v u d, G x = some d ∧ X.mg x = some u ∧ RelV v u ∧ ∀ h ρ H, DR { C with hid := h } ρ H v d
  fnA : Γ.fnAll = true → ∀ x, X.fn x = true

theorem okName_ne {x : Str} (h : okName x = true) : (x == ("__debug__" : Str)) = false ∧ (x == ("__classdict__" : Str)) = false ∧ x ≠ "__name__" := by
  unfold okName at h
  simp only [Bool.and_eq_true, Bool.not_eq_true', decide_eq_true_eq] at h
  exact ⟨h.1.1, h.1.2, h.2⟩
theorem isGl_ok {Γ : Gam} {x : Str} (h : isGl Γ x = true) : Γ.sc.names.lookup x = some .globalImplicit ∧ okName x = true := by
  unfold isGl at h
  split at h
  · rename_i e; exact ⟨e, h⟩
  · cases h

section
variable {C : Cxt} {Wx : WX} {α β α' β' : Type} {rel : List Addr → Hp → β → α → Prop} {σ : St} {H : Hp}
theorem tG.mono {f : Env → MH → R α} {Q Q' : β → Hp → Prop} (h : tG C Wx rel f σ H Q) (i : ∀ b H', Q b H' → Q' b H') : tG C Wx rel f σ H Q' := by
  obtain ⟨ρ, e, m, hr, er, q⟩ := h
  exact ⟨ρ, e, m, hr, er, q.mono i⟩
theorem tG.bad {Q : β → Hp → Prop} (h : tG C Wx rel (fun _ _ => (.bad : R α)) σ H Q) {P : Prop} : P := by
  obtain ⟨ρ, e, m, hr, er, q⟩ := h
  exact (show False from q).elim
/-- two things one after the other, then an operation by values -/
theorem two_of {β1 β2 α1 α2 : Type} {rel1 : List Addr → Hp → β1 → α1 → Prop} {rel2 : List Addr → Hp → β2 → α2 → Prop} (ext : ∀ {ρ ρ' H H' b a}, rel1 ρ H b a → Ext ρ H ρ' H' → rel1 ρ' H' b a)
    {f : Env → MH → R α1} {g : Env → MH → R α2} {h : α1 → α2 → MH → R α} {Q : β → Hp → Prop} (q : tG C Wx rel (fun e m => (f e m).bind fun x m => (g e m).bind fun y m => h x y m) σ H Q) :
    tG C Wx rel1 f σ H fun x H1 => tG C Wx rel2 g σ H1 fun y H2 => ∃ ρ w1 w2 m, HR C ρ H2 m ∧ rel1 ρ H2 x w1 ∧ rel2 ρ H2 y w2 ∧ RG C rel (WE Wx σ) (h w1 w2 m) ρ H2 Q := by
  refine (tG.bind (rel := rel1) q).mono fun x H1 => ?_
  rintro ⟨ρ, e, a, m, hr, er, w, q1⟩
  refine ⟨ρ, e, m, hr, er, (RG.bind (rel := rel2) q1).mono fun y H2 => ?_⟩
  rintro ⟨ρ1, b, m1, _, x1, z1, w1, q2⟩
  exact ⟨ρ1, a, b, m1, z1, ext w x1, w1, q2⟩
theorem tOp_of {f g : Env → MH → R W} {h : W → W → MH → R W} {Q : VK} (q : tE C Wx (fun e m => (f e m).bind fun x m => (g e m).bind fun y m => h x y m) σ H Q) : tOp (r2 C h) (tE C Wx f) (tE C Wx g) σ H Q :=
  (two_of (rel1 := relW C) (rel2 := relW C) (fun r x => WR.ext x r) q).mono fun _ _ z => z.mono fun _ _ ⟨ρ, w1, w2, m, a, b, c, d⟩ => ⟨ρ, w1, w2, m, _, a, b, c, d⟩
theorem RG.wrap {f : R Bool} {E : XK} {ρ : List Addr} {Q : VK} (q : RG C (relW C) E (f.bind fun c m => .ok (.d (.bool c)) m) ρ H Q) : RG C relB E f ρ H fun c H' => Q (.bl c) H' :=
  (RG.bind (rel := relB) q).mono fun b H1 ⟨ρ1, a, m1, _, x, z, w, q1⟩ => by cases w; exact q1.dat z (.bl _)
end

section
variable {C : Cxt} {F : List Fn} {G : Str → Option D} {XX : Str → Str → Bool} {k : Nat} {Γ : Gam} {X : Cx} {Wx : WX}
theorem Gd.units (g : Gd C F G XX k Γ X) : X.A.units + 65 < cLine := by have := g.room.un; omega
theorem Gd.glo (g : Gd C F G XX k Γ X) {x : Str} (h : isGl Γ x = true) : Gl X x := by
  show X.env.kindOf x = _
  unfold Env.kindOf
  rw [g.esc]
  exact (isGl_ok h).1
theorem Gd.blt (g : Gd C F G XX k Γ X) {x : Str} (h : isBlt Γ x = true) : Gl X x ∧ X.mg x = none ∧ x ≠ "__name__" ∧ (x == ("__debug__" : Str)) = false := by
  unfold isBlt at h
  rw [Bool.and_eq_true] at h
  have o := okName_ne (isGl_ok h.1).2
  exact ⟨g.glo h.1, g.blts x h.2, o.2.2, o.1⟩
/-- a name of the def -/
theorem var_pe (g : Gd C F G XX k Γ X) {C' : CallS} {x : Str} {i : Nat} {pos : Pos} (hv : Vis X.env.scope x) (ho : okName x = true) (hi : ixOf x Γ.N = some i) : PE X (.Name x pos) (tE C Wx (evE C' G (.var i))) := by
  refine (pe_var (i := i) (by rw [g.eN]; exact ixOf_get hi) hv (okName_ne ho).1 (okName_ne ho).2.1).imp fun σ H Q h => ?_
  obtain ⟨ρ, e, m, hr, er, q⟩ := h
  simp only [evE] at q
  split at q
  · rename_i w he
    obtain ⟨v, h1, h2⟩ := er.get he
    exact ⟨v, h1, q ρ v H Ext.refl hr h2⟩
  · exact q.off
theorem dat_pe {e : Expr} {v : V} {d : D} {C' : CallS} (h : PE X e (tC v)) (r : ∀ ρ H, DR C ρ H v d) : PE X e (tE C Wx (evE C' G (.dat d))) := by
  refine h.imp fun σ H Q q => ?_
  obtain ⟨ρ, e, m, hr, er, q⟩ := q
  exact q.dat hr (r _ _)
theorem glob_pe (g : Gd C F G XX k Γ X) {C' : CallS} {x : Str} {pos : Pos} (hx : isGl Γ x = true) (hg : Γ.G.contains x = true) : PE X (.Name x pos) (tE C Wx (evE C' G (.glob x))) := by
  obtain ⟨v, u, d, h1, h2, h3, h4⟩ := g.globs x hg
  refine (pe_glob (g.glo hx) h2 h3 (okName_ne (isGl_ok hx).2).1).imp fun σ H Q q => ?_
  obtain ⟨ρ, e, m, hr, er, q⟩ := q
  simp only [evE, h1] at q
  exact q.dat hr (h4 C.hid _ _)
theorem bin_pe (g : Gd C F G XX k Γ X) {C' : CallS} {a b : Expr} {sa sb : SE} {o : Operator} {op : BOp} {mu : Bool} {pos : Pos} (ho : cOp o = some op) (ha : PE X a (tE C Wx (evE C' G sa))) (hb : PE X b (tE C Wx (evE C' G sb))) :
    PE X (.BinOp a o b pos) (tE C Wx (evE C' G (.bin mu op sa sb))) := (pe_op (bin_ok g.eK mu ho) ha hb).imp fun _ _ _ q => tOp_of q
theorem neg_pe {C' : CallS} {a : Expr} {sa : SE} {pos : Pos} (ha : PE X a (tE C Wx (evE C' G sa))) : PE X (.UnaryOp .USub a pos) (tE C Wx (evE C' G (.neg sa))) := by
  refine (pe_un (neg_ok (C := C)) ha).imp fun σ H Q q => ?_
  exact (tG.bind (rel := relW C) q).mono fun x H1 ⟨ρ, e, a, m, hr, er, w, q1⟩ => ⟨ρ, a, m, _, hr, w, q1⟩
theorem tru_of (g : Gd C F G XX k Γ X) {E : XK} {ρ : List Addr} {H : Hp} {m : MH} {x : V} {w : W} {Q : Bool → Hp → Prop} (hr : HR C ρ H m) (r : WR C ρ H x w) (q : RG C relB E (truW w m) ρ H Q) : ∃ c, TruV X.K x H c ∧ truW w m = .ok c m ∧ Q c H := by
  unfold truW at q ⊢
  cases e1 : rd m w with
  | none => simp only [e1] at q; exact q.off
  | some d =>
    simp only [e1] at q ⊢
    cases e2 : truD d with
    | none => simp only [e2] at q; exact q.off
    | some c =>
      simp only [e2] at q ⊢
      exact ⟨c, g.eK ▸ truD_ok (rd_ok hr r e1) e2, rfl, q.bl hr⟩
theorem not_pe (g : Gd C F G XX k Γ X) {C' : CallS} {a : Expr} {sa : SE} {pos : Pos} (ha : PE X a (tE C Wx (evE C' G sa))) : PE X (.UnaryOp .Not a pos) (tE C Wx (evE C' G (.not sa))) := by
  refine (pe_notT ha).imp fun σ H Q q => ?_
  refine (tG.bind (rel := relW C) q).mono fun x H1 => ?_
  rintro ⟨ρ, e, w, m, hr, er, r, q1⟩
  obtain ⟨c, h1, h2, h3⟩ := tru_of g hr r (RG.bind (rel := relB) q1)
  refine ⟨c, h1, ?_⟩
  rw [h2] at q1
  exact q1.dat hr (.bl _)
theorem and_pe (g : Gd C F G XX k Γ X) {C' : CallS} {a b : Expr} {rest : List Expr} {sa sb : SE} {pos : Pos} (ha : PE X a (tE C Wx (evE C' G sa))) (hb : PE X (.BoolOp .And (b :: rest) pos) (tE C Wx (evE C' G sb))) :
    PE X (.BoolOp .And (a :: b :: rest) pos) (tE C Wx (evE C' G (.and sa sb))) := by
  refine (pe_andT ha hb).imp fun σ H Q q => ?_
  refine (tG.bind (rel := relW C) q).mono fun x H1 => ?_
  rintro ⟨ρ, e, w, m, hr, er, r, q1⟩
  obtain ⟨c, h1, h2, h3⟩ := tru_of g hr r (RG.bind (rel := relB) q1)
  refine ⟨c, h1, ?_⟩
  rw [h2, R.bind_ok] at q1
  cases c with
  | true => rw [if_pos rfl] at q1 ⊢; exact ⟨ρ, e, m, hr, er, q1⟩
  | false => rw [if_neg Bool.false_ne_true] at q1 ⊢; exact q1 ρ x H1 Ext.refl hr r
theorem or_pe (g : Gd C F G XX k Γ X) {C' : CallS} {a b : Expr} {rest : List Expr} {sa sb : SE} {pos : Pos} (ha : PE X a (tE C Wx (evE C' G sa))) (hb : PE X (.BoolOp .Or (b :: rest) pos) (tE C Wx (evE C' G sb))) :
    PE X (.BoolOp .Or (a :: b :: rest) pos) (tE C Wx (evE C' G (.or sa sb))) := by
  refine (pe_orT ha hb).imp fun σ H Q q => ?_
  refine (tG.bind (rel := relW C) q).mono fun x H1 => ?_
  rintro ⟨ρ, e, w, m, hr, er, r, q1⟩
  obtain ⟨c, h1, h2, h3⟩ := tru_of g hr r (RG.bind (rel := relB) q1)
  refine ⟨c, h1, ?_⟩
  rw [h2, R.bind_ok] at q1
  cases c with
  | true => rw [if_pos rfl] at q1 ⊢; exact q1 ρ x H1 Ext.refl hr r
  | false => rw [if_neg Bool.false_ne_true] at q1 ⊢; exact ⟨ρ, e, m, hr, er, q1⟩
/-! tests -/
theorem not_pt {C' : CallS} {a : Expr} {sa : SE} {pos : Pos} (ha : PT X a (tT C Wx (evT C' G sa))) : PT X (.UnaryOp .Not a pos) (tT C Wx (evT C' G (.not sa))) := by
  refine (pt_not ha).imp fun σ H Q q => ?_
  exact (tG.bind (rel := relB) q).mono fun x H1 ⟨ρ, e, a, m, hr, er, w, q1⟩ => by cases w; exact q1.bl hr
theorem and_pw {C' : CallS} {a b : Expr} {rest : List Expr} {sa sb : SE} {pos : Pos} (ha : PT X a (tT C Wx (evT C' G sa))) (hb : PW X (.BoolOp .And (b :: rest) pos) (tT C Wx (evT C' G sb))) :
    PW X (.BoolOp .And (a :: b :: rest) pos) (tT C Wx (evT C' G (.and sa sb))) := by
  refine (pw_and ha hb).imp fun σ H Q q => ?_
  refine (tG.bind (rel := relB) q).mono fun x H1 => ?_
  rintro ⟨ρ, e, a, m, hr, er, rfl, q1⟩
  cases x with
  | true => rw [if_pos rfl] at q1 ⊢; exact ⟨ρ, e, m, hr, er, q1⟩
  | false => rw [if_neg Bool.false_ne_true] at q1 ⊢; exact q1.bl hr
theorem or_pw {C' : CallS} {a b : Expr} {rest : List Expr} {sa sb : SE} {pos : Pos} (ha : PT X a (tT C Wx (evT C' G sa))) (hb : PW X (.BoolOp .Or (b :: rest) pos) (tT C Wx (evT C' G sb))) :
    PW X (.BoolOp .Or (a :: b :: rest) pos) (tT C Wx (evT C' G (.or sa sb))) := by
  refine (pw_or ha hb).imp fun σ H Q q => ?_
  refine (tG.bind (rel := relB) q).mono fun x H1 => ?_
  rintro ⟨ρ, e, a, m, hr, er, rfl, q1⟩
  cases x with
  | true => rw [if_pos rfl] at q1 ⊢; exact q1.bl hr
  | false => rw [if_neg Bool.false_ne_true] at q1 ⊢; exact ⟨ρ, e, m, hr, er, q1⟩
theorem ite_pe {C' : CallS} {c a b : Expr} {sc sa sb : SE} {pos : Pos} (hc : PT X c (tT C Wx (evT C' G sc))) (ha : PE X a (tE C Wx (evE C' G sa))) (hb : PE X b (tE C Wx (evE C' G sb))) : PE X (.IfExp c a b pos) (tE C Wx (evE C' G (.ite sc sa sb))) := by
  refine (pe_ifExp hc ha hb).imp fun σ H Q q => ?_
  refine (tG.bind (rel := relB) q).mono fun x H1 => ?_
  rintro ⟨ρ, e, a, m, hr, er, rfl, q1⟩
  cases x with
  | true => rw [if_pos rfl] at q1 ⊢; exact ⟨ρ, e, m, hr, er, q1⟩
  | false => rw [if_neg Bool.false_ne_true] at q1 ⊢; exact ⟨ρ, e, m, hr, er, q1⟩
theorem ite_pt {C' : CallS} {c a b : Expr} {sc sa sb : SE} {pos : Pos} (hc : PT X c (tT C Wx (evT C' G sc))) (ha : PT X a (tT C Wx (evT C' G sa))) (hb : PT X b (tT C Wx (evT C' G sb))) : PT X (.IfExp c a b pos) (tT C Wx (evT C' G (.ite sc sa sb))) := by
  refine ⟨fun pins s σ H Q I h => ?_⟩
  have h2 := tG.bind (rel := relB) h
  show wpAny (model X.prog X.w) X.A (do if ← isTrue c X.env (eval c X.env) then isTrue a X.env (eval a X.env) else isTrue b X.env (eval b X.env)) _ _ _
  refine wpAny_bind (thn (hc.run pins s σ H _ I h2) fun d s1 ⟨H1, I1, ρ, e, a', m, hr, er, w, q1⟩ => ?_)
  cases w
  cases d with
  | true => rw [if_pos rfl] at q1; exact ha.run pins s1 σ H1 Q I1 ⟨ρ, e, m, hr, er, q1⟩
  | false => rw [if_neg Bool.false_ne_true] at q1; exact hb.run pins s1 σ H1 Q I1 ⟨ρ, e, m, hr, er, q1⟩
/-- a value as a test -/
theorem val_pt (g : Gd C F G XX k Γ X) {e : Expr} {f : Env → MH → R W} (h : PE X e (tE C Wx f)) (he : ∀ whole, isTrue e X.env whole = (do let v ← whole; standAt e.pos; holding [v] (truthy v))) : PT X e (tT C Wx fun e m => (f e m).bind truW) := by
  refine ⟨fun pins s σ H Q I q => ?_⟩
  refine isTrue_plain (thn (h.run pins s σ H _ I (tG.bind (rel := relW C) q)) fun v s1 ⟨x, H1, I1, r1, ρ, e, a, m, hr, er, w, q1⟩ => truW_ok g.eK I1 r1 hr w q1) (he _)
theorem bad_pt {e : Expr} {f : Env → MH → R Bool} (h : f = fun _ _ => .bad) : PT X e (tT C Wx f) := ⟨fun pins s σ H Q I q => by subst h; exact q.bad⟩
theorem cmp_pe (g : Gd C F G XX k Γ X) {C' : CallS} {a b : Expr} {sa sb : SE} {o : CmpOp} {op : COp} {pos : Pos} (ho : cCmp o = some op) (hm : behindInMarks o b = false) (ha : PE X a (tE C Wx (evE C' G sa))) (hb : PE X b (tE C Wx (evE C' G sb))) :
    PE X (.Compare a [o] [b] pos) (tE C Wx (evE C' G (.cmp op sa sb))) ∧ PT X (.Compare a [o] [b] pos) (tT C Wx (evT C' G (.cmp op sa sb))) := by
  have hO := cmp_ok (X := X) (C := C) g.eK g.ew g.units ho
  refine ⟨(pe_cmpR hO ha hb hm).imp fun σ H Q q => ?_, (pt_cmpR hO ha hb hm).imp fun σ H Q q => ?_⟩
  · refine (two_of (rel := relW C) (rel1 := relW C) (rel2 := relW C) (h := fun x y m => (cmpW op x y m).bind fun c m => R.ok (W.d (PyData.bool c)) m) (fun r x => WR.ext x r) q).mono fun _ _ z => z.mono fun _ _ ⟨ρ, w1, w2, m, a, b, c, d⟩ => ⟨ρ, w1, w2, m, _, a, b, c, d.wrap⟩
  · refine (two_of (rel1 := relW C) (rel2 := relW C) (h := fun x y m => cmpW op x y m) (fun r x => WR.ext x r) q).mono fun _ _ z => z.mono fun _ _ ⟨ρ, w1, w2, m, a, b, c, d⟩ => ⟨ρ, w1, w2, m, _, a, b, c, d.mono fun k H' h => ⟨k, rfl, h⟩⟩
theorem chain_pe (g : Gd C F G XX k Γ X) {C' : CallS} {a b c : Expr} {sa sb sc : SE} {o1 o2 : CmpOp} {p1 p2 : COp} {pos : Pos} (h1 : cCmp o1 = some p1) (h2 : cCmp o2 = some p2) (hm : lastMarks [o1, o2] [b, c] = false) (ha : PE X a (tE C Wx (evE C' G sa))) (hb : PE X b (tE C Wx (evE C' G sb)))
    (hc : PE X c (tE C Wx (evE C' G sc))) : PE X (.Compare a [o1, o2] [b, c] pos) (tE C Wx (evE C' G (.chain p1 p2 sa sb sc))) ∧ PT X (.Compare a [o1, o2] [b, c] pos) (tT C Wx (evT C' G (.chain p1 p2 sa sb sc))) := by
  have hO1 := cmp_ok (X := X) (C := C) g.eK g.ew g.units h1
  have hO2 := cmp_ok (X := X) (C := C) g.eK g.ew g.units h2
  refine ⟨(pe_chain hO1 hO2 ha hb hc hm).imp fun σ H Q q => ?_, (pt_chain hO1 hO2 ha hb hc hm).imp fun σ H Q q => ?_⟩
  · refine (tG.bind (rel := relW C) q).mono fun x H1 => ?_
    rintro ⟨ρ, e, w1, m, hr, er, r1, q1⟩
    refine ⟨ρ, e, m, hr, er, (RG.bind (rel := relW C) q1).mono fun y H2 => ?_⟩
    rintro ⟨ρ2, w2, m2, _, x2, hr2, r2, q2⟩
    refine ⟨ρ2, w1, w2, m2, _, hr2, WR.ext x2 r1, r2, (RG.bind (rel := relB) q2).mono fun k H3 => ?_⟩
    rintro ⟨ρ3, k', m3, _, x3, hr3, rfl, q3⟩
    refine ⟨k, rfl, ?_⟩
    cases k with
    | false => rw [if_neg Bool.false_ne_true]; exact q3.dat hr3 (.bl _)
    | true =>
      rw [if_pos rfl]
      rw [if_pos rfl] at q3
      refine ⟨ρ3, e, m3, hr3, (er.ext x2).ext x3, (RG.bind (rel := relW C) q3).mono fun z H4 => ?_⟩
      rintro ⟨ρ4, w3, m4, _, x4, hr4, r4, q4⟩
      exact ⟨ρ4, w2, w3, m4, _, hr4, WR.ext x4 (WR.ext x3 r2), r4, q4.wrap⟩
  · refine (tG.bind (rel := relW C) q).mono fun x H1 => ?_
    rintro ⟨ρ, e, w1, m, hr, er, r1, q1⟩
    refine ⟨ρ, e, m, hr, er, (RG.bind (rel := relW C) q1).mono fun y H2 => ?_⟩
    rintro ⟨ρ2, w2, m2, _, x2, hr2, r2, q2⟩
    refine ⟨ρ2, w1, w2, m2, _, hr2, WR.ext x2 r1, r2, (RG.bind (rel := relB) q2).mono fun k H3 => ?_⟩
    rintro ⟨ρ3, k', m3, _, x3, hr3, rfl, q3⟩
    refine ⟨k, rfl, ?_⟩
    cases k with
    | false => rw [if_neg Bool.false_ne_true]; exact ⟨false, rfl, q3.bl hr3⟩
    | true =>
      rw [if_pos rfl]
      rw [if_pos rfl] at q3
      refine ⟨ρ3, e, m3, hr3, (er.ext x2).ext x3, (RG.bind (rel := relW C) q3).mono fun z H4 => ?_⟩
      rintro ⟨ρ4, w3, m4, _, x4, hr4, r4, q4⟩
      exact ⟨ρ4, w2, w3, m4, _, hr4, WR.ext x4 (WR.ext x3 r2), r4, q4.mono fun c H5 h => ⟨c, rfl, h⟩⟩
end
end Sim
set_option maxHeartbeats 1000000
namespace Sim
open PySem PySem.Spec PyProof.Rows L2

/-! ### argument lists, displays, calls -/
theorem star_cons {e : Expr} {es : List Expr} {env : PySem.Env} (h : noStar e = true) : starEach (e :: es) env = (false, eval e env) :: starEach es env := by
  cases e <;> first | rfl | cases h
section
variable {C : Cxt} {F : List Fn} {G : Str → Option D} {XX : Str → Str → Bool} {k : Nat} {Γ : Gam} {X : Cx} {Wx : WX} {C' : CallS}
theorem nil_pd : PA X [] (tD C Wx (evA C' G .nil)) := by
  refine pa_nil.imp fun σ H Q q => ?_
  obtain ⟨ρ, e, m, hr, er, q⟩ := q
  exact q ρ [] H Ext.refl hr .nil
theorem nil_pw : PA X [] (tW C Wx (evW C' G .nil)) := by
  refine pa_nil.imp fun σ H Q q => ?_
  obtain ⟨ρ, e, m, hr, er, q⟩ := q
  exact q ρ [] H Ext.refl hr .nil
theorem cons_pd {e : Expr} {es : List Expr} {se : SE} {ses : SEs} (hs : noStar e = true) (ha : PE X e (tE C Wx (evE C' G se))) (hr : PA X es (tD C Wx (evA C' G ses))) : PA X (e :: es) (tD C Wx (evA C' G (.cons se ses))) := by
  refine (pa_cons ha hr (star_cons hs)).imp fun σ H Q q => ?_
  refine (tG.bind (rel := relW C) q).mono fun x H1 => ?_
  rintro ⟨ρ, e, w, m, hr, er, r, q1⟩
  cases w with
  | r i => exact q1.off
  | s i => exact q1.off
  | d d =>
    refine ⟨ρ, e, m, hr, er, (RG.bind (rel := relDs C) q1).mono fun xs H2 => ?_⟩
    rintro ⟨ρ2, ds, m2, _, x2, hr2, r2, q2⟩
    exact q2 ρ2 _ H2 Ext.refl hr2 (.cons (DR.ext x2 d x r) r2)
theorem cons_pw {e : Expr} {es : List Expr} {se : SE} {ses : SEs} (hs : noStar e = true) (ha : PE X e (tE C Wx (evE C' G se))) (hr : PA X es (tW C Wx (evW C' G ses))) : PA X (e :: es) (tW C Wx (evW C' G (.cons se ses))) := by
  refine (pa_cons ha hr (star_cons hs)).imp fun σ H Q q => ?_
  refine (tG.bind (rel := relW C) q).mono fun x H1 => ?_
  rintro ⟨ρ, e, w, m, hr, er, r, q1⟩
  refine ⟨ρ, e, m, hr, er, (RG.bind (rel := relWs C) q1).mono fun xs H2 => ?_⟩
  rintro ⟨ρ2, ds, m2, _, x2, hr2, r2, q2⟩
  exact q2 ρ2 _ H2 Ext.refl hr2 (.cons (WR.ext x2 r) r2)
def SEs.len : SEs → Nat
  | .nil => 0
  | .cons _ es => es.len + 1
theorem evA_len : ∀ {ses : SEs} {e : Env} {m m' : MH} {ds : List D}, evA C' G ses e m = .ok ds m' → ds.length = ses.len
  | .nil, e, m, m', ds, h => by simp only [evA] at h; cases h; rfl
  | .cons a es, e, m, m', ds, h => by
    simp only [evA] at h
    cases h1 : evE C' G a e m with
    | bad => rw [h1] at h; cases h
    | exc c fs m1 => rw [h1] at h; cases h
    | ok w m1 =>
      rw [h1, R.bind_ok] at h
      cases w with
      | r i => cases h
      | s i => cases h
      | d d =>
        cases h2 : evA C' G es e m1 with
        | bad => simp only [h2] at h; cases h
        | exc c fs m1 => simp only [h2] at h; cases h
        | ok w m2 =>
          simp only [h2, R.bind_ok] at h
          cases h
          simp [SEs.len, evA_len h2]
theorem tup_pe {es : List Expr} {ses : SEs} {j : Nat} {pos : Pos} (hl : ses.len ≤ 1000) (h : PA X es (tD C Wx (evA C' G ses))) : PE X (.Tuple es j pos) (tE C Wx (evE C' G (.tup ses))) := by
  refine (pe_tup h).imp fun σ H Q q => ?_
  obtain ⟨ρ, e, m, hr, er, q⟩ := q
  refine ⟨ρ, e, m, hr, er, (RG.bind (rel := relDs C) q).mono fun xs H1 => ?_⟩
  rintro ⟨ρ1, ds, m1, ev, x1, hr1, r1, q1⟩
  have z : xs.length ≤ sizeLine := by
    have a := evA_len ev
    have b := DRs.length (C := C) (ρ := ρ1) (H := H1) r1
    rw [sizeLine_eq]; omega
  exact ⟨z, fun p hp => newT_ok hr1 hp z r1 q1⟩
theorem lst_pe {es : List Expr} {ses : SEs} {mu : Bool} {pos : Pos} (hl : ses.len ≤ 1000) (h : PA X es (tD C Wx (evA C' G ses))) : PE X (.List es pos) (tE C Wx (evE C' G (.lst mu ses))) := by
  refine (pe_lst h).imp fun σ H Q q => ?_
  obtain ⟨ρ, e, m, hr, er, q⟩ := q
  refine ⟨ρ, e, m, hr, er, (RG.bind (rel := relDs C) q).mono fun xs H1 => ?_⟩
  rintro ⟨ρ1, ds, m1, ev, x1, hr1, r1, q1⟩
  have z : xs.length ≤ sizeLine := by
    have a := evA_len ev
    have b := DRs.length (C := C) (ρ := ρ1) (H := H1) r1
    rw [sizeLine_eq]; omega
  exact ⟨z, fun p hp => newL_ok hr1 hp z r1 q1⟩
/-- no star among them -/
def noStars : List Expr → Bool
  | [] => true
  | e :: es => noStar e && noStars es
theorem stars_any {env : PySem.Env} {pos : Pos} : ∀ {es : List Expr}, noStars es = true → (backTo pos (starEach es env)).any (·.1) = false
  | [], _ => rfl
  | e :: es, h => by
    rw [noStars, Bool.and_eq_true] at h
    rw [star_cons h.1]
    show (false || (backTo pos (starEach es env)).any (·.1)) = false
    rw [stars_any h.2]
    rfl
theorem stars_few {env : PySem.Env} {pos : Pos} : ∀ {es : List Expr}, noStars es = true → (backTo pos (starEach es env)).all (fun x => !x.1) = true
  | [], _ => rfl
  | e :: es, h => by
    rw [noStars, Bool.and_eq_true] at h
    rw [star_cons h.1]
    show (!false && (backTo pos (starEach es env)).all (fun x => !x.1)) = true
    rw [stars_few h.2]
    rfl
theorem evW_len : ∀ {ses : SEs} {e : Env} {m m' : MH} {ws : List W}, evW C' G ses e m = .ok ws m' → ws.length = ses.len
  | .nil, e, m, m', ds, h => by simp only [evW] at h; cases h; rfl
  | .cons a es, e, m, m', ds, h => by
    simp only [evW] at h
    cases h1 : evE C' G a e m with
    | bad => rw [h1] at h; cases h
    | exc c fs m1 => rw [h1] at h; cases h
    | ok w m1 =>
      rw [h1, R.bind_ok] at h
      cases h2 : evW C' G es e m1 with
      | bad => simp only [h2] at h; cases h
      | exc c fs m1 => simp only [h2] at h; cases h
      | ok w m2 =>
        simp only [h2, R.bind_ok] at h
        cases h
        simp [SEs.len, evW_len h2]
/-- a call of a def -/
theorem call_pe (g : Gd C F G XX k Γ X) (tk : Takes X Wx) {x : Str} {p pos : Pos} {es : List Expr} {ses : SEs} (hx : isGl Γ x = true) (hf : Γ.F.lookup x = some es.length) (hst : noStars es = true) (hl : ses.len = es.length) (ha : PA X es (tW C Wx (evW (run F G XX k) G ses))) :
    PE X (.Call (.Name x p) es [] pos) (tE C Wx (evE (run F G XX k) G (.call x ses))) := by
  obtain ⟨a, fd, ps, h1, h2, h3, h4'⟩ := g.fns x _ hf
  have h4 := h4' C.hid
  have hdb := (okName_ne (isGl_ok hx).2).1
  cases es with
  | nil =>
    cases ses with
    | cons _ _ => cases hl
    | nil =>
      refine ⟨fun pins s σ H Q I h => ?_⟩
      refine wpAny_Call_Name_kw (ld_glob I (g.glo hx) h1 ?_ hdb)
      obtain ⟨ρ, e, m, hr, er, q⟩ := h
      exact PySem.W.callWith_K0 I.kIn h2 (run_fnS (us := []) (vs := []) (E := WE Wx) h4 g.room h3 (passAt tk σ) I .nil ⟨rfl, ρ, [], m, hr, .nil, q⟩)
  | cons e es =>
    rw [noStars, Bool.and_eq_true] at hst
    refine (pe_callS (E := WE Wx) h4 g.room (g.glo hx) h1 h2 h3 (fun σ => passAt tk σ) ha hdb (star_cons hst.1) (stars_any hst.2)).imp fun σ H Q q => ?_
    obtain ⟨ρ, e, m, hr, er, q⟩ := q
    refine ⟨ρ, e, m, hr, er, (RG.bind (rel := relWs C) q).mono fun vs H1 => ?_⟩
    rintro ⟨ρ1, ws, m1, ev, x1, hr1, r1, q1⟩
    refine ⟨?_, ρ1, ws, m1, hr1, r1, q1⟩
    rw [r1.length, evW_len ev, hl]
/-! a call whose list is new -/
abbrev Cxt.hd (C : Cxt) (h : List Addr) : Cxt := { C with hid := h }
def isTupO : HO → Bool
  | .tup _ => true
  | .frz _ (.tup _) => true
  | _ => false
theorem rd_isTup {H : Hp} {a : Addr} {xs : List V} (r : Rd H a (.tup xs)) : ∃ o, H a = some o ∧ isTupO o = true := by
  rcases r with r | ⟨o, r⟩
  · exact ⟨_, r, rfl⟩
  · exact ⟨_, r, rfl⟩
section
variable {C2 : Cxt} {ρ ρ2 : List Addr} {H : Hp}
mutual
/-- data without lists names tuples alone -/
theorem DR.pure (eK : C2.K = C.K) (k : ∀ a o, H a = some o → isTupO o = true → Fre C ρ a → Fre C2 ρ2 a) : ∀ (d : D) (v : V), noL d = true → DR C ρ H v d → DR C2 ρ2 H v d
  | .none, _, _, h => by cases h; exact .non
  | .bool b, _, _, h => by cases h; exact .bl b
  | .int i, _, _, h => by cases h; exact .int i
  | .str s, _, _, h => by cases h with | str _ z => exact .str s z
  | .list ds, _, n, h => by cases n
  | .dict ds, _, n, h => by cases n
  | .tuple ds, _, n, h => by
    cases h with | tup s z q =>
    refine .tup ?_ z (DRs.pure eK k ds _ n q)
    rcases s with ⟨r, f⟩ | s
    · obtain ⟨o, h1, h2⟩ := rd_isTup r
      exact .inl ⟨r, k _ _ h1 h2 f⟩
    · exact .inr (eK ▸ s)
theorem DRs.pure (eK : C2.K = C.K) (k : ∀ a o, H a = some o → isTupO o = true → Fre C ρ a → Fre C2 ρ2 a) : ∀ (ds : List D) (vs : List V), noLs ds = true → DRs C ρ H vs ds → DRs C2 ρ2 H vs ds
  | [], _, _, h => by cases h; exact .nil
  | d :: ds, _, n, h => by
    rw [noLs, Bool.and_eq_true] at n
    cases h with | cons h1 h2 => exact .cons (DR.pure eK k d _ n.1 h1) (DRs.pure eK k ds _ n.2 h2)
end
theorem WRs.pure (eK : C2.K = C.K) (k : ∀ a o, H a = some o → isTupO o = true → Fre C ρ a → Fre C2 ρ2 a) : ∀ {ws : List W} {vs : List V}, ws.all pureW = true → WRs C ρ H vs ws → WRs C2 ρ2 H vs ws
  | [], _, _, h => by cases h; exact .nil
  | w :: ws, _, n, h => by
    rw [List.all_cons, Bool.and_eq_true] at n
    cases h with | cons h1 h2 =>
    refine .cons ?_ (WRs.pure eK k n.2 h2)
    cases w with
    | d d => exact DR.pure eK k d _ n.1 h1
    | r i => cases n.1
    | s ns => cases n.1
end
theorem or_noTup {ρ : List Addr} {H : Hp} {a : Addr} {o : MO} (h : OR C ρ H a o) : ∃ u, H a = some u ∧ isTupO u = false := by
  cases o with
  | lst ds => obtain ⟨xs, e, _⟩ := h; exact ⟨_, e, rfl⟩
  | dct kvs => obtain ⟨es, ep, e, _⟩ := h; exact ⟨_, e, rfl⟩
theorem callN_pe (g : Gd C F G XX k Γ X) (tk : Takes X Wx) {x : Str} {p pos : Pos} {e : Expr} {es : List Expr} {ses : SEs} (hx : isGl Γ x = true) (hf : Γ.F.lookup x = some (e :: es).length) (hst : noStars (e :: es) = true) (hl : ses.len = (e :: es).length) (ha : PA X (e :: es) (tW C Wx (evW (run F G XX k) G ses))) :
    PE X (.Call (.Name x p) (e :: es) [] pos) (tE C Wx (evE (run F G XX k) G (.callN x ses))) := by
  obtain ⟨f, fd, ps, h1, h2, h3, h4⟩ := g.fns x _ hf
  have hdb := (okName_ne (isGl_ok hx).2).1
  rw [noStars, Bool.and_eq_true] at hst
  refine ⟨fun pins s σ H Q I h => ?_⟩
  obtain ⟨ρ, e0, m, hr, er, q⟩ := h
  have q1 := RG.bind (rel := relWs C) (r := evW (run F G XX k) G ses e0 m) (f := fun ws m => callN (run F G XX k) x ws m) q
  refine wpAny_Call_Name_kw (ld_glob I (g.glo hx) h1 ?_ hdb)
  refine PySem.W.callWith_K (h₀ := X.base) I.ok.mod.kin h2 (thn (ha.run pos pins s σ H _ I ⟨ρ, e0, m, hr, er, q1⟩) fun us s1 ⟨vs, H1, I1, r, q2⟩ => ⟨I1.kIn, ?_⟩) (star_cons hst.1) (stars_any hst.2)
  obtain ⟨ρ1, ws, m1, ev, x1, hr1, r1, q3⟩ := q2
  obtain ⟨L, hL1, hL2, hL3⟩ : ∃ L : List Addr, (∀ a ∈ L, ∃ u, H1 a = some u ∧ (isTupO u = false ∨ a ∈ C.hid)) ∧ (∀ a o, H1 a = some o → isTupO o = false → a ∈ L) ∧ ∀ a ∈ C.hid, a ∈ L := by
    refine ⟨((List.range s1.heap.objs.size).filter fun a => (H1 a).any fun o => !isTupO o) ++ C.hid, fun a ha => ?_, fun a o e n => ?_, fun a ha => List.mem_append_right _ ha⟩
    · rcases List.mem_append.mp ha with ha | ha
      · have := (List.mem_filter.mp ha).2
        cases e : H1 a with
        | none => rw [e] at this; cases this
        | some o => rw [e] at this; exact ⟨o, rfl, .inl (by simpa using this)⟩
      · obtain ⟨u, e⟩ := (hr1.hid a ha).2
        exact ⟨u, e, .inr ha⟩
    · refine List.mem_append_left _ (List.mem_filter.mpr ⟨List.mem_range.mpr (Nat.lt_of_not_le fun z => ?_), by rw [e]; simpa using n⟩)
      rw [I1.hok.fresh z] at e
      cases e
  have hs : HR (C.hd L) [] H1 [] := ⟨rfl, List.nodup_nil, fun a ha => ⟨(fun z => nomatch z), let ⟨u, e, _⟩ := hL1 a ha; ⟨u, e⟩⟩, fun i a o e => by cases i <;> cases e⟩
  unfold callN at q3
  split at q3
  · rename_i hp
    have hw : WRs (C.hd L) [] H1 vs ws := WRs.pure (C := C) (C2 := C.hd L) (ρ := ρ1) (ρ2 := []) rfl (fun a o e n f => ⟨(fun z => nomatch z), fun z => by
      obtain ⟨u, e2, z⟩ := hL1 a z
      rw [e] at e2; cases e2
      rcases z with z | z
      · rw [n] at z; cases z
      · exact f.hi z⟩) hp r1
    refine run_fnS (h4 L) g.room h3 (passAt tk σ) I1 r ⟨by rw [r1.length, evW_len ev, hl], [], ws, [], hs, hw, ?_⟩
    cases hrun : run F G XX k x ws [] with
    | bad => simp only [hrun] at q3; exact q3.off
    | exc c fs m' =>
      cases fs with
      | cons f fs => simp only [hrun] at q3; exact q3.off
      | nil =>
        simp only [hrun] at q3
        intro ρ' H' x' hr'
        have xt : Ext ρ1 H1 ρ1 H' := ⟨⟨[], by simp⟩, fun a h n => absurd h n, fun a o e _ => x'.keep a o e (fun z => nomatch z), x'.there⟩
        have hr2 : HR C ρ1 H' m1 := ⟨hr1.len, hr1.nd, fun a ha => ⟨(hr1.hid a ha).1, let ⟨u, e⟩ := (hr1.hid a ha).2; ⟨u, x'.keep a u e (fun z => nomatch z)⟩⟩, fun i a u e1 e2 => (hr1.obj i a u e1 e2).ext xt fun u e => x'.keep a u e (fun z => nomatch z)⟩
        obtain ⟨a, ea, q4⟩ := q3 ρ1 H' xt hr2
        refine ⟨a, ea, ?_⟩
        rcases q4 with q4 | ⟨z, _⟩
        · exact .inl q4
        · exact absurd rfl z
    | ok w m' =>
      cases w with
      | r i => simp only [hrun] at q3; exact q3.off
      | s i => simp only [hrun] at q3; exact q3.off
      | d d =>
        cases d with
        | list ds =>
          simp only [hrun] at q3
          split at q3
          · rename_i hnl
            intro ρ' v H' x' hr' rv
            have rv : DR (C.hd L) ρ' H' v (.list ds) := rv
            cases rv with
            | @lst a xs _ e f z q =>
              have hnone : H1 a = none := by
                cases e1 : H1 a with
                | none => rfl
                | some o =>
                  exfalso
                  cases ht : isTupO o with
                  | false => exact f.hi (hL2 a o e1 ht)
                  | true =>
                    have := x'.keep a o e1 (fun z => nomatch z)
                    rw [e] at this
                    cases this
                    cases ht
              have nr : a ∉ ρ1 := fun z => by obtain ⟨u, eu⟩ := hr1.tracked z; rw [hnone] at eu; cases eu
              have xt : Ext ρ1 H1 (ρ1 ++ [a]) H' := ⟨⟨[a], rfl⟩, fun b hb n => by
                rcases List.mem_append.mp hb with hb | hb
                · exact absurd hb n
                · rw [show b = a by simpa using hb]; exact hnone, fun a o e _ => x'.keep a o e (fun z => nomatch z), x'.there⟩
              refine q3 (ρ1 ++ [a]) (.ref a) H' xt ⟨by simp [hr1.len], ?_, fun b hb => ⟨fun z => ?_, ?_⟩, fun i b u e1 e2 => ?_⟩ ⟨a, by rw [← hr1.len]; simp, rfl⟩
              · rw [List.nodup_append]
                exact ⟨hr1.nd, by simp, fun b hb c hc => by
                  have : c = a := by simpa using hc
                  rw [this]; exact fun z => nr (z ▸ hb)⟩
              · rcases List.mem_append.mp z with z | z
                · exact (hr1.hid b hb).1 z
                · obtain ⟨u, eu⟩ := (hr1.hid b hb).2
                  rw [show b = a by simpa using z, hnone] at eu
                  cases eu
              · obtain ⟨u, eu⟩ := (hr1.hid b hb).2
                exact ⟨u, x'.keep b u eu (fun z => nomatch z)⟩
              · by_cases hi : i < ρ1.length
                · rw [List.getElem?_append_left hi] at e1
                  rw [List.getElem?_append_left (by rw [← hr1.len]; exact hi)] at e2
                  exact (hr1.obj i b u e1 e2).ext xt fun u e => x'.keep b u e (fun z => nomatch z)
                · have hi2 : i = ρ1.length := by
                    have := (List.getElem?_eq_some_iff.mp e1).1
                    simp at this; omega
                  subst hi2
                  simp at e1
                  rw [hr1.len] at e2
                  simp at e2
                  subst e1; subst e2
                  refine ⟨xs, e, z, DRs.pure (C := C.hd L) (C2 := C) (ρ := ρ') (ρ2 := ρ1 ++ [a]) rfl (fun b o eb nb fb => ⟨fun z => ?_, fun z => fb.hi (hL3 b z)⟩) ds xs hnl q⟩
                  rcases List.mem_append.mp z with z | z
                  · obtain ⟨j, hj, ej⟩ := List.mem_iff_getElem.mp z
                    have hj' : j < m1.length := by rw [← hr1.len]; exact hj
                    obtain ⟨u, eu, nu⟩ := or_noTup (hr1.obj j b m1[j] (by simp [hj, ej]) (by simp [hj']))
                    exact fb.hi (hL2 b u eu nu)
                  · rw [show b = a by simpa using z, e] at eb
                    cases eb
                    cases nb
          · exact q3.off
        | _ => simp only [hrun] at q3; exact q3.off
  · exact q3.off
/-- a call of a built-in function, a built-in class -/
theorem bltF_pe (g : Gd C F G XX k Γ X) {x : Str} {id : String} {p pos : Pos} {e : Expr} {es : List Expr} {ses : SEs} {f : List W → MH → R W} (hx : isBlt Γ x = true) (hb : bootBuiltins x = some (.builtin id)) (hc : CallR X (.builtin id) (rB C f)) (hst : noStars (e :: es) = true) (ha : PA X (e :: es) (tW C Wx (evW C' G ses))) :
    PE X (.Call (.Name x p) (e :: es) [] pos) (tE C Wx fun e m => (evW C' G ses e m).bind fun ws m => f ws m) := by
  obtain ⟨hg, hm, hn, hd⟩ := g.blt hx
  rw [noStars, Bool.and_eq_true] at hst
  refine (pe_callB hc hg hm hb ha hn hd (star_cons hst.1) (stars_any hst.2)).imp fun σ H Q q => ?_
  exact (tG.bind (rel := relWs C) q).mono fun vs H1 ⟨ρ, e, ws, m, hr, er, r, q1⟩ => ⟨ρ, ws, m, _, hr, r, q1⟩
theorem bltT_pe (g : Gd C F G XX k Γ X) {x : Str} {id : String} {p pos : Pos} {e : Expr} {es : List Expr} {ses : SEs} {f : List W → MH → R W} (hx : isBlt Γ x = true) (hb : bootBuiltins x = some (.type id)) (hc : CallR X (.type id) (rB C f)) (hst : noStars (e :: es) = true) (ha : PA X (e :: es) (tW C Wx (evW C' G ses))) :
    PE X (.Call (.Name x p) (e :: es) [] pos) (tE C Wx fun e m => (evW C' G ses e m).bind fun ws m => f ws m) := by
  obtain ⟨hg, hm, hn, hd⟩ := g.blt hx
  rw [noStars, Bool.and_eq_true] at hst
  refine (pe_callTy hc hg hm hb ha hn hd (star_cons hst.1) (stars_any hst.2)).imp fun σ H Q q => ?_
  exact (tG.bind (rel := relWs C) q).mono fun vs H1 ⟨ρ, e, ws, m, hr, er, r, q1⟩ => ⟨ρ, ws, m, _, hr, r, q1⟩
theorem blt_pe (g : Gd C F G XX k Γ X) {mu : Bool} {x : Str} {p pos : Pos} {e : Expr} {es : List Expr} {ses : SEs} (hx : isBlt Γ x = true) (hp : plainBlts.contains x = true) (hst : noStars (e :: es) = true) (ha : PA X (e :: es) (tW C Wx (evW C' G ses))) :
    PE X (.Call (.Name x p) (e :: es) [] pos) (tE C Wx (evE C' G (.blt mu x ses))) := by
  have hcases : x = "len" ∨ x = "all" ∨ x = "any" ∨ x = "list" ∨ x = "tuple" ∨ x = "int" ∨ x = "max" ∨ x = "min" := by
    unfold plainBlts at hp
    simpa using hp
  show PE X _ (tE C Wx fun e m => (evW C' G ses e m).bind fun ws m => bltW mu x ws m)
  rcases hcases with rfl | rfl | rfl | rfl | rfl | rfl | rfl | rfl
  · exact bltF_pe g hx (by decide +kernel) (len_ok g.eK g.ew) hst ha
  · exact bltF_pe g hx (by decide +kernel) (all_ok g.calm) hst ha
  · exact bltF_pe g hx (by decide +kernel) (any_ok g.calm) hst ha
  · exact bltT_pe g hx (by decide +kernel) (list_ok g.eK g.calm mu) hst ha
  · exact bltT_pe g hx (by decide +kernel) (tuple_ok g.eK) hst ha
  · exact bltT_pe g hx (by decide +kernel) int_ok hst ha
  · exact bltF_pe g hx (by decide +kernel) (max_ok g.calm) hst ha
  · exact bltF_pe g hx (by decide +kernel) (min_ok g.calm) hst ha
end
end Sim
set_option maxHeartbeats 1000000
namespace Sim
open PySem PySem.Spec PyProof.Rows L2
def tyS : D → String
  | .none => "NoneType"
  | .bool _ => "bool"
  | .int _ => "int"
  | .str _ => "str"
  | .list _ => "list"
  | .tuple _ => "tuple"
  | .dict _ => "dict"
theorem kit_all : ∀ a ∈ ["NoneType", "bool", "int", "str", "list", "tuple"], ∀ t ∈ ["int", "bool", "str", "tuple", "list"],
    kitB a t = some (decide (a = t) || (decide (t = "int") && decide (a = "bool"))) := by decide +kernel
theorem str_all : ∀ a ∈ ["NoneType", "bool", "int", "str", "list", "tuple"], ∀ t ∈ ["int", "bool", "str", "tuple", "list"],
    (decide (a = t) || (decide (t = "int") && decide (a = "bool"))) = (decide (Str.ofString a = Str.ofString t) || (decide (Str.ofString t = "int") && decide (Str.ofString a = "bool"))) := by decide +kernel
theorem tyS_mem {d : D} (h : ∀ kvs, d ≠ .dict kvs) : tyS d ∈ ["NoneType", "bool", "int", "str", "list", "tuple"] := by
  cases d with
  | dict kvs => exact absurd rfl (h kvs)
  | _ => simp [tyS]
theorem tyS_D (d : D) : Str.ofString (tyS d) = tyD d := by cases d <;> rfl
theorem isinD_kit {d : D} {t : String} {c : Bool} (ht : t ∈ ["int", "bool", "str", "tuple", "list"]) (h : isinD t d = some c) : kitB (tyS d) t = some c ∧ ∀ kvs, d ≠ .dict kvs := by
  have hn : ∀ kvs, d ≠ .dict kvs := fun kvs e => by subst e; cases h
  refine ⟨?_, hn⟩
  rw [kit_all _ (tyS_mem hn) _ ht, str_all _ (tyS_mem hn) _ ht, tyS_D]
  cases d <;> first | exact h | exact absurd rfl (hn _)
section
variable {C : Cxt} {F : List Fn} {G : Str → Option D} {XX : Str → Str → Bool} {k : Nat} {Γ : Gam} {X : Cx} {Wx : WX} {C' : CallS}
theorem isin_rd {ρ : List Addr} {H : Hp} {m : MH} {x : V} {w : W} {t : String} {c : Bool} (ht : t ∈ ["int", "bool", "str", "tuple", "list"]) (hr : HR C ρ H m) (r : WR C ρ H x w) (h : (rd m w).bind (isinD t) = some c) :
    ∃ T, TyX C.K H x (.type T) ∧ PySem.W.kitOne C.K (.type T) (.type t) = some c := by
  cases e : rd m w with
  | none => rw [e] at h; cases h
  | some d =>
    rw [e] at h
    obtain ⟨h1, h2⟩ := isinD_kit ht (show isinD t d = some c from h)
    exact ⟨tyS d, TyV_of (rd_ok hr r e) h2 (by cases d <;> rfl), kit_ty h1⟩
theorem isin_pe (g : Gd C F G XX k Γ X) {t : String} {p p2 pos : Pos} {a : Expr} {sa : SE} (ht : t ∈ ["int", "bool", "str", "tuple", "list"]) (hx : isBlt Γ "isinstance" = true) (hT : isBlt Γ t = true) (hst : noStar a = true) (ha : PE X a (tE C Wx (evE C' G sa))) :
    PE X (.Call (.Name "isinstance" p) [a, .Name t p2] [] pos) (tE C Wx (evE C' G (.isin t sa))) := by
  obtain ⟨hg, hm, hn, hd⟩ := g.blt hx
  obtain ⟨hg2, hm2, hn2, hd2⟩ := g.blt hT
  have hb2 : bootBuiltins (Str.ofString t) = some (.type t) := by
    simp only [List.mem_cons, List.mem_nil_iff, or_false] at ht
    rcases ht with rfl | rfl | rfl | rfl | rfl <;> decide +kernel
  refine (pe_callB call_isi hg hm (by decide +kernel) (pa_cons ha (pa_cons (pe_bltn (v := .ty t) hg2 hm2 hb2 rfl hn2 hd2) pa_nil (star_cons (e := .Name (Str.ofString t) p2) rfl)) (star_cons hst)) hn hd (star_cons hst) (stars_any (es := [.Name (Str.ofString t) p2]) rfl)).imp fun σ H Q q => ?_
  refine (tG.bind (rel := relW C) q).mono fun x H1 => ?_
  rintro ⟨ρ, e, w, m, hr, er, r, q1⟩
  split at q1
  · rename_i c h
    obtain ⟨T, h1, h2⟩ := isin_rd ht hr r h
    exact ⟨x, .ty t, .type T, .type t, c, rfl, .ty t, g.eK ▸ h1, g.eK ▸ h2, q1.dat hr (.bl _)⟩
  · exact q1.off
theorem isin_evT (T : Str) (a : SE) : evT C' G (.isin T a) = fun e m => (evE C' G (.isin T a) e m).bind truW := by
  funext e m
  simp only [evT, evE]
  cases evE C' G a e m with
  | bad => rfl
  | exc c fs m1 => rfl
  | ok w m1 =>
    simp only [R.bind_ok]
    cases (rd m1 w).bind (isinD T) with
    | none => rfl
    | some c => rfl
theorem var_evT (i : Nat) : evT C' G (.var i) = fun e m => (evE C' G (.var i) e m).bind truW := by
  funext e m
  simp only [evT, evE]
  split <;> rfl
/-- x[i] -/
theorem plain_ix {b : Expr} (h : noSlice b = true) : PlainIx b := by
  intro o i
  cases b <;> first | rfl | cases h
theorem idx_pe (g : Gd C F G XX k Γ X) {a b : Expr} {sa sb : SE} {pos : Pos} (hs : noSlice b = true) (ha : PE X a (tE C Wx (evE C' G sa))) (hb : PE X b (tE C Wx (evE C' G sb))) : PE X (.Subscript a b pos) (tE C Wx (evE C' G (.idx sa sb))) :=
  (pe_ix (idx_ok (C := C) g.eK g.ew g.units) ha hb (plain_ix hs)).imp fun _ _ _ q => tOp_of q
/-- a part of a slice -/
theorem none_po : PO X none (tG C Wx relO fun e m => partOf .nop m (evE C' G .nop e m)) := by
  refine po_none.imp fun σ H Q q => ?_
  obtain ⟨ρ, e, m, hr, er, q⟩ := q
  exact q ρ none H Ext.refl hr rfl
theorem some_po {a : Expr} {sa : SE} (ha : PE X a (tE C Wx (evE C' G sa))) (hn : sa ≠ .nop) : PO X (some a) (tG C Wx relO fun e m => partOf sa m (evE C' G sa e m)) := by
  refine (po_some ha).imp fun σ H Q q => ?_
  obtain ⟨ρ, e, m, hr, er, q⟩ := q
  have e1 : partOf sa m (evE C' G sa e m) = (evE C' G sa e m).bind fun x m => match x with
    | .d (.int i) => .ok (some i) m
    | _ => .bad := by cases sa <;> first | rfl | exact absurd rfl hn
  simp only [e1] at q
  refine ⟨ρ, e, m, hr, er, (RG.bind (rel := relW C) q).mono fun x H1 => ?_⟩
  rintro ⟨ρ1, w, m1, _, x1, hr1, r1, q1⟩
  split at q1
  · have r1 : DR C ρ1 H1 x _ := r1
    cases r1
    exact ⟨_, rfl, q1 ρ1 _ H1 Ext.refl hr1 rfl⟩
  · exact q1.off
theorem slc_pe (g : Gd C F G XX k Γ X) {a : Expr} {lo hi : Option Expr} {sa sl sh : SE} {mu : Bool} {pos p2 : Pos} (ha : PE X a (tE C Wx (evE C' G sa))) (hl : PO X lo (tG C Wx relO fun e m => partOf sl m (evE C' G sl e m))) (hh : PO X hi (tG C Wx relO fun e m => partOf sh m (evE C' G sh e m))) :
    PE X (.Subscript a (.Slice lo hi none p2) pos) (tE C Wx (evE C' G (.slc mu sa sl sh))) := by
  refine (pe_slice (slc_ok (C := C) g.eK mu) ha hl hh).imp fun σ H Q q => ?_
  refine (tG.bind (rel := relW C) q).mono fun x H1 => ?_
  rintro ⟨ρ, e, w, m, hr, er, r, q1⟩
  refine ⟨ρ, e, m, hr, er, (RG.bind (rel := relO) q1).mono fun l H2 => ?_⟩
  rintro ⟨ρ2, l', m2, _, x2, hr2, rfl, q2⟩
  refine ⟨ρ2, e, m2, hr2, er.ext x2, (RG.bind (rel := relO) q2).mono fun h H3 => ?_⟩
  rintro ⟨ρ3, h', m3, _, x3, hr3, rfl, q3⟩
  exact ⟨ρ3, w, m3, _, hr3, WR.ext x3 (WR.ext x2 r), q3⟩
/-- xs[::-1] -/
theorem rev_pe (g : Gd C F G XX k Γ X) {a : Expr} {sa : SE} {mu : Bool} {j : Nat} {p1 p2 p3 pos : Pos} (ha : PE X a (tE C Wx (evE C' G sa))) :
    PE X (.Subscript a (.Slice none none (some (.UnaryOp .USub (.Constant (.int 1) j p1) p2)) p3) pos) (tE C Wx (evE C' G (.blt mu "reversed!" (.cons sa .nil)))) := by
  refine (pe_revL ha).imp fun σ H Q q => ?_
  have q : tE C Wx (fun e m => (evE C' G sa e m).bind fun x m => bRev mu [x] m) σ H Q := by
    obtain ⟨ρ, e, m, hr, er, q⟩ := q
    refine ⟨ρ, e, m, hr, er, ?_⟩
    have e1 : evE C' G (.blt mu "reversed!" (.cons sa .nil)) e m = (evE C' G sa e m).bind fun x m => bRev mu [x] m := by
      show ((evE C' G sa e m).bind fun x m => R.ok [x] m).bind (fun ws m => bltW mu "reversed!" ws m) = _
      cases evE C' G sa e m <;> rfl
    rw [e1] at q
    exact q
  refine (tG.bind (rel := relW C) q).mono fun x H1 => ?_
  rintro ⟨ρ, e, w, m, hr, er, r, q1⟩
  unfold bRev at q1
  cases e1 : rdL m w with
  | none => simp only [e1] at q1; exact q1.off
  | some ds =>
    simp only [e1] at q1
    obtain ⟨a, xs, rfl, ha, z, qa⟩ := rdL_ok hr r e1
    exact ⟨a, xs, rfl, .inl (.inl ha), fun p hp => newL_ok hr hp (by rw [List.length_reverse]; exact z) qa.reverse q1⟩
theorem rgV_D (ρ : List Addr) (H : Hp) (a : Int) (n : Nat) : DRs C ρ H ((List.range n).map fun i => V.int (a + (i : Nat))) (rangeD a n) := by
  unfold rangeD
  generalize List.range n = l
  induction l with
  | nil => exact .nil
  | cons x l ih => exact .cons (.int _) ih
/-- list(range(a, b)) -/
theorem lrng_pe (g : Gd C F G XX k Γ X) {a b : Expr} {sa sb : SE} {mu : Bool} {p p2 pos pos2 : Pos} (h1 : isBlt Γ "list" = true) (h2 : isBlt Γ "range" = true) (na : noStar a = true) (nb : noStar b = true) (ha : PE X a (tE C Wx (evE C' G sa))) (hb : PE X b (tE C Wx (evE C' G sb))) :
    PE X (.Call (.Name "list" p) [.Call (.Name "range" p2) [a, b] [] pos2] [] pos) (tE C Wx (evE C' G (.blt mu "list range!" (.cons sa (.cons sb .nil))))) := by
  obtain ⟨hg, hm, _, _⟩ := g.blt h1
  obtain ⟨hg2, hm2, _, _⟩ := g.blt h2
  refine (pe_listRg g.calm hg hm (prg_2 hg2 hm2 ha hb (star_cons na) (star_cons nb) (stars_any (es := [b]) (by simp [noStars, nb]))) rfl).imp fun σ H Q q => ?_
  have q : tE C Wx (fun e m => (evE C' G sa e m).bind fun x m => (evE C' G sb e m).bind fun y m => bListRange mu [x, y] m) σ H Q := by
    obtain ⟨ρ, e, m, hr, er, q⟩ := q
    refine ⟨ρ, e, m, hr, er, ?_⟩
    have e1 : evE C' G (.blt mu "list range!" (.cons sa (.cons sb .nil))) e m = (evE C' G sa e m).bind fun x m => (evE C' G sb e m).bind fun y m => bListRange mu [x, y] m := by
      show ((evE C' G sa e m).bind fun x m => ((evE C' G sb e m).bind fun y m => R.ok [y] m).bind fun ys m => R.ok (x :: ys) m).bind (fun ws m => bltW mu "list range!" ws m) = _
      cases evE C' G sa e m with
      | bad => rfl
      | exc c fs m1 => rfl
      | ok w m1 =>
        simp only [R.bind_ok]
        cases evE C' G sb e m1 <;> rfl
    rw [e1] at q
    exact q
  refine (two_of (rel := relW C) (rel1 := relW C) (rel2 := relW C) (h := fun x y m => bListRange mu [x, y] m) (fun r x => WR.ext x r) q).mono fun x H1 z => z.mono fun y H2 => ?_
  rintro ⟨ρ, w1, w2, m, hr, r1, r2, q1⟩
  unfold bListRange at q1
  split at q1
  · rename_i i j e
    cases e
    have r1 : DR C ρ H2 x (.int i) := r1
    have r2 : DR C ρ H2 y (.int j) := r2
    cases r1; cases r2
    split at q1
    · rename_i z
      simp only [Bool.and_eq_true, decide_eq_true_eq] at z
      obtain ⟨⟨⟨⟨z1, z2⟩, z3⟩, z4⟩, z5⟩ := z
      refine ⟨i, j, rfl, rfl, ⟨by omega, by omega, by omega, by omega, by omega⟩, fun p hp => ?_⟩
      exact newL_ok hr hp (by rw [rgV_length, sizeLine_eq]; omega) (rgV_D _ _ i (j - i).toNat) q1
    · exact q1.off
  · exact q1.off
/-- list(range(b)) -/
theorem lrng1_pe (g : Gd C F G XX k Γ X) {b : Expr} {sb : SE} {mu : Bool} {p p2 pos pos2 : Pos} (h1 : isBlt Γ "list" = true) (h2 : isBlt Γ "range" = true) (nb : noStar b = true) (hb : PE X b (tE C Wx (evE C' G sb))) :
    PE X (.Call (.Name "list" p) [.Call (.Name "range" p2) [b] [] pos2] [] pos) (tE C Wx (evE C' G (.blt mu "list range!" (.cons (.dat (.int 0)) (.cons sb .nil))))) := by
  obtain ⟨hg, hm, _, _⟩ := g.blt h1
  obtain ⟨hg2, hm2, _, _⟩ := g.blt h2
  refine (pe_listRg g.calm hg hm (prg_1 hg2 hm2 hb (star_cons nb)) rfl).imp fun σ H Q q => ?_
  have q : tE C Wx (fun e m => (evE C' G sb e m).bind fun y m => bListRange mu [.d (.int 0), y] m) σ H Q := by
    obtain ⟨ρ, e, m, hr, er, q⟩ := q
    refine ⟨ρ, e, m, hr, er, ?_⟩
    have e1 : evE C' G (.blt mu "list range!" (.cons (.dat (.int 0)) (.cons sb .nil))) e m = (evE C' G sb e m).bind fun y m => bListRange mu [.d (.int 0), y] m := by
      show ((R.ok (W.d (PyData.int 0)) m).bind fun x m => ((evE C' G sb e m).bind fun y m => R.ok [y] m).bind fun ys m => R.ok (x :: ys) m).bind (fun ws m => bltW mu "list range!" ws m) = _
      simp only [R.bind_ok]
      cases evE C' G sb e m <;> rfl
    rw [e1] at q
    exact q
  refine (tG.bind (rel := relW C) q).mono fun y H2 => ?_
  rintro ⟨ρ, e, w2, m, hr, er, r2, q1⟩
  unfold bListRange at q1
  split at q1
  · rename_i i j e
    cases e
    have r2 : DR C ρ H2 y (.int j) := r2
    cases r2
    split at q1
    · rename_i z
      simp only [Bool.and_eq_true, decide_eq_true_eq] at z
      obtain ⟨⟨⟨⟨z1, z2⟩, z3⟩, z4⟩, z5⟩ := z
      exact ⟨j, rfl, ⟨by omega, by omega, by omega, by omega, by omega⟩, fun p hp => newL_ok hr hp (by rw [rgV_length, sizeLine_eq]; omega) (rgV_D _ _ 0 (j - 0).toNat) q1⟩
    · exact q1.off
  · exact q1.off
/-- xs.append(x) -/
theorem append_ok (eK : X.K = C.K) : MtR X "list.append" (fun x xs H Q => ∃ ρ w ws m E, HR C ρ H m ∧ WR C ρ H x w ∧ WRs C ρ H xs ws ∧ RG C (relW C) E (mAppend w ws m) ρ H Q) := by
  intro pins s σ H x xs v us Q I rx rs h
  obtain ⟨ρ, w, ws, m, E, hr, h1, h2, q⟩ := h
  unfold mAppend at q
  split at q
  · rename_i i d
    obtain ⟨y, rfl, h3⟩ := h2.one
    split at q
    · rename_i ds hm
      split at q
      · rename_i z
        obtain ⟨a, ha, rfl⟩ := h1
        obtain ⟨a', ha', xs, hl, zz, qs⟩ := hr.at hm
        rw [ha] at ha'; cases ha'
        refine mt_append pins s σ H _ _ v us Q I rx rs ⟨a, xs, y, rfl, rfl, hl, by rw [qs.length]; exact z, ?_⟩
        have xt := Ext.write (ρ := ρ) (H := H) (o := .lst (xs ++ [y])) (List.mem_of_getElem? ha)
        have hw := hr.write (o := .lst (xs ++ [y])) (mo := .lst (ds ++ [d])) ha ⟨_, upd_same, by rw [List.length_append, List.length_singleton, qs.length]; exact z, (DRs.ext xt _ _ qs).append (.cons (DR.ext xt _ _ h3) .nil)⟩
        exact q ρ .non _ xt hw .non
      · exact q.off
    · exact q.off
  · exact q.off
theorem append_pe (g : Gd C F G XX k Γ X) {o a : Expr} {so : SE} {sa : SEs} {mu : Bool} {apos cpos : Pos} (hb : attributeBase o "append" X.env (eval o X.env) = eval o X.env) (hl : (apos.endLine == cpos.line) = true) (na : noStar a = true)
    (ho : PE X o (tE C Wx (evE C' G so))) (ha : PA X [a] (tW C Wx (evW C' G sa))) : PE X (.Call (.Attribute o "append" apos) [a] [] cpos) (tE C Wx (evE C' G (.meth mu "append" so sa))) := by
  refine (pe_bm PySem.F.plainAttrs_list PySem.F.slot_list_append PySem.F.type_list_append (append_ok (C := C) g.eK) ho ha hb (by rw [star_cons na]; rfl) hl (star_cons na) (stars_any (es := []) rfl)).imp fun σ H Q q => ?_
  refine (tG.bind (rel := relW C) q).mono fun x H1 => ?_
  rintro ⟨ρ, e, w, m, hr, er, r, q1⟩
  split at q1
  · rename_i hp
    refine ⟨?_, ρ, e, m, hr, er, (RG.bind (rel := relWs C) q1).mono fun xs H2 => ?_⟩
    · unfold preMeth at hp
      rw [if_pos rfl] at hp
      split at hp
      · split at hp
        · rename_i hm
          obtain ⟨a, ha, rfl⟩ := r
          obtain ⟨a', ha', xs, hl, zz, qs⟩ := hr.at hm
          rw [ha] at ha'; cases ha'
          exact .inl ⟨rfl, xs, .inl (.inl hl)⟩
        · cases hp
      · cases hp
    · rintro ⟨ρ2, ws, m2, _, x2, hr2, r2, q2⟩
      exact ⟨ρ2, w, ws, m2, _, hr2, WR.ext x2 r, r2, q2⟩
  · exact q1.off
end
end Sim
set_option maxHeartbeats 1000000
namespace Sim
open PySem PySem.Spec PyProof.Rows L2
/-! ### sorted(xs) of data -/
theorem sortOk_spec {ds : List D} (h : sortOk ds = true) : PySem.W.AllAlike ds ∧ PySem.W.Sortable ds ∧ ∀ d ∈ ds, d.depth ≤ 50 ∧ d.canLay0 = true := by
  unfold sortOk at h
  rw [Bool.and_eq_true, Bool.and_eq_true, Bool.or_eq_true] at h
  obtain ⟨⟨h1, h2⟩, h3⟩ := h
  refine ⟨fun d hd d' hd' => List.all_eq_true.mp (List.all_eq_true.mp h1 d hd) d' hd', ?_, fun d hd => by simpa using List.all_eq_true.mp h3 d hd⟩
  rcases h2 with h2 | h2
  · refine .inl fun d hd => ?_
    have := List.all_eq_true.mp h2 d hd
    split at this
    · exact ⟨_, _, rfl⟩
    · cases this
  · refine .inr fun d hd => ?_
    have := List.all_eq_true.mp h2 d hd
    split at this
    · cases this
    · cases this
    · rename_i n1 n2
      exact ⟨fun e => n2 e, fun xs e => n1 xs e⟩
section
variable {C : Cxt} {F : List Fn} {G : Str → Option D} {XX : Str → Str → Bool} {k : Nat} {Γ : Gam} {X : Cx} {Wx : WX} {C' : CallS}
/-- a model value that stands for data -/
def RU (C : Cxt) (ρ : List Addr) (H : Hp) (u : Value) (d : D) : Prop := ∃ v, RelV v u ∧ DR C ρ H v d
theorem RU.each {ρ : List Addr} {H : Hp} : ∀ {xs : List V} {us : List Value} {ds : List D}, Vals xs us → DRs C ρ H xs ds → PySem.W.EachIs (RU C ρ H) us ds
  | _, _, _, .nil, .nil => .nil
  | _, _, _, .cons r t, .cons q s => .cons ⟨_, r, q⟩ (RU.each t s)
theorem RU.back {ρ : List Addr} {H : Hp} : ∀ {us : List Value} {ds : List D}, PySem.W.EachIs (RU C ρ H) us ds → ∃ xs, Vals xs us ∧ DRs C ρ H xs ds
  | _, _, .nil => ⟨[], .nil, .nil⟩
  | _, _, .cons ⟨v, r, q⟩ t => let ⟨xs, a, b⟩ := RU.back t; ⟨v :: xs, .cons r a, .cons q b⟩
theorem EachIs_of_mem {α β : Type} {R R' : α → β → Prop} : ∀ {as : List α} {bs : List β}, PySem.W.EachIs R as bs → (∀ a b, b ∈ bs → R a b → R' a b) → PySem.W.EachIs R' as bs
  | _, _, .nil, _ => .nil
  | _, _, .cons h t, f => .cons (f _ _ List.mem_cons_self h) (EachIs_of_mem t fun a b hb => f a b (List.mem_cons_of_mem _ hb))
theorem each_len {α β : Type} {R : α → β → Prop} : ∀ {as : List α} {bs : List β}, PySem.W.EachIs R as bs → as.length = bs.length
  | _, _, .nil => rfl
  | _, _, .cons _ t => by simp [each_len t]
theorem sorted_ok (eK : X.K = C.K) (hu : X.A.units + 65 < cLine) (mu : Bool) : CallR X (.builtin "sorted") (rB C (bSorted mu)) := by
  intro pins s σ H xs us Q I r h
  obtain ⟨ρ, ws, m, E, hr, h1, q⟩ := h
  unfold bSorted at q
  split at q
  · rename_i ds
    obtain ⟨v, rfl, h2⟩ := h1.one
    split at q
    · rename_i ok
      obtain ⟨al, so, dp⟩ := sortOk_spec ok
      obtain ⟨a, xs, rfl, ha, z, qa⟩ := (RD.dr (show DR C ρ H v (.list ds) from h2)).list
      obtain ⟨u, rfl, ru⟩ := r.one
      cases (show u = _ from ru)
      obtain ⟨its, rv, pl, hz⟩ := I.list (a := a) (xs := xs) (.inl (.inl ha))
      have e := RU.each rv qa
      refine PySem.W.sorted_data (enc := fun d : D => d) pl.isList e (EachIs_of_mem e fun u d hd ⟨v, r1, q1⟩ => Dp.reads I d v u (eK ▸ DR.dp d v q1 (dp d hd).2) r1) (by rw [List.map_id']; exact al) (by rw [List.map_id']; exact so) (by rw [← qa.length]; exact z) (fun d hd => by have := (dp d hd).1; omega) fun out hl hout => ?_
      obtain ⟨ys, rv2, q2⟩ := RU.back hout
      obtain ⟨ep, he'⟩ := PyProof.Rows.sortedAll_at s.heap its out.toArray
      have hyl : ys.length ≤ sizeLine := by rw [rv2.length, hl, ← qa.length]; exact z
      refine ⟨.ref _, upd H (s.heap.objs.size + 1) (.lst ys), I.laid (t' := s.toks) (fun _ _ => PyProof.Rows.sortedAll_old) (Nat.le_succ _) ⟨hyl, out, ep, rv2, he'⟩, rfl, ?_⟩
      exact newL_ok hr (I.hok.fresh (Nat.le_succ _)) hyl q2 q
    · exact q.off
  · exact q.off
/-! ### dict(pairs) -/
theorem newD_ok {ρ : List Addr} {H : Hp} {m : MH} {E : XK} {p : Addr} {es : List DictEntry} {ep : Nat} {kvs : List (D × D)} {mu : Bool} {Q : VK} (h : HR C ρ H m) (n : H p = none) (hs : (p == sysModules) = false) (z : es.length ≤ sizeLine) (nd : (keysN kvs).Nodup) (q : DRe C ρ H es kvs) (hq : RG C (relW C) E (newD mu kvs m) ρ H Q) :
    Q (.ref p) (upd H p (.ext (RawD p es.toArray ep))) := by
  unfold newD at hq
  cases mu with
  | true =>
    rw [if_pos rfl] at hq
    refine hq (ρ ++ [p]) _ _ (Ext.alloc n) (h.alloc n ⟨es, ep, upd_same, hs, z, nd, DRe.ext (Ext.alloc n) _ _ q⟩) ⟨p, ?_, rfl⟩
    rw [← h.len]; simp
  | false =>
    rw [if_neg Bool.false_ne_true] at hq
    exact hq ρ _ _ (Ext.upd n) (h.upd n) (.dct upd_same (h.fresh n) hs z nd (DRe.ext (Ext.upd n) _ _ q))
theorem notSys {pins : List (Addr × Obj)} {σ : St} {H : Hp} {s : Shared} (I : Inv X pins σ H s) : (s.heap.objs.size == sysModules) = false := beq_eq_false_iff_ne.mpr (Ne.symm (Nat.ne_of_lt I.big))
theorem dputs_ok {pins : List (Addr × Obj)} {σ : St} {s : Shared} {ρ : List Addr} {H : Hp} (eK : X.K = C.K) (I : Inv X pins σ H s) : ∀ (ds : List D) (kvs0 kvs : List (D × D)) (xs : List V) (its : List Value), dputs ds kvs0 = some kvs → DRs C ρ H xs ds → Vals xs its →
    ∃ ps : List (NestedKey × Addr × Value), ps.length = ds.length ∧ (∀ (j : Nat) x, ps[j]? = some x → ∃ T, its[j]? = some (.ref T) ∧ IsTup s.heap T #[.ref x.2.1, x.2.2]) ∧ (∀ x ∈ ps, (nestedKind X.prog X.w).is s.heap x.1 x.2.1) ∧ ∀ xs0, KX C ρ H kvs0 xs0 → KX C ρ H kvs (storedAllH xs0 ps)
  | [], kvs0, kvs, xs, its, h, q, r => by
    cases h
    exact ⟨[], rfl, (fun j x e => by simp at e), (fun x hx => nomatch hx), fun xs0 k => k⟩
  | d :: ds, kvs0, kvs, xs, its, h, q, r => by
    unfold dputs at h
    split at h
    · rename_i e1; cases e1
    · rename_i kd vd ds' e1
      cases e1
      split at h
      · rename_i nk hk
        cases q with | @cons v vs _ _ q1 q2 =>
        cases r with | @cons _ u _ us r1 r2 =>
        cases q1 with | @tup a ys _ sq zq qq =>
        cases qq with | @cons y1 ys _ _ y2 qq =>
        cases qq with | @cons z1 zs _ _ z2 qq =>
        cases qq
        cases (show u = _ from r1)
        obtain ⟨its1, rv1, tp, _⟩ := I.tuple (eK ▸ sq.sqT)
        cases rv1 with | @cons _ ku _ _ k1 rv1 =>
        cases rv1 with | @cons _ vu _ _ k2 rv1 =>
        cases rv1
        obtain ⟨n, t, b, rfl, rfl, his⟩ := key_is eK I y2 hk k1
        obtain ⟨ps, p1, p2, p3, p4⟩ := dputs_ok eK I ds _ _ vs us h q2 r2
        refine ⟨(nk, b, vu) :: ps, by simp [p1], fun j x e => ?_, fun x hx => ?_, fun xs0 kx => ?_⟩
        · cases j with
          | zero => simp at e; subst e; exact ⟨a, rfl, tp⟩
          | succ j => simpa using p2 j x (by simpa using e)
        · rcases List.mem_cons.mp hx with rfl | hx
          · exact his
          · exact p3 x hx
        · exact p4 _ (kx.put n t y2 k2 z2)
      · cases h
    · cases h
theorem keys_storedAllH (ps : List (NestedKey × Addr × Value)) : ∀ xs : List (NestedKey × Addr × Value), (storedAllH xs ps).length ≤ xs.length + ps.length := by
  induction ps with
  | nil => intro xs; exact Nat.le_refl _
  | cons p ps ih =>
    intro xs
    have h1 := ih (storedH xs p.1 p.2.1 p.2.2)
    have h2 := storedH_length xs p.1 p.2.1 p.2.2
    show (storedAllH (storedH xs p.1 p.2.1 p.2.2) ps).length ≤ _
    rw [List.length_cons]
    omega
theorem dict_ok (eK : X.K = C.K) (ew : X.w = C.w) (hc : X.calm = true) (hu : X.A.units + 65 < cLine) (mu : Bool) : CallR X (.type "dict") (rB C (bDict mu)) := by
  intro pins s σ H xs us Q I r h
  obtain ⟨ρ, ws, m, E, hr, h1, q⟩ := h
  unfold bDict at q
  split at q
  · rename_i ds
    obtain ⟨v, rfl, h2⟩ := h1.one
    split at q
    · rename_i kvs hk
      obtain ⟨a, xs, rfl, ha, z, qa⟩ := (RD.dr (show DR C ρ H v (.list ds) from h2)).list
      obtain ⟨u, rfl, ru⟩ := r.one
      cases (show u = _ from ru)
      obtain ⟨zz, its, n, rv, ho⟩ := (show ObjOk X.prog X.w H s.heap a (.lst xs) from I.hok a _ ha)
      obtain ⟨ps, p1, p2, p3, p4⟩ := dputs_ok eK I ds [] kvs xs its hk qa rv
      have hil : its.length = ps.length := by rw [p1, ← qa.length, rv.length]
      have P := PairArg.list (prog := X.prog) (w := X.w) a its.toArray (fun j => match its[j]? with | some (.ref T) => T | _ => 0) (ps.map fun x => (Value.ref x.2.1, x.2.2))
      refine call_dict_pairsH (knd := nestedKind X.prog X.w) (ps := ps) P (I.ok.hd hc) (by show X.A.units + 1 + 1 + 8 < cLine; omega) ⟨⟨_, n, ho, rfl, rfl, rfl⟩, by simp [hil], fun j kk vv e => ?_⟩ ⟨by simp, fun i key v e => ?_⟩ ?_ (by rw [List.length_map, ← hil, ← rv.length]; exact z) fun h' tk dd kp => ?_
      · rw [List.getElem?_map] at e
        cases e2 : ps[j]? with
        | none => rw [e2] at e; cases e
        | some x =>
          rw [e2] at e
          cases e
          obtain ⟨T, t1, t2⟩ := p2 j x e2
          simp only [List.getElem?_toArray, t1]
          exact ⟨trivial, .inl t2⟩
      · have e : (ps.map fun x => (Value.ref x.2.1, x.2.2))[i]? = some (key, v) := e
        rw [List.getElem?_map] at e
        cases e2 : ps[i]? with
        | none => rw [e2] at e; cases e
        | some x =>
          rw [e2] at e
          cases e
          exact ⟨x.1, x.2.1, rfl, rfl⟩
      · intro h' hk' x hx
        exact nestedKind_stays.stays (fun b o vs n e _ => hk' b o (Nat.ne_of_lt (Heap.lt_size e)) (fun z => nomatch z) e) (p3 x hx)
      · have kx := p4 [] .nil
        obtain ⟨ep, ok, ex⟩ := dict_raw (H := H) dd
        obtain ⟨_, _, _, _, _, _, _, _, nd⟩ := id dd
        have hl2 := keys_storedAllH ps []
        refine ⟨.ref s.heap.objs.size, _, I.laid (t' := tk) (o := .ext (RawD s.heap.objs.size ((storedAllH [] ps).map (entryOfKey (nestedKind X.prog X.w))).toArray ep)) (fun b u e => kp b u (fun z => nomatch z) e) (Nat.le_refl _) (show ObjOk X.prog X.w H h' s.heap.objs.size _ from ok), rfl, ?_⟩
        exact newD_ok hr (I.hok.fresh (Nat.le_refl _)) (notSys I) (by rw [List.length_map]; rw [List.length_nil] at hl2; rw [← hil, ← rv.length] at hl2; omega) (kx.nodup2 nd) (KX.to ew.symm kx) q
    · exact q.off
  · exact q.off
end
end Sim
set_option maxHeartbeats 1000000
namespace Sim
open PySem PySem.Spec PyProof.Rows L2
section
variable {C : Cxt} {F : List Fn} {G : Str → Option D} {XX : Str → Str → Bool} {k : Nat} {Γ : Gam} {X : Cx} {Wx : WX} {C' : CallS}
theorem raw_at {pins : List (Addr × Obj)} {σ : St} {H : Hp} {s : Shared} (I : Inv X pins σ H s) {a : Addr} {es : Array DictEntry} {ep : Nat} (e : H a = some (.ext (RawD a es ep))) : s.heap.DictRaw a es ep :=
  (show ObjOk X.prog X.w H s.heap a (.ext (RawD a es ep)) from I.hok a _ e).1
theorem raw_plain {pins : List (Addr × Obj)} {σ : St} {H : Hp} {s : Shared} (I : Inv X pins σ H s) {a : Addr} {es : Array DictEntry} {ep : Nat} (e : H a = some (.ext (RawD a es ep))) :
    s.TypeIs (.ref a) "dict" ∧ ∀ b, Value.ref a = .ref b → ∃ ob, s.heap.get? b = some ob ∧ ob.dict = none := by
  have r := raw_at I e
  refine ⟨r.typeIs, fun b q => ?_⟩
  cases q
  obtain ⟨o, ho, hx, _⟩ := r
  exact ⟨o, ho, hx.2.1⟩
/-- d.get(k) -/
theorem get_pe (g : Gd C F G XX k Γ X) {o a : Expr} {so sa : SE} {mu : Bool} {apos cpos : Pos} (hb : attributeBase o "get" X.env (eval o X.env) = eval o X.env) (hl : (apos.endLine == cpos.line) = true) (na : noStar a = true)
    (ho : PE X o (tE C Wx (evE C' G so))) (ha : PE X a (tE C Wx (evE C' G sa))) : PE X (.Call (.Attribute o "get" apos) [a] [] cpos) (tE C Wx (evE C' G (.meth mu "get" so (.cons sa .nil)))) := by
  refine ⟨fun pins s σ H Q I h => ?_⟩
  have h2 := tG.bind (rel := relW C) (f := evE C' G so) (g := fun e x m => if preMeth "get" x m then (evW C' G (.cons sa .nil) e m).bind fun ws m => methW mu "get" x ws m else .bad) h
  refine wpAny_Call_method (T := "dict") (id := "dict.get") hb (by rw [star_cons na]; rfl) hl PySem.F.plainAttrs_dict PySem.F.slot_dict_get PySem.F.type_dict_get (thn (ho.run pins s σ H _ I h2) fun u s1 ⟨x, H1, I1, rx, ρ, e, w, m, hr, er, r, q1⟩ => ?_)
  split at q1
  · rename_i hp
    have hd : ∃ kvs, rd m w = some (.dict kvs) := by
      unfold preMeth at hp
      rw [if_neg (by decide +kernel), if_pos rfl] at hp
      split at hp
      · rename_i kvs e; exact ⟨kvs, e⟩
      · cases hp
    obtain ⟨kvs, hd⟩ := hd
    obtain ⟨b, es, ep, rfl, he, hs, hz, nd, qe⟩ := (rd_ok hr r hd).dict
    cases (show u = _ from rx)
    obtain ⟨t1, t2⟩ := raw_plain I1 he
    refine ⟨t1, t2, ?_⟩
    have es2 : backTo cpos (starEach [a] X.env) = [(false, eval a X.env)] := by rw [star_cons na]; rfl
    rw [es2]
    have q2 : RG C (relW C) (WE Wx σ) ((evE C' G sa e m).bind fun y m => methW mu "get" w [y] m) ρ H1 Q := by
      have e1 : (evW C' G (.cons sa .nil) e m).bind (fun ws m => methW mu "get" w ws m) = (evE C' G sa e m).bind fun y m => methW mu "get" w [y] m := by
        show ((evE C' G sa e m).bind fun x m => R.ok [x] m).bind (fun ws m => methW mu "get" w ws m) = _
        cases evE C' G sa e m <;> rfl
      rw [e1] at q1
      exact q1
    refine Calls.callWith_builtin rfl (Calls.evalArgs_plain (Calls.spliced_cons (thn (ha.run pins s1 σ H1 _ I1 ⟨ρ, e, m, hr, er, RG.bind (rel := relW C) q2⟩) fun iv s2 ⟨y, H2, I2, ry, ρ2, wy, m2, _, x2, hr2, r2, q3⟩ => Calls.spliced_nil ?_)))
    exact dict_get g.eK g.ew g.units pins s2 σ H2 (.ref b) [y] (.ref b) [iv] Q I2 rfl (.cons ry .nil) ⟨ρ2, w, [wy], m2, _, hr2, WR.ext x2 r, .cons r2 .nil, q3⟩
  · exact q1.off
theorem sortedL_pe (g : Gd C F G XX k Γ X) {mu : Bool} {p pos : Pos} {a : Expr} {sa : SE} (hx : isBlt Γ "sorted" = true) (na : noStar a = true) (ha : PA X [a] (tW C Wx (evW C' G (.cons sa .nil)))) : PE X (.Call (.Name "sorted" p) [a] [] pos) (tE C Wx (evE C' G (.blt mu "sorted" (.cons sa .nil)))) := by
  show PE X _ (tE C Wx fun e m => (evW C' G (.cons sa .nil) e m).bind fun ws m => bltW mu "sorted" ws m)
  exact bltF_pe g hx (by decide +kernel) (sorted_ok g.eK g.units mu) (by simp [noStars, na]) ha
theorem dictP_pe (g : Gd C F G XX k Γ X) {mu : Bool} {p pos : Pos} {a : Expr} {sa : SE} (hx : isBlt Γ "dict" = true) (na : noStar a = true) (ha : PA X [a] (tW C Wx (evW C' G (.cons sa .nil)))) : PE X (.Call (.Name "dict" p) [a] [] pos) (tE C Wx (evE C' G (.blt mu "dict" (.cons sa .nil)))) := by
  show PE X _ (tE C Wx fun e m => (evW C' G (.cons sa .nil) e m).bind fun ws m => bltW mu "dict" ws m)
  exact bltT_pe g hx (by decide +kernel) (dict_ok g.eK g.ew g.calm g.units mu) (by simp [noStars, na]) ha
/-! list(d.values()) -/
def viewO (p d : Addr) : HO := .ext fun h => h.IsValuesView p d
theorem list_view (hc : X.calm = true) : CallR X (.type "list") (fun vs H Q => ∃ (p a : Addr) (es : List DictEntry) (ep : Nat) (ys : List V), vs = [.ref p] ∧ H p = some (viewO p a) ∧ H a = some (.ext (RawD a es.toArray ep)) ∧ es.length ≤ sizeLine ∧ Vals ys (es.map (·.val)) ∧ ∀ l, H l = none → Q (.ref l) (upd H l (.lst ys))) := by
  intro pins s σ H xs us Q I r h
  obtain ⟨p, a, es, ep, ys, rfl, hp, ha, hz, hv, q⟩ := h
  obtain ⟨u, rfl, ru⟩ := r.one
  cases (show u = _ from ru)
  have hd := raw_at I ha
  have hw : s.heap.IsValuesView p a := (show ObjOk X.prog X.w H s.heap p (viewO p a) from I.hok p _ hp).1
  have hvl : ys.length = es.length := by rw [hv.length, List.length_map]
  refine PySem.W.kdl_call (KdlSrc.rawValues (r := p) (es := es.toArray) (ep := ep)) (I.ok.hd hc) ⟨hw, hd⟩ (by rw [List.size_toArray]; exact hz) fun h' tk acc' c' kp e3 it => ?_
  have ea : acc'.toList = es.map (·.val) := by simpa using items_eq (n := 0) (f := DictEntry.val) it
  refine ⟨.ref s.heap.objs.size, _, I.laid (t' := tk) (o := .lst ys) kp (Nat.le_refl _) ?_, rfl, q _ (I.hok.fresh (Nat.le_refl _))⟩
  exact ⟨by omega, acc'.toList, c', by rw [ea]; exact hv, by rw [Array.toArray_toList]; exact e3⟩
theorem values_pe {o : Expr} {to : TE} {apos cpos : Pos} (ho : PE X o to) (hb : attributeBase o "values" X.env (eval o X.env) = eval o X.env) (hl : (apos.endLine == cpos.line) = true) :
    PE X (.Call (.Attribute o "values" apos) [] [] cpos) (fun σ H Q => to σ H fun x H1 => ∃ (a : Addr) (es : List DictEntry) (ep : Nat), x = .ref a ∧ H1 a = some (.ext (RawD a es.toArray ep)) ∧ (a == sysModules) = false ∧ ∀ p, H1 p = none → Q (.ref p) (upd H1 p (viewO p a))) := by
  refine ⟨fun pins s σ H Q I h => ?_⟩
  refine wpAny_Call_method (T := "dict") (id := "dict.values") hb rfl hl PySem.F.plainAttrs_dict PySem.F.slot_dict_values PySem.F.type_dict_values (thn (ho.run pins s σ H _ I h) fun u s1 ⟨x, H1, I1, rx, a, es, ep, ex, ha, hs, q⟩ => ?_)
  subst ex
  cases (show u = _ from rx)
  obtain ⟨t1, t2⟩ := raw_plain I1 ha
  refine ⟨t1, t2, ?_⟩
  show wpAny _ _ (callWith cpos (.builtin "dict.values") [.ref a] [] []) _ X.xe s1
  have hget : (s1.heap.push { cls := .type "dict_values", data := .fields #[.ref a] }).get? s1.heap.objs.size = some { cls := .type "dict_values", data := .fields #[.ref a] } := Heap.get?_push_size _ rfl
  refine method_meetsIn PySem.F.slot_dict_values PySem.F.entry_dict_values rfl (PySem.evalArgs_none ⟨rfl, t1, PySem.F.args_dict_values_1 _, _, meets_dict_values_raw a hs, ⟨_, _, raw_at I1 ha⟩, ?_⟩)
  refine ⟨.ref s1.heap.objs.size, _, I1.laid (t' := s1.toks) (o := viewO s1.heap.objs.size a) (fun _ _ e => Heap.get?_push_of_some _ e) (Nat.le_refl _) ?_, rfl, q _ (I1.hok.fresh (Nat.le_refl _))⟩
  exact ⟨⟨_, hget, rfl, rfl⟩, ⟨_, hget⟩, fun h1 h2 ⟨o, e, x⟩ k => ⟨o, k _ e, x⟩⟩
theorem lvalues_pe (g : Gd C F G XX k Γ X) {o : Expr} {so : SE} {mu : Bool} {p apos cpos pos : Pos} (h1 : isBlt Γ "list" = true) (hb : attributeBase o "values" X.env (eval o X.env) = eval o X.env) (hl : (apos.endLine == cpos.line) = true) (ho : PE X o (tE C Wx (evE C' G so))) :
    PE X (.Call (.Name "list" p) [.Call (.Attribute o "values" apos) [] [] cpos] [] pos) (tE C Wx (evE C' G (.blt mu "list values!" (.cons so .nil)))) := by
  obtain ⟨hg, hm, hn, hd⟩ := g.blt h1
  refine (pe_callTy (list_view g.calm) hg hm (by decide +kernel) (pa_cons (values_pe ho hb hl) pa_nil rfl) hn hd rfl (stars_any (es := []) rfl)).imp fun σ H Q q => ?_
  have q : tE C Wx (fun e m => (evE C' G so e m).bind fun x m => bValues mu [x] m) σ H Q := by
    obtain ⟨ρ, e, m, hr, er, q⟩ := q
    refine ⟨ρ, e, m, hr, er, ?_⟩
    have e1 : evE C' G (.blt mu "list values!" (.cons so .nil)) e m = (evE C' G so e m).bind fun x m => bValues mu [x] m := by
      show ((evE C' G so e m).bind fun x m => R.ok [x] m).bind (fun ws m => bltW mu "list values!" ws m) = _
      cases evE C' G so e m <;> rfl
    rw [e1] at q
    exact q
  refine (tG.bind (rel := relW C) q).mono fun x H1 => ?_
  rintro ⟨ρ, e, w, m, hr, er, r, q1⟩
  unfold bValues at q1
  · simp only at q1
    split at q1
    · rename_i kvs e1
      obtain ⟨a, es, ep, rfl, ha, hs, hz, nd, qe⟩ := (rd_ok hr r e1).dict
      obtain ⟨ys, hv, qv⟩ := qe.vals
      refine ⟨a, es, ep, rfl, ha, hs, fun p hp => ?_⟩
      have ne : a ≠ p := ne_of_none ha hp
      refine ⟨p, a, es, ep, ys, rfl, upd_same, by rw [upd_ne ne]; exact ha, hz, hv, fun l hl => ?_⟩
      exact newL_ok (hr.upd hp) hl (by rw [hv.length, List.length_map]; exact hz) (DRs.ext (Ext.upd hp) _ _ qv) (q1.base (Ext.upd hp))
    · exact q1.off
end
end Sim
set_option maxHeartbeats 3200000
namespace Sim
open PySem PySem.Spec PyProof.Rows L2
section
variable {P : Program} {w : World} {A : Around} {E : Value → Shared → Prop} {s : Shared}
/-- an empty set, as set() makes it -/
def noSet0 (w : World) : Obj := { cls := .type "set", dict := none, data := .set #[] 0 (.fresh 0 0 (!w.params.followText "set-order")) }
/-- an iterator over the list l -/
def itOf (l : Addr) : Obj := { cls := .type "list_iterator", data := .fields #[.ref l, .int 0 0] }
/-- set(list), told by its loop -/
theorem set_by_loop {l : Addr} {items : Array Value} {Z : Heap → Prop} {Q : Value → Shared → Prop} (hh : A.handled = none) (hl : s.heap.IsList l items)
    (loop : ∀ (B : Around) (R : Result → Shared → Prop), B.handled = none → B.units ≤ A.units + 16 → (∀ (h' : Heap) (tk : Nat), (∀ b o, s.heap.get? b = some o → h'.get? b = some o) → Z h' → R (.ok (.ret .none)) { s with heap := h', toks := tk }) →
      codeAny (model P w) B (.builtin "set.update.loop" ⟨[.ref s.heap.objs.size, .ref (s.heap.objs.size + 1)], []⟩) R { s with heap := (s.heap.push (noSet0 w)).push (itOf l) })
    (h : ∀ (h' : Heap) (tk : Nat), (∀ b o, s.heap.get? b = some o → h'.get? b = some o) → Z h' → Q (.ref s.heap.objs.size) { s with heap := h', toks := tk }) :
    wpAny (model P w) A (call (.type "set") [.ref l]) Q E s := by
  obtain ⟨c, tl, hmro⟩ := F.called_set.mro
  have hmade := F.called_set.made
  have hsub := F.called_set.sub
  refine wpAny_call (codeAny_of_tree (show wpAny _ _ (callAny (.type "set") _) _ _ _ from wpAny_pure ⟨Code.quiet_builtin _ (by decide +kernel), codeAny_builtin F.entry_type_call ?_⟩))
  rw [Around.under_plain (weight_type_call_type "set" [.ref l] []) rfl]
  have n1 := F.called_set.notType
  have n2 := F.called_set.canCreate
  have n3 := F.typeCall_set_1 (.ref l)
  repeat (any_goals (first | assumption | wp_step))
  refine codeAny_mono (code_set_led1 (.ref l) (E := E) (Q₁ := fun y s1 => y = .ref s.heap.objs.size ∧ s1 = { s with heap := s.heap.push (noSet0 w) }) ⟨rfl, rfl⟩) fun r s1 hr => ?_
  cases r with
  | error e => exact hr
  | ok fl =>
    cases fl with
    | ret obj =>
      obtain ⟨rfl, rfl⟩ := hr
      have hS : (s.heap.push (noSet0 w)).get? s.heap.objs.size = some (noSet0 w) := Heap.get?_push_size _ rfl
      have hT : Shared.TypeIs { s with heap := s.heap.push (noSet0 w) } (.ref s.heap.objs.size) "set" := ⟨_, hS, rfl⟩
      have n4 := F.called_set.init.lookup
      have n5 := F.called_set.init.bind (.ref s.heap.objs.size)
      repeat (any_goals (first | assumption | wp_step))
      refine codeAny_mono (codeAny_call_builtin (R := wants (fun r s2 => r = .none ∧ ∃ h' tk, s2 = { s with heap := h', toks := tk } ∧ (∀ b o, s.heap.get? b = some o → h'.get? b = some o) ∧ Z h') E) F.called_set.init.plain F.entry_set_init (check_set_init_1 hT ?_)) fun r2 s2 hr2 => ?_
      · obtain ⟨ol, hol, hcl, nl, hdl⟩ := hl
        obtain ⟨oc, od, odt, osl⟩ := ol
        simp only at hcl hdl
        subst hcl; subst hdl
        have g1 : (s.heap.push (noSet0 w)).get? l = some { cls := .type "list", dict := od, data := .seq items nl, slots := osl } := Heap.get?_push_of_some _ hol
        have q1 := F.sub_list_set
        have q2 := F.sub_list_frozenset
        have q3 : (Value.type "list" == Value.type "dict") = false := by decide
        have g2 : (s.heap.push (noSet0 w)).IsList l items := ⟨_, g1, rfl, nl, rfl⟩
        unfold Builtin.«set.__init__» noKeywords Builtin.Frozenset.updateFrom
        generalize ePI : pyIter = PI
        wp_walk
        subst ePI
        refine wpAny_pyIter_list g2 ?_
        refine wpAny_bind (wpAny_runValue ?_)
        have z1 : (s.heap.push (noSet0 w)).objs.size = s.heap.objs.size + 1 := Heap.size_push ..
        rw [z1]
        refine codeAny_mono (loop _ (wants (fun r s2 => r = .none ∧ ∃ h' tk, s2 = { s with heap := h', toks := tk } ∧ (∀ b o, s.heap.get? b = some o → h'.get? b = some o) ∧ Z h') E) (by simp [hh]) (by show A.units + 1 + 1 ≤ _; omega) fun h' tk k z => ⟨rfl, h', tk, rfl, k, z⟩) fun r3 s3 hr3 => ?_
        cases r3 with
        | error e => exact hr3
        | ok fl3 =>
          cases fl3 with
          | ret v =>
            obtain ⟨rfl, h', tk, rfl, k, z⟩ := hr3
            refine wpAny_pure (show wpAny _ _ (ret Value.none) _ _ _ from wpAny_pure ⟨rfl, h', tk, rfl, k, z⟩)
          | _ => exact hr3.elim
      · cases r2 with
        | error e => exact hr2
        | ok fl2 =>
          cases fl2 with
          | ret r =>
            obtain ⟨rfl, h', tk, rfl, k, z⟩ := hr2
            repeat (any_goals (first | assumption | wp_step))
            exact h h' tk k z
          | _ => exact hr2.elim
    | _ => exact hr.elim
end
section
variable {X : Cx}
/-- set(xs), xs a list of ints -/
theorem set_list_ok (hc : X.calm = true) : CallR X (.type "set") (fun vs H Q => ∃ (p : Addr) (ns : List Int), vs = [.ref p] ∧ SqL X.K H p (ns.map V.int) ∧ ns.length + 1 < scanBound ∧ ∀ a c, H a = none → c ≤ ns.length → Q (.ref a) (upd H a (SetO X.w a (fun j => decide (j ∈ ns)) c))) := by
  intro pins s σ H vs us Q I r h
  obtain ⟨p, ns, rfl, hT, hb, q⟩ := h
  rw [Vals.ref1 r]
  obtain ⟨its, rv, hl, hz⟩ := I.list hT
  have hl := hl.isList
  have hi : IntsAre its.toArray.toList ns := by simpa using Vals.ints rv
  have hn : its.toArray.size = ns.length := by
    have := IntsAre.length hi
    rwa [Array.length_toList] at this
  have hls : p < s.heap.objs.size := by obtain ⟨o, e, _⟩ := hl; exact Heap.lt_size e
  refine set_by_loop (I.ok.hd hc) hl (Z := fun h' => ∃ c, c ≤ ns.length ∧ SetR X.w h' s.heap.objs.size (fun j => decide (j ∈ ns)) c) (fun B R hB _ fin => ?_) fun h' tk k z => ?_
  · have e0 : (s.heap.push (noSet0 X.w)).objs.size = s.heap.objs.size + 1 := Heap.size_push ..
    have e1 : ((s.heap.push (noSet0 X.w)).push (itOf p)).get? (s.heap.objs.size + 1) = some (itOf p) := by rw [← e0]; exact Heap.get?_push_size _ rfl
    have e2 : ((s.heap.push (noSet0 X.w)).push (itOf p)).get? s.heap.objs.size = some (noSet0 X.w) := Heap.get?_push_of_some _ (Heap.get?_push_size _ rfl)
    refine set_update_ints ((Walks.list (I := s.heap.objs.size + 1) (ax := p) (A := B.in1) hB (Nat.ne_of_lt (Nat.lt_succ_of_lt hls)) its.toArray).toS) s.heap.objs.size (by simp only [List.mem_cons, List.not_mem_nil, or_false, not_or]; exact ⟨Nat.ne_of_lt (Nat.lt_succ_self _), Nat.ne_of_gt hls⟩) ns hn hb (fun i v hv => ?_) (its.toArray.size - 0) 0 _ (by omega) (Nat.zero_le _) ?_ ⟨0, Nat.le_refl _, setR_new_at e2⟩ fun s' c hm hcn hS => ?_
    · have hi' : i < ns.length := by rw [← hn]; exact (Array.getElem?_eq_some_iff.mp hv).1
      obtain ⟨t, e⟩ := IntsAre.int_at hi i v (by rw [Array.getElem?_toList]; exact hv)
      refine ⟨ns[i], t, List.getElem?_eq_getElem hi', ?_⟩
      rw [e, List.getD_eq_getElem?_getD, List.getElem?_eq_getElem hi']; rfl
    · exact ⟨⟨_, e1, rfl, rfl⟩, (hl.push _).push _⟩
    · obtain ⟨h', g2, d', tk', os'⟩ := s'
      have eg : g2 = s.gens := hm.gens
      have ed : d' = s.drawn := hm.drawn
      have eo : os' = s.os := hm.os
      subst eg; subst ed; subst eo
      refine fin h' tk' (fun b o e => hm.heap b o ?_ (Heap.get?_push_of_some _ (Heap.get?_push_of_some _ e))) ⟨c, by rw [← hn]; exact hcn, hS⟩
      have hb0 := Heap.lt_size e
      simp only [List.mem_cons, List.not_mem_nil, or_false, not_or]
      exact ⟨Nat.ne_of_lt hb0, Nat.ne_of_lt (Nat.lt_succ_of_lt hb0)⟩
  · obtain ⟨c, hcn, R⟩ := z
    exact ⟨.ref _, upd H s.heap.objs.size (SetO X.w s.heap.objs.size _ c), I.laid (t' := tk) k (Nat.le_refl _) (setO_new R), rfl, q _ c (I.hok.fresh (Nat.le_refl _)) hcn⟩
end
end Sim
set_option maxHeartbeats 3200000
namespace Sim
open PySem PySem.Spec PyProof.Rows L2
/-! ### keys of all kinds, asked by a set -/
section
variable {P : Program} {w : World}
/-- no class statement made v, n levels down -/
def NoClass (P : Program) (w : World) (n : Nat) (s : Shared) (v : Value) : Prop := ∀ (A : Around) (E : Value → Shared → Prop) (Q : Bool → Shared → Prop), Q false s → wpAny (model P w) A (ofAClassStatement n v) Q E s
theorem noClass_tup {n : Nat} {s : Shared} {a : Addr} {o : Obj} {vs : Array Value} {m : Nat} (ho : s.heap.get? a = some o) (hc : o.cls = .type "tuple") (hd : o.data = .seq vs m) (hv : ∀ v ∈ vs.toList, NoClass P w n s v) : NoClass P w (n + 1) s (.ref a) := fun A E Q q => by
  unfold ofAClassStatement
  have e : (("tuple" : String) == "tuple") = true := by decide
  refine wpAny_bind (wpAny_typeOf ⟨o, ho, hc⟩ ?_)
  simp only [e, if_true, Bool.not_true, Bool.false_eq_true, if_false]
  try refine wpAny_bind (wpAny_pure ?_)
  try simp only [Bool.not_true, Bool.false_eq_true, if_false]
  refine wpAny_bind (m := seqItems? (.ref a)) (wpAny_seqItems ho hd (wpAny_bind ?_))
  show wpAny _ _ (forIn vs _ _) _ _ s
  rw [← Array.forIn_toList]
  refine wpAny_forIn_list _ (fun rest r s' => (r.1 = none ∧ s' = s) ∧ ∀ v ∈ rest, NoClass P w n s v) _ (fun v rest r s' h => ?_) (fun r s' h => ?_) _ _ ⟨⟨rfl, rfl⟩, hv⟩
  · obtain ⟨⟨hr, rfl⟩, h⟩ := h
    refine wpAny_bind (h v List.mem_cons_self _ _ _ ?_)
    simp only [Bool.false_eq_true, if_false]
    exact wpAny_pure ⟨⟨rfl, rfl⟩, fun u hu => h u (List.mem_cons_of_mem _ hu)⟩
  · obtain ⟨r1, r2⟩ := r
    obtain ⟨⟨hr, rfl⟩, _⟩ := h
    cases hr
    exact wpAny_pure q
mutual
theorem nk_class : ∀ (k : NestedKey) (v : Value) (n : Nat) (s : Shared), NestedIs s.heap k v → k.depth ≤ n → NoClass P w n s v
  | .none, _, n, s, x, _ => by cases x; intro A E Q q; cases n <;> exact wpAny_pure q
  | .num i, _, n, s, x, _ => by cases x <;> (intro A E Q q; cases n <;> exact wpAny_pure q)
  | .text y, _, n, s, x, _ => by cases x; intro A E Q q; cases n <;> exact wpAny_pure q
  | .tup ks, _, n, s, x, hn => by
    cases x with
    | tup hg hc hd hk =>
      simp only [NestedKey.depth] at hn
      cases n with
      | zero => omega
      | succ n => exact noClass_tup hg hc hd (nk_classes ks _ n s hk (by omega))
theorem nk_classes : ∀ (ks : List NestedKey) (vs : List Value) (n : Nat) (s : Shared), NestedAll s.heap ks vs → NestedKey.depthAll ks ≤ n → ∀ v ∈ vs, NoClass P w n s v
  | [], _, n, s, x, _, v, hv => by cases x; cases hv
  | k :: ks, _, n, s, x, hn, v, hv => by
    cases x with
    | cons x1 x2 =>
      simp only [NestedKey.depthAll] at hn
      rcases List.mem_cons.mp hv with e | hv
      · rw [e]; exact nk_class k _ n s x1 (by omega)
      · exact nk_classes ks _ n s x2 (by omega) v hv
end
/-- whether v is hashed by value is told -/
def ByVal (P : Program) (w : World) (n : Nat) (s : Shared) (v : Value) : Prop := ∀ (A : Around) (E : Value → Shared → Prop) (Q : Bool → Shared → Prop), (∀ b, Q b s) → wpAny (model P w) A (hashByValue n v) Q E s
theorem byVal_tup {n : Nat} {s : Shared} {a : Addr} {o : Obj} {vs : Array Value} {m : Nat} (ho : s.heap.get? a = some o) (hc : o.cls = .type "tuple") (hd : o.data = .seq vs m) (hv : ∀ v ∈ vs.toList, ByVal P w n s v) : ByVal P w (n + 1) s (.ref a) := fun A E Q q => by
  unfold hashByValue
  refine wpAny_bind (wpAny_specialOf (T := "tuple") ⟨o, ho, hc⟩ F.slot_tuple_hash.lookup ?_)
  refine wpAny_bind (m := seqItems? (.ref a)) (wpAny_seqItems ho hd (wpAny_bind ?_))
  show wpAny _ _ (forIn vs _ _) _ _ s
  rw [← Array.forIn_toList]
  refine wpAny_forIn_list _ (fun rest r s' => (r.1 = none ∧ s' = s) ∧ ∀ v ∈ rest, ByVal P w n s v) _ (fun v rest r s' h => ?_) (fun r s' h => ?_) _ _ ⟨⟨rfl, rfl⟩, hv⟩
  · obtain ⟨⟨hr, rfl⟩, h⟩ := h
    refine wpAny_bind (h v List.mem_cons_self _ _ _ fun b => ?_)
    cases b with
    | true =>
      simp only [Bool.not_true, Bool.false_eq_true, if_false]
      exact wpAny_pure ⟨⟨rfl, rfl⟩, fun u hu => h u (List.mem_cons_of_mem _ hu)⟩
    | false =>
      simp only [Bool.not_false, if_true]
      exact wpAny_pure (wpAny_pure (q _))
  · obtain ⟨r1, r2⟩ := r
    obtain ⟨⟨hr, rfl⟩, _⟩ := h
    cases hr
    exact wpAny_pure (q _)
mutual
theorem nk_byVal : ∀ (k : NestedKey) (v : Value) (n : Nat) (s : Shared), NestedIs s.heap k v → k.depth ≤ n → ByVal P w n s v
  | .none, _, n, s, x, _ => by cases x; intro A E Q q; cases n <;> exact wpAny_pure (q _)
  | .num i, _, n, s, x, _ => by cases x <;> (intro A E Q q; cases n <;> exact wpAny_pure (q _))
  | .text y, _, n, s, x, _ => by cases x; intro A E Q q; cases n <;> exact wpAny_pure (q _)
  | .tup ks, _, n, s, x, hn => by
    cases x with
    | tup hg hc hd hk =>
      simp only [NestedKey.depth] at hn
      cases n with
      | zero => omega
      | succ n => exact byVal_tup hg hc hd (nk_byVals ks _ n s hk (by omega))
theorem nk_byVals : ∀ (ks : List NestedKey) (vs : List Value) (n : Nat) (s : Shared), NestedAll s.heap ks vs → NestedKey.depthAll ks ≤ n → ∀ v ∈ vs, ByVal P w n s v
  | [], _, n, s, x, _, v, hv => by cases x; cases hv
  | k :: ks, _, n, s, x, hn, v, hv => by
    cases x with
    | cons x1 x2 =>
      simp only [NestedKey.depthAll] at hn
      rcases List.mem_cons.mp hv with e | hv
      · rw [e]; exact nk_byVal k _ n s x1 (by omega)
      · exact nk_byVals ks _ n s x2 (by omega) v hv
end
end
/-- a key that a set may bear: a tuple, not too deep, at the address a -/
structure KeyAt (h : Heap) (k : NestedKey) (a : Addr) : Prop where
  is : NestedIs h k (.ref a)
  dep : k.depth ≤ 8
section
variable {P : Program} {w : World} {A : Around} {E : Value → Shared → Prop} {s : Shared}
/-- a search among keys shows nothing -/
theorem nk_unseen {k : NestedKey} {b : Addr} {Q : Bool → Shared → Prop} (hk : KeyAt s.heap k b) {ys : List Value} (hy : ∀ y ∈ ys, ∃ k' c, y = Value.ref c ∧ KeyAt s.heap k' c) (q : Q false s) : wpAny (model P w) A (searchCouldBeSeen (.ref b) ys) Q E s := by
  unfold searchCouldBeSeen
  refine wpAny_bind (wpAny_forIn_list _ (fun rest r s' => (r.1 = none ∧ s' = s) ∧ ∀ y ∈ rest, ∃ k' c, y = Value.ref c ∧ KeyAt s.heap k' c) _ (fun v rest r s' h => ?_) (fun r s' h => ?_) _ _ ⟨⟨rfl, rfl⟩, hy⟩)
  · obtain ⟨⟨hr, rfl⟩, h⟩ := h
    obtain ⟨k', c, rfl, hc⟩ := h v List.mem_cons_self
    have h' := fun u (hu : u ∈ rest) => h u (List.mem_cons_of_mem _ hu)
    dsimp only
    by_cases hv : (b == c || (carriedByValue (.ref b) && carriedByValue (.ref c))) = true
    · exact wp_if_pos hv (wpAny_pure ⟨⟨rfl, rfl⟩, h'⟩)
    · refine wp_if_neg hv (wpAny_bind (quiet_key _ _ 8 _ hk.is hk.dep _ _ _ ?_))
      simp only [Bool.not_true, Bool.false_eq_true, if_false]
      refine wpAny_bind (quiet_key _ _ 8 _ hc.is hc.dep _ _ _ ?_)
      simp only [Bool.not_true, Bool.false_eq_true, if_false]
      refine wpAny_bind (nk_class _ _ 8 _ hk.is hk.dep _ _ _ ?_)
      simp only [Bool.false_eq_true, if_false]
      refine wpAny_bind (nk_class _ _ 8 _ hc.is hc.dep _ _ _ ?_)
      simp only [Bool.false_eq_true, if_false]
      exact wpAny_pure ⟨⟨rfl, rfl⟩, h'⟩
  · obtain ⟨r1, r2⟩ := r
    obtain ⟨⟨hr, rfl⟩, _⟩ := h
    cases hr
    exact wpAny_pure q
end
end Sim
set_option maxHeartbeats 3200000
namespace Sim
open PySem PySem.Spec PyProof.Rows L2
abbrev KRow := Addr × NestedKey
def hsh (w : World) (p : KRow) : Int := p.2.hash w
def rowsN (w : World) (L : List KRow) : List (Int × Value) := L.map fun p => (hsh w p, Value.ref p.1)
/-- the set at a bears the keys of L, in the table's order -/
structure SetN (w : World) (h : Heap) (a : Addr) (L : List KRow) (es : Array (Int × Value)) (ep : Nat) (t : SetTable) : Prop where
  ob : ∃ o, h.get? a = some o ∧ o.ExactSet ∧ o.data = .set es ep t
  rows : es.toList = rowsN w L
  tab : TabOk t (L.map (hsh w))
  nd : (L.map (·.2)).Nodup
  key : ∀ p ∈ L, KeyAt h p.2 p.1
  led : w.params.followText "set-order" = true ∨ t.led = true
  room : L.length * 5 < t.mask * 3
  few : L.length < 64
section
variable {P : Program} {w : World} {A : Around} {E : Value → Shared → Prop} {s : Shared} {a : Addr} {L : List KRow} {es : Array (Int × Value)} {ep : Nat} {t : SetTable}
theorem rowsN_len (h : es.toList = rowsN w L) : es.size = L.length := by
  rw [← Array.length_toList, h, rowsN, List.length_map]
theorem SetN.fits (R : SetN w s.heap a L es ep t) : t.fits es.size = true := by
  have h1 := R.tab.sz
  have h2 := rowsN_len R.rows
  have h3 := R.room
  rw [List.length_map] at h1
  simp only [SetTable.fits, SetTable.fill, R.tab.dm, Bool.and_eq_true, beq_iff_eq, decide_eq_true_eq]
  have : (#[] : Array Nat).size = 0 := rfl
  refine ⟨by omega, ?_⟩
  show t.place.size + 0 ≤ t.mask
  omega
theorem rowsN_at (h : es.toList = rowsN w L) {i : Nat} {p : KRow} (hp : L[i]? = some p) : es[i]? = some (hsh w p, Value.ref p.1) := by
  rw [← Array.getElem?_toList, h, rowsN, List.getElem?_map, hp, Option.map_some]
/-- the c-th place on the way of a hash -/
abbrev prb (t : SetTable) (h : Int) (c : Nat) : SetTable.Probe := nth t.mask (runAt t.mask (SetTable.bits h % (t.mask + 1)) (SetTable.bits h)) c
theorem prb_dummy (t : SetTable) (h : Int) (c : Nat) : (prb t h c).dummy = none := by
  have go : ∀ (n : Nat) (q : SetTable.Probe), q.dummy = none → (nth t.mask q n).dummy = none := by
    intro n
    induction n with
    | zero => exact fun q z => z
    | succ n ih => exact fun q z => ih _ (by unfold adv; split <;> exact z)
  exact go c _ rfl
theorem prb_add (t : SetTable) (h : Int) (c q : Nat) : nth t.mask (prb t h c) q = prb t h (c + q) := (nth_add t.mask c _ q).symm
theorem ns_from (R : SetN w s.heap a L es ep t) {x : Addr} {k : NestedKey} (hx : KeyAt s.heap k x) (hu : A.units + 16 < cLine) {K : Nat} (hKf : K < 10 * SetTable.turns t.mask) (hK : way t.mask (k.hash w) K ∉ t.place.toList)
    (hKb : ∀ c, c < K → way t.mask (k.hash w) c ∈ t.place.toList) {Q : SetFound → Shared → Prop} (yes : k ∈ L.map (·.2) → Q (.there none) s) (no : k ∉ L.map (·.2) → Q (.free (way t.mask (k.hash w) K) false) s) :
    ∀ (f c : Nat) (stand : Option SetTable.Probe), stand.getD (t.probeStart (k.hash w)) = prb t (k.hash w) c → c ≤ K → K - c < f →
      (∀ (i : Nat) p, L[i]? = some p → p.2 = k → ∃ c', c ≤ c' ∧ c' < K ∧ t.place.toList[i]? = some (way t.mask (k.hash w) c')) → wpAny (model P w) A (setSearchFrom a (.ref x) (k.hash w) true f stand) Q E s
  | 0, c, stand, _, _, hf, _ => absurd hf (Nat.not_lt_zero _)
  | f + 1, c, stand, hst, hc, hf, hre => by
    obtain ⟨o, ho, hex, hd⟩ := R.ob
    have gw : ¬ t.gaveWay = true := by unfold SetTable.gaveWay; rw [mask_odd R.tab.mok]; decide
    have hsz := R.tab.sz
    rw [List.length_map] at hsz
    have hA : ∀ (i : Nat) (p : KRow), L[i]? = some p → (es[i]?.map (·.1)).getD 0 = hsh w p := fun i p hp => by rw [rowsN_at R.rows hp]; rfl
    have wy : ∀ q, (nth t.mask (prb t (k.hash w) c) q).j = way t.mask (k.hash w) (c + q) := fun q => by rw [prb_add]
    have sp := go_spec t R.tab.ris R.tab.dm (fun i => (es[i]?.map (·.1)).getD 0) (k.hash w) (10 * SetTable.turns t.mask) (K - c) (prb t (k.hash w) c) (prb_dummy t _ c) (by omega)
      (fun q hq => by rw [wy]; exact hKb _ (by omega)) (by rw [wy, show c + (K - c) = K by omega]; exact hK)
    rw [setSearchFrom_succ]
    refine wpAny_bind (wpAny_setState_of ho hd R.fits ?_)
    dsimp only
    refine wp_if_neg gw ?_
    try refine wpAny_bind (wpAny_pure ?_)
    rcases sp with ⟨q, i, hq, hi, hh, hno, hgo⟩ | ⟨hno, hgo⟩
    · have pb : t.probe (fun i => (es[i]?.map (·.1)).getD 0) (k.hash w) (stand.getD (t.probeStart (k.hash w))) = some (.candidate (way t.mask (k.hash w) (c + q)) i (prb t (k.hash w) (c + (q + 1)))) := by
        rw [hst, ← wy, ← prb_add]; exact hgo
      rw [pb]
      dsimp only
      rw [wy] at hi
      have il : i < L.length := by
        have := (List.getElem?_eq_some_iff.mp hi).1
        rw [Array.length_toList] at this
        omega
      obtain ⟨p, hp⟩ : ∃ p, L[i]? = some p := ⟨_, List.getElem?_eq_getElem il⟩
      have pm : p ∈ L := List.mem_of_getElem? hp
      have pk := R.key p pm
      have live : t.slot (way t.mask (k.hash w) (c + q)) = .live i := slot_live R.tab.ris hi
      have go : wpAny (model P w) A (searchRest a (.ref x) (k.hash w) true f es t (way t.mask (k.hash w) (c + q)) i (prb t (k.hash w) (c + (q + 1)))) Q E s := by
        have eq1 : SeqAt.EqAt A s (.ref p.1) (.ref x) (decide (p.2 = k)) := by
          have := eqAt_key p.2 k A s _ _ pk.is hx.is (by have := pk.dep; omega)
          rwa [← NestedKey.decide_eq] at this
        unfold searchRest
        rw [rowsN_at R.rows hp]
        dsimp only
        refine wpAny_bind (wpAny_holding (eq1 _ _ _ _ (wpAny_bind (wpAny_setState_of ho hd R.fits ?_))))
        dsimp only
        by_cases e : p.2 = k
        · exact wp_if_pos (by simp [e]) (wpAny_pure (yes (List.mem_map.mpr ⟨p, pm, e⟩)))
        · refine wp_if_neg (by simp [e]) ?_
          try refine wpAny_bind (wpAny_pure ?_)
          rw [sameMem]
          dsimp only
          simp only [if_true, live, rowsN_at R.rows hp]
          refine wpAny_bind (wpAny_isSame_ref_self (wpAny_bind (wpAny_pure ?_)))
          simp only [if_true]
          refine wp_if_neg (by simp [e]) (ns_from R hx hu hKf hK hKb yes no f (c + (q + 1)) _ rfl (by omega) (by omega) fun i0 p0 h0 hk0 => ?_)
          obtain ⟨c', b1, b2, b3⟩ := hre i0 p0 h0 hk0
          refine ⟨c', Classical.byContradiction fun lt => ?_, b2, b3⟩
          by_cases z : c' < c + q
          · exact hno (c' - c) i0 (by omega) (by rw [wy, show c + (c' - c) = c' by omega]; exact b3) ((hA i0 p0 h0).trans (by rw [hsh, hk0]))
          · have : c' = c + q := by omega
            subst this
            have live0 := slot_live R.tab.ris b3
            rw [live] at live0
            cases live0
            rw [hp] at h0
            cases h0
            exact e hk0
      by_cases hl : t.led = true
      · refine wp_if_neg (by simp [hl]) ?_
        try refine wpAny_bind (wpAny_pure ?_)
        exact go
      · refine wp_if_pos (by simp [hl]) (wpAny_bind (nk_unseen hx (fun y hy => ?_) (wp_if_neg (by decide) ?_)))
        · obtain ⟨r, hr, rfl⟩ := List.mem_map.mp hy
          have hr1 : r ∈ es ∧ r.1 = k.hash w := by simpa using hr
          have hr2 : r ∈ rowsN w L := by rw [← R.rows]; simpa using hr1.1
          obtain ⟨p2, hp2, rfl⟩ := List.mem_map.mp hr2
          exact ⟨p2.2, p2.1, rfl, R.key p2 hp2⟩
        · try refine wpAny_bind (wpAny_pure ?_)
          exact go
    · have pb : t.probe (fun i => (es[i]?.map (·.1)).getD 0) (k.hash w) (stand.getD (t.probeStart (k.hash w))) = some (.empty (way t.mask (k.hash w) K) none) := by
        have e2 : way t.mask (k.hash w) K = (nth t.mask (prb t (k.hash w) c) (K - c)).j := by rw [wy, show c + (K - c) = K by omega]
        rw [hst, e2]; exact hgo
      rw [pb]
      dsimp only
      refine wpAny_pure (no fun hm => ?_)
      obtain ⟨p0, h0, hk0⟩ := List.mem_map.mp hm
      obtain ⟨i0, hi0, e0⟩ := List.getElem_of_mem h0
      have h00 : L[i0]? = some p0 := by rw [List.getElem?_eq_getElem hi0, e0]
      obtain ⟨c', b1, b2, b3⟩ := hre i0 p0 h00 hk0
      exact hno (c' - c) i0 (by omega) (by rw [wy, show c + (c' - c) = c' by omega]; exact b3) ((hA i0 p0 h00).trans (by rw [hsh, hk0]))
theorem ns_search (R : SetN w s.heap a L es ep t) {x : Addr} {k : NestedKey} (hx : KeyAt s.heap k x) (hu : A.units + 16 < cLine) {Q : SetFound → Shared → Prop} (yes : k ∈ L.map (·.2) → Q (.there none) s)
    (no : ∀ K, k ∉ L.map (·.2) → way t.mask (k.hash w) K ∉ t.place.toList → (∀ c, c < K → way t.mask (k.hash w) c ∈ t.place.toList) → Q (.free (way t.mask (k.hash w) K) false) s) : wpAny (model P w) A (setSearch a (.ref x) (k.hash w) true) Q E s := by
  have room := R.room
  have hsz := R.tab.sz
  rw [List.length_map] at hsz
  obtain ⟨K, hKf, hK, hKb⟩ := R.tab.first (by rw [List.length_map]; omega) (k.hash w)
  have big : K < 100000 := by
    have : 10 * SetTable.turns t.mask ≤ 1420 := by unfold SetTable.turns; rcases R.tab.mok with e | e | e <;> omega
    omega
  unfold setSearch
  refine ns_from R hx hu hKf hK hKb yes (fun n => no K n hK hKb) 100000 0 none rfl (Nat.zero_le _) (by omega) fun i p hp hk => ?_
  have hi : (L.map (hsh w))[i]? = some (k.hash w) := by rw [List.getElem?_map, hp, Option.map_some, hsh, hk]
  have il : i < t.place.toList.length := by
    have := (List.getElem?_eq_some_iff.mp hp).1
    rw [Array.length_toList]
    omega
  obtain ⟨c, hc, e⟩ := R.tab.before hK hi (List.getElem?_eq_getElem il)
  exact ⟨c, Nat.zero_le _, hc, by rw [List.getElem?_eq_getElem il, e]⟩
end
end Sim
set_option maxHeartbeats 3200000
namespace Sim
open PySem PySem.Spec PyProof.Rows L2
section
variable {P : Program} {w : World} {A : Around} {E : Value → Shared → Prop} {s : Shared} {a : Addr} {L : List KRow} {es : Array (Int × Value)} {ep : Nat} {t : SetTable}
theorem KeyAt.same {h h' : Heap} {k : NestedKey} {a b : Addr} {o : Obj} (hb : KeyAt h k b) (ho : h.get? a = some o) (hd : o.data = .set es ep t) (hs : Heap.SameBut a h h') : KeyAt h' k b :=
  ⟨NestedIs.at (fun c u vs n hc hv => by
    refine (hs.2 c fun e => ?_).trans hc
    subst e
    rw [ho] at hc
    cases hc
    rw [hd] at hv
    cases hv) k _ hb.is, hb.dep⟩
theorem KeyAt.keep {h h' : Heap} {k : NestedKey} {b : Addr} (x : KeyAt h k b) (hk : ∀ c o, h.get? c = some o → h'.get? c = some o) : KeyAt h' k b := ⟨NestedIs.at (fun c u _ _ hc _ => hk c u hc) k _ x.is, x.dep⟩
theorem rowsN_get (h : es.toList = rowsN w L) (i : Nat) : es[i]? = (L[i]?).map fun p => (hsh w p, Value.ref p.1) := by
  rw [← Array.getElem?_toList, h, rowsN, List.getElem?_map]
theorem range_take {α : Type} (L : List α) : ∀ n, n ≤ L.length → (List.range n).filterMap (fun i => L[i]?) = L.take n
  | 0, _ => rfl
  | n + 1, h => by
    rw [List.range_succ, List.filterMap_append, range_take L n (by omega), List.take_succ, List.getElem?_eq_getElem (show n < L.length from h)]
    simp [List.getElem?_eq_getElem (show n < L.length from h)]
theorem ord_rows {order : Array Nat} (hr : es.toList = rowsN w L) (hp : order.toList.Perm (List.range L.length)) :
    ∃ L2, (order.filterMap (es[·]?)).toList = rowsN w L2 ∧ L2.Perm L ∧ L2.map (hsh w) = order.toList.map fun i => (es.map (·.1)).getD i 0 := by
  refine ⟨order.toList.filterMap fun i => L[i]?, ?_, ?_, ?_⟩
  · rw [Array.toList_filterMap, rowsN, List.map_filterMap]
    congr 1
    funext i
    exact rowsN_get hr i
  · have := hp.filterMap fun i => L[i]?
    rwa [range_take L _ (Nat.le_refl _), List.take_length] at this
  · have lt : ∀ i ∈ order.toList, i < L.length := fun i hi => List.mem_range.mp (hp.mem_iff.mp hi)
    have go : ∀ l : List Nat, (∀ i ∈ l, i < L.length) → (l.filterMap fun i => L[i]?).map (hsh w) = l.map fun i => (es.map (·.1)).getD i 0 := by
      intro l
      induction l with
      | nil => intro _; rfl
      | cons i l ih =>
        intro hl
        have hi := hl i List.mem_cons_self
        have e1 : (es.map (·.1)).getD i 0 = hsh w L[i] := by
          have : (es.map (·.1))[i]? = some (hsh w L[i]) := by rw [Array.getElem?_map, rowsN_get hr, List.getElem?_eq_getElem hi]; rfl
          simp [Array.getD_eq_getD_getElem?, this]
        rw [List.filterMap_cons_some (List.getElem?_eq_getElem hi), List.map_cons, List.map_cons, ih fun j hj => hl j (List.mem_cons_of_mem _ hj), e1]
    exact go _ lt
theorem TabOk.bare {hs : List Int} (T : TabOk t hs) (b : Bool) : TabOk (if b = true then t else { t with plain := false }) hs := by
  cases b
  · exact ⟨T.ris, T.dm, T.sz, T.mok, T.bd, T.reach⟩
  · exact T
/-- the table laid anew, larger -/
theorem ns_relay {o : Obj} (ho : s.heap.get? a = some o) (hex : o.ExactSet) (hd : o.data = .set es ep t) (hr : es.toList = rowsN w L) (hsz : t.place.size = es.size) (hdm : t.dummies = #[]) (hfl : es.size ≤ t.mask) (nd : (L.map (·.2)).Nodup)
    (key : ∀ p ∈ L, KeyAt s.heap p.2 p.1) (ld : w.params.followText "set-order" = true ∨ t.led = true) (few : L.length < 64) {want M : Nat} (hw : SetTable.sizeAbove want - 1 = M) (hM : MaskOk M) (hw2 : SetTable.sizeAbove want ≤ 128) (hn : L.length * 5 < M * 3) {Q : Unit → Shared → Prop}
    (q : ∀ h' L' es' ep' t', Heap.SameBut a s.heap h' → SetN w h' a L' es' ep' t' → L'.Perm L → Q () { s with heap := h' }) : wpAny (model P w) A (setRelay a want) Q E s := by
  have hl := rowsN_len hr
  have hf : t.fits es.size = true := by
    simp only [SetTable.fits, SetTable.fill, hdm, Bool.and_eq_true, beq_iff_eq, decide_eq_true_eq]
    refine ⟨hsz, ?_⟩
    show t.place.size + 0 ≤ t.mask
    omega
  obtain ⟨t', order, e, hp, T, em, el, _, ed⟩ := relaid_ok t (hs := es.map (·.1)) (wanted := want) hw hM (by rw [Array.size_map, hl]; omega)
  rw [Array.size_map, hl] at hp
  obtain ⟨L2, r1, r2, r3⟩ := ord_rows hr hp
  rw [← r3] at T
  have hs2 : (order.filterMap (es[·]?)).size = es.size := by rw [rowsN_len r1, r2.length_eq, hl]
  rw [setRelay_eq]
  refine wpAny_bind (wpAny_setState_of ho hd hf ?_)
  dsimp only
  refine wp_if_neg (by rw [sizeLine_eq]; omega) ?_
  try refine wpAny_bind (wpAny_pure ?_)
  rw [e]
  dsimp only
  refine wpAny_bind (wp_if_neg (by rw [hs2]; simp) ?_)
  try refine wpAny_bind (wpAny_pure ?_)
  refine wpAny_pure ?_
  dsimp only
  refine wpAny_storeSet_of ho hd ?_ (by rw [hs2, hl, sizeLine_eq]; omega)
  have sb : Heap.SameBut a s.heap (s.heap.update a (Obj.putSet (order.filterMap (es[·]?)) t')) := Heap.SameBut.update ..
  exact q _ L2 _ (ep + 1) t' sb ⟨⟨_, store_at ho hd, ⟨hex.1, hex.2.1, hex.2.2⟩, rfl⟩, r1, T, (r2.map (·.2)).nodup_iff.mpr nd, fun p hpm => (key p (r2.mem_iff.mp hpm)).same ho hd sb, by rw [el]; exact ld, by rw [r2.length_eq, em]; exact hn, by rw [r2.length_eq]; exact few⟩ r2
theorem put_here {α : Type} (L : List α) (p : Nat) (x : α) : (L.take p ++ x :: L.drop p).Perm (x :: L) := by
  have := List.perm_middle (a := x) (l₁ := L.take p) (l₂ := L.drop p)
  rwa [List.take_append_drop] at this
/-- adding a key -/
theorem ns_add (R : SetN w s.heap a L es ep t) {x : Addr} {k : NestedKey} (hx : KeyAt s.heap k x) (hu : A.units + 16 < cLine) (hfew : L.length + 1 < 64) {Q : Bool → Shared → Prop}
    (q : ∀ b h' L' es' ep' t', Heap.SameBut a s.heap h' → SetN w h' a L' es' ep' t' → (k ∈ L.map (·.2) → L' = L) → (k ∉ L.map (·.2) → L'.Perm ((x, k) :: L)) → Q b { s with heap := h' }) :
    wpAny (model P w) A (setAddHashed a (.ref x) (k.hash w)) Q E s := by
  obtain ⟨o, ho, hex, hd⟩ := R.ob
  have hl := rowsN_len R.rows
  have room := R.room
  unfold setAddHashed
  refine wpAny_holding ?_
  rw [show (100000 : Nat) = 99999 + 1 from rfl, setAddHashedIn_succ]
  refine wpAny_bind (wpAny_setState_of ho hd R.fits ?_)
  dsimp only
  refine wp_if_neg (by simp [byScan, Value.scannable]) ?_
  try refine wpAny_bind (wpAny_pure ?_)
  refine wpAny_bind (ns_search R hx hu (fun hm => ?_) fun K hm hK hb => ?_)
  · dsimp only
    exact wpAny_pure (q false s.heap L es ep t (Heap.SameBut.refl a s.heap) R (fun _ => rfl) fun z => absurd hm z)
  · dsimp only
    refine wpAny_bind (wpAny_setState_of ho hd R.fits ?_)
    dsimp only
    obtain ⟨q1, q2, q3, q4, q5, q6, q7, q8, q9⟩ := R.tab.put hK hb
    have hin : (SetTable.insertAt es (SetTable.below t.place (way t.mask (k.hash w) K)) (k.hash w, Value.ref x)).toList = rowsN w (L.take (SetTable.below t.place (way t.mask (k.hash w) K)) ++ (x, k) :: L.drop (SetTable.below t.place (way t.mask (k.hash w) K))) := by
      rw [SetTable.toList_insertAt, R.rows, rowsN, rowsN, List.map_append, List.map_cons, List.map_take, List.map_drop]
      rfl
    have hhs : (L.take (SetTable.below t.place (way t.mask (k.hash w) K)) ++ (x, k) :: L.drop (SetTable.below t.place (way t.mask (k.hash w) K))).map (hsh w) = (L.map (hsh w)).take (SetTable.below t.place (way t.mask (k.hash w) K)) ++ k.hash w :: (L.map (hsh w)).drop (SetTable.below t.place (way t.mask (k.hash w) K)) := by
      rw [List.map_append, List.map_cons, List.map_take, List.map_drop]
      rfl
    rw [← hhs] at q3
    generalize hpt : t.put (way t.mask (k.hash w) K) = pt at q1 q3 q4 q5 q6 q7 q8 q9 ⊢
    obtain ⟨t1, p⟩ := pt
    dsimp only at q1 q3 q4 q5 q6 q7 q8 q9 ⊢
    subst q1
    generalize SetTable.below t.place (way t.mask (k.hash w) K) = p at q2 q3 hin ⊢
    have pm := put_here L p (x, k)
    have hlen : (L.take p ++ (x, k) :: L.drop p).length = L.length + 1 := pm.length_eq
    have nd1 : ((L.take p ++ (x, k) :: L.drop p).map (·.2)).Nodup := (pm.map (·.2)).nodup_iff.mpr (List.nodup_cons.mpr ⟨hm, R.nd⟩)
    generalize L.take p ++ (x, k) :: L.drop p = L1 at pm hlen q3 nd1 hin
    have hes := rowsN_len hin
    rw [hlen] at hes
    generalize SetTable.insertAt es p (k.hash w, Value.ref x) = es1 at hin hes ⊢
    have fin : ∀ b : Bool, wpAny (model P w) A (do
        storeSet a es1 (if b = true then t1 else { t1 with plain := false })
        if !false && (if b = true then t1 else { t1 with plain := false }).tooFull then setRelay a (SetTable.grown (es.size + 1))
        return true) Q E s := by
      intro b
      have T2 := TabOk.bare q3 b
      have m2 : (if b = true then t1 else { t1 with plain := false }).mask = t.mask := by cases b <;> exact q4
      have l2 : (if b = true then t1 else { t1 with plain := false }).led = t.led := by cases b <;> exact q5
      have f2 : (if b = true then t1 else { t1 with plain := false }).fill = L.length + 1 := by rw [List.length_map] at q9; cases b <;> exact q9
      generalize (if b = true then t1 else { t1 with plain := false }) = t2 at T2 m2 l2 f2 ⊢
      refine wpAny_bind (wpAny_storeSet_of ho hd ?_ (by rw [hes, sizeLine_eq]; omega))
      have sb : Heap.SameBut a s.heap (s.heap.update a (Obj.putSet es1 t2)) := Heap.SameBut.update ..
      have ho1 := store_at (es' := es1) (t' := t2) ho hd
      generalize s.heap.update a (Obj.putSet es1 t2) = h1 at sb ho1 ⊢
      have key1 : ∀ p ∈ L1, KeyAt h1 p.2 p.1 := fun p hp => by
        rcases List.mem_cons.mp (pm.mem_iff.mp hp) with e | hp
        · rw [e]; exact hx.same ho hd sb
        · exact (R.key p hp).same ho hd sb
      have ld1 : w.params.followText "set-order" = true ∨ t2.led = true := by rw [l2]; exact R.led
      have hsz1 : t2.place.size = es1.size := by have := T2.sz; rw [List.length_map, hlen] at this; omega
      by_cases hf : t2.tooFull = true
      · have full : (L.length + 1) * 5 ≥ t2.mask * 3 := by
          have := hf
          unfold SetTable.tooFull at this
          rwa [decide_eq_true_eq, f2] at this
        have two : (t.mask = 7 ∧ L.length = 4) ∨ (t.mask = 31 ∧ L.length = 18) := by
          rw [m2] at full
          rcases R.tab.mok with e | e | e
          · left; rw [e] at full room; exact ⟨e, by omega⟩
          · right; rw [e] at full room; exact ⟨e, by omega⟩
          · exfalso; rw [e] at full; omega
        have go : ∀ M, SetTable.sizeAbove (SetTable.grown (L.length + 1)) - 1 = M → MaskOk M → SetTable.sizeAbove (SetTable.grown (L.length + 1)) ≤ 128 → (L.length + 1) * 5 < M * 3 →
            wpAny (model P w) A (setRelay a (SetTable.grown (L.length + 1))) (fun _ s' => wpAny (model P w) A (pure true) Q E s') E { s with heap := h1 } := fun M h1' h2' h3' h4' => by
          refine ns_relay (s := { s with heap := h1 }) ho1 ⟨hex.1, hex.2.1, hex.2.2⟩ rfl hin hsz1 T2.dm (by rw [hes, m2]; rcases two with ⟨e, e2⟩ | ⟨e, e2⟩ <;> omega) nd1 key1 ld1 (by rw [hlen]; exact hfew) h1' h2' h3' (by rw [hlen]; exact h4') fun h2 L2 es2 ep2 t2 sb2 R2 pm2 => ?_
          exact wpAny_pure (q true h2 L2 es2 ep2 t2 (sb.trans sb2) R2 (fun z => absurd z hm) fun _ => pm2.trans pm)
        rw [hl]
        refine wp_if_pos (by simp [hf]) (wpAny_bind ?_)
        rcases two with ⟨_, e2⟩ | ⟨_, e2⟩
        · exact go 31 (by rw [e2, size_20]) (.inr (.inl rfl)) (by rw [e2, size_20]; decide) (by omega)
        · exact go 127 (by rw [e2, size_76]) (.inr (.inr rfl)) (by rw [e2, size_76]; decide) (by omega)
      · refine wp_if_neg (by simp [hf]) ?_
        try refine wpAny_bind (wpAny_pure ?_)
        refine wpAny_pure (q true h1 L1 es1 (ep + 1) t2 sb ⟨⟨_, ho1, ⟨hex.1, hex.2.1, hex.2.2⟩, rfl⟩, hin, T2, nd1, key1, ld1, ?_, by rw [hlen]; exact hfew⟩ (fun z => absurd z hm) fun _ => pm)
        have := hf
        unfold SetTable.tooFull at this
        rw [decide_eq_true_eq, f2] at this
        rw [hlen]
        omega
    by_cases hpl : t1.plain = true
    · exact wp_if_pos hpl (wpAny_bind (nk_byVal _ _ 8 _ hx.is hx.dep _ _ _ fun b => fin b))
    · refine wp_if_neg hpl ?_
      try refine wpAny_bind (wpAny_pure ?_)
      exact fin true
end
end Sim
set_option maxHeartbeats 3200000
namespace Sim
open PySem PySem.Spec PyProof.Rows L2
/-- what the set has of the first i items -/
structure GotN (ks : List KRow) (i : Nat) (L : List KRow) : Prop where
  sub : ∀ p ∈ L, p ∈ ks.take i
  all : ∀ p ∈ ks.take i, p.2 ∈ L.map (·.2)
  len : L.length ≤ i
theorem GotN.step {ks L L' : List KRow} {i : Nat} {x : KRow} (g : GotN ks i L) (h : ks[i]? = some x) (yes : x.2 ∈ L.map (·.2) → L' = L) (no : x.2 ∉ L.map (·.2) → L'.Perm (x :: L)) : GotN ks (i + 1) L' := by
  have tk : ks.take (i + 1) = ks.take i ++ [x] := by rw [List.take_succ, h]; rfl
  by_cases c : x.2 ∈ L.map (·.2)
  · rw [yes c]
    refine ⟨fun p hp => by rw [tk]; exact List.mem_append_left _ (g.sub p hp), fun p hp => ?_, by have := g.len; omega⟩
    rw [tk] at hp
    rcases List.mem_append.mp hp with z | z
    · exact g.all p z
    · rw [List.mem_singleton.mp z]; exact c
  · have pm := no c
    refine ⟨fun p hp => ?_, fun p hp => ?_, by rw [pm.length_eq, List.length_cons]; have := g.len; omega⟩
    · rw [tk]
      rcases List.mem_cons.mp (pm.mem_iff.mp hp) with e | z
      · rw [e]; exact List.mem_append_right _ (List.mem_singleton.mpr rfl)
      · exact List.mem_append_left _ (g.sub p z)
    · rw [(pm.map (·.2)).mem_iff, List.map_cons]
      rw [tk] at hp
      rcases List.mem_append.mp hp with z | z
      · exact List.mem_cons_of_mem _ (g.all p z)
      · rw [List.mem_singleton.mp z]; exact List.mem_cons_self
section
variable {P : Program} {w : World} {A : Around} {E : Value → Shared → Prop} {s : Shared}
theorem SetN.keep {h h' : Heap} {a : Addr} {L : List KRow} {es : Array (Int × Value)} {ep : Nat} {t : SetTable} (R : SetN w h a L es ep t) (ha : ∀ o, h.get? a = some o → h'.get? a = some o) (hk : ∀ p ∈ L, KeyAt h' p.2 p.1) : SetN w h' a L es ep t :=
  let ⟨o, ho, r⟩ := R.ob
  ⟨⟨o, ha o ho, r⟩, R.rows, R.tab, R.nd, hk, R.led, R.room, R.few⟩
theorem setN_new {h : Heap} {a : Addr} (ho : h.get? a = some (noSet0 w)) : ∃ es ep t, SetN w h a [] es ep t := by
  refine ⟨#[], 0, .fresh 0 0 (!w.params.followText "set-order"), ⟨_, ho, ⟨rfl, rfl, rfl⟩, rfl⟩, rfl, ⟨List.Pairwise.nil, rfl, rfl, .inl rfl, (fun x hx => nomatch hx), fun i h j hi => by simp at hi⟩, List.nodup_nil, (fun p hp => nomatch hp), ?_, ?_, ?_⟩
  · show _ ∨ (!w.params.followText "set-order") = true
    cases w.params.followText "set-order" <;> simp
  · show 0 * 5 < 7 * 3
    decide
  · show 0 < 64
    decide
theorem ns_loop {I : Addr} {fp wr : List Addr} {G : Array GenState → Array GenState → Prop} {n : Nat} {Pv : Nat → Value → Prop} {St : Nat → Shared → Prop} {R : Result → Shared → Prop}
    (W : WalksS P w A.in1 I fp wr G n Pv St) (S : Addr) (hSf : S ∉ fp) (ks : List KRow) (hn : n = ks.length) (hfew : ks.length < 60) (hval : ∀ i v, Pv i v → ∃ p, ks[i]? = some p ∧ v = .ref p.1) (h0 : Heap) (hk : ∀ p ∈ ks, KeyAt h0 p.2 p.1)
    (hS0 : h0.get? S = none) (hw0 : ∀ b ∈ wr, h0.get? b = none) (hu : A.units + 20 < cLine) :
    ∀ (k i : Nat) (s : Shared), n - i = k → i ≤ n → St i s → (∀ b o, h0.get? b = some o → s.heap.get? b = some o) → (∃ L es ep t, SetN w s.heap S L es ep t ∧ GotN ks i L) →
      (∀ s' L es ep t, Moved (S :: wr) G s s' → SetN w s'.heap S L es ep t → GotN ks n L → (∀ b o, h0.get? b = some o → s'.heap.get? b = some o) → R (.ok (.ret .none)) s') →
      codeAny (model P w) A (.builtin "set.update.loop" ⟨[.ref S, .ref I], []⟩) R s := by
  have hSw : S ∉ wr := fun z => hSf (W.sub _ z)
  have more : ∀ b ∈ wr, b ∈ S :: wr := fun b hb => List.mem_cons_of_mem _ hb
  have stay : ∀ {s s' : Shared}, Moved wr G s s' → (∀ b o, h0.get? b = some o → s.heap.get? b = some o) → ∀ b o, h0.get? b = some o → s'.heap.get? b = some o := fun hm z b o e =>
    hm.heap b o (fun hb => by rw [hw0 b hb] at e; cases e) (z b o e)
  intro k
  induction k with
  | zero =>
    intro i s hk' hi hst z ⟨L, es, ep, t, hS, g⟩ fin
    have hin : i = n := by omega
    subst hin
    refine codeAny_builtin F.entry_set_update_loop ?_
    rw [Around.under_plainId F.plain_set_update_loop _]
    refine wpAny_bind (m := pyNext (.ref I)) (W.done s _ _ hst fun s' hm => ?_)
    have z' := stay hm z
    exact wpAny_pure (fin s' L es ep t (hm.mono more) (hS.keep (fun o e => hm.heap S o hSw e) fun p hp => (hk p (List.mem_of_mem_take (g.sub p hp))).keep z') g z')
  | succ k ih =>
    intro i s hk' hi hst z ⟨L, es, ep, t, hS, g⟩ fin
    have lt : i < n := by omega
    refine codeAny_builtin F.entry_set_update_loop ?_
    rw [Around.under_plainId F.plain_set_update_loop _]
    refine wpAny_bind (m := pyNext (.ref I)) (W.item i s _ _ lt hst fun v s' hP hst' hm => ?_)
    obtain ⟨p, hp, rfl⟩ := hval i v hP
    have z' := stay hm z
    have hS' : SetN w s'.heap S L es ep t := hS.keep (fun o e => hm.heap S o hSw e) fun q hq => (hk q (List.mem_of_mem_take (g.sub q hq))).keep z'
    have hx : KeyAt s'.heap p.2 p.1 := (hk p (List.mem_of_getElem? hp)).keep z'
    refine wpAny_bind (m := holding [Value.ref p.1] (setAdd S (.ref p.1))) (wpAny_holding ?_)
    unfold setAdd
    refine wpAny_holding (wpAny_bind (pyHash_key _ _ _ _ _ hx.is (by have := hx.dep; show A.units + 1 + _ < _; omega) ?_))
    refine ns_add (s := { s' with toks := s'.toks + p.2.draws }) hS' hx (by show A.units + 1 + 16 < _; omega) (by have := g.len; omega) fun b h' L' es' ep' t' hsb hS2 c1 c2 => ?_
    have g' : GotN ks (i + 1) L' := g.step hp c1 c2
    have z2 : ∀ b o, h0.get? b = some o → h'.get? b = some o := fun b o e => (hsb.2 b (fun q => by rw [q, hS0] at e; cases e)).trans (z' b o e)
    refine wpAny_pure ⟨plainId_quiet F.plain_set_update_loop _, ih (i + 1) _ (by omega) lt (W.frame _ s' _ _ hst' (Nat.le_add_right _ _) fun b hb o e => ?_) z2 ⟨L', es', ep', t', hS2, g'⟩ fun s'' L2 es2 ep2 t2 hm'' hS'' g'' z'' => ?_⟩
    · rw [hsb.2 b (fun q : b = S => hSf (by rw [← q]; exact hb))]; exact e
    · refine fin s'' L2 es2 ep2 t2 (Moved.trans W.gtrans ((hm.mono more).then_heap (Nat.le_add_right _ _) fun b o hb e => ?_) hm'') hS'' g'' z''
      rw [hsb.2 b (fun q : b = S => hb (by rw [q]; exact List.mem_cons_self))]; exact e
end
end Sim
set_option maxHeartbeats 3200000
namespace Sim
open PySem PySem.Spec PyProof.Rows L2
/-- the set at a, the keys themselves aside -/
structure SetN0 (w : World) (h : Heap) (a : Addr) (L : List KRow) : Prop where
  ex : ∃ (es : Array (Int × Value)) (ep : Nat) (t : SetTable), (∃ o, h.get? a = some o ∧ o.ExactSet ∧ o.data = .set es ep t) ∧ es.toList = rowsN w L ∧ TabOk t (L.map (hsh w)) ∧ (L.map (·.2)).Nodup ∧ (w.params.followText "set-order" = true ∨ t.led = true) ∧ L.length * 5 < t.mask * 3 ∧ L.length < 64
def SetNO (w : World) (a : Addr) (L : List KRow) : HO := .ext fun h => SetN0 w h a L
theorem SetN.bare {w : World} {h : Heap} {a : Addr} {L : List KRow} {es : Array (Int × Value)} {ep : Nat} {t : SetTable} (R : SetN w h a L es ep t) : SetN0 w h a L := ⟨es, ep, t, R.ob, R.rows, R.tab, R.nd, R.led, R.room, R.few⟩
theorem SetN0.full {w : World} {h : Heap} {a : Addr} {L : List KRow} (R : SetN0 w h a L) (k : ∀ p ∈ L, KeyAt h p.2 p.1) : ∃ es ep t, SetN w h a L es ep t :=
  let ⟨es, ep, t, h1, h2, h3, h4, h5, h6, h7⟩ := R.ex
  ⟨es, ep, t, h1, h2, h3, h4, k, h5, h6, h7⟩
theorem setNO_new {P : Program} {w : World} {H : Hp} {h : Heap} {a : Addr} {L : List KRow} (R : SetN0 w h a L) : ObjOk P w H h a (SetNO w a L) := by
  have ⟨es, ep, t, ⟨o, ho, r⟩, q⟩ := R.ex
  refine ⟨R, ⟨o, ho⟩, fun h1 h2 p k => ?_⟩
  have ⟨es', ep', t', ⟨o', ho', r'⟩, q'⟩ := SetN0.ex p
  exact ⟨es', ep', t', ⟨o', k o' ho', r'⟩, q'⟩
section
variable {C : Cxt} {X : Cx}
/-- rows of data as rows of keys -/
theorem keys_of {ρ : List Addr} {H : Hp} : ∀ {xs : List V} {ds : List D}, DRs C ρ H xs ds → (∀ d ∈ ds, (keyT d).isSome = true) → ∃ ks : List KRow, xs = ks.map (fun p => V.ref p.1) ∧ ds.map nkey = ks.map (fun p => some p.2) ∧ (∀ p ∈ ks, p.2.depth ≤ 8) ∧ ∀ p ∈ ks, ∃ d ∈ ds, DR C ρ H (.ref p.1) d ∧ nkey d = some p.2
  | _, _, .nil, _ => ⟨[], rfl, rfl, (fun p hp => nomatch hp), fun p hp => nomatch hp⟩
  | _, _, .cons (v := v) (d := d) r t, h => by
    obtain ⟨ks, e1, e2, e3, e4⟩ := keys_of t fun d hd => h d (List.mem_cons_of_mem _ hd)
    have hd := h d List.mem_cons_self
    unfold keyT at hd
    cases hk : nkey d with
    | none => rw [hk] at hd; cases hd
    | some k =>
      rw [hk] at hd
      simp only at hd
      by_cases hk2 : tupK k = true
      · have dp : k.depth ≤ 8 := by
          unfold tupK at hk2
          split at hk2
          · exact of_decide_eq_true hk2
          · cases hk2
        have hv : ∃ a, v = .ref a := by
          cases r with
          | tup _ _ _ => exact ⟨_, rfl⟩
          | lst _ _ _ _ => exact ⟨_, rfl⟩
          | dct _ _ _ _ _ _ => exact ⟨_, rfl⟩
          | non => rw [nkey] at hk; cases hk; cases hk2
          | bl b => rw [nkey] at hk; cases hk; cases hk2
          | int i => rw [nkey] at hk; cases hk; cases hk2
          | str x _ => rw [nkey] at hk; cases hk; cases hk2
        obtain ⟨a, rfl⟩ := hv
        refine ⟨(a, k) :: ks, by rw [e1]; rfl, by rw [List.map_cons, List.map_cons, hk, e2], fun p hp => ?_, fun p hp => ?_⟩
        · rcases List.mem_cons.mp hp with rfl | hp
          · exact dp
          · exact e3 p hp
        · rcases List.mem_cons.mp hp with rfl | hp
          · exact ⟨d, List.mem_cons_self, r, hk⟩
          · obtain ⟨d', h1, h2⟩ := e4 p hp
            exact ⟨d', List.mem_cons_of_mem _ h1, h2⟩
      · rw [if_neg hk2] at hd; cases hd
/-- set(xs), xs a list of tuples -/
def rSetK (C : Cxt) (w : World) : List V → Hp → VK → Prop := fun vs H Q => ∃ (ρ : List Addr) (p : Addr) (ks : List KRow), vs = [.ref p] ∧ H p = some (.lst (ks.map fun p => V.ref p.1)) ∧ (∀ p ∈ ks, p.2.depth ≤ 8 ∧ ∃ d, DR C ρ H (.ref p.1) d ∧ nkey d = some p.2) ∧ ks.length < 60 ∧
  ∀ a (L : List KRow), H a = none → (∀ p ∈ L, p ∈ ks) → (∀ p ∈ ks, p.2 ∈ L.map (·.2)) → (L.map (·.2)).Nodup → Q (.ref a) (upd H a (SetNO w a L))
theorem refs_are : ∀ {ks : List KRow} {us : List Value}, Vals (ks.map fun p => V.ref p.1) us → us = ks.map fun p => Value.ref p.1
  | [], _, .nil => rfl
  | p :: ks, _, .cons r t => by cases r; rw [refs_are t]; rfl
theorem setK_ok (eK : X.K = C.K) (hc : X.calm = true) (hu : X.A.units + 65 < cLine) : CallR X (.type "set") (rSetK C X.w) := by
  intro pins s σ H vs us Q I r h
  obtain ⟨ρ, p, ks, rfl, hp, hk, hf, q⟩ := h
  rw [Vals.ref1 r]
  obtain ⟨its, rv, pl, hz⟩ := I.list (a := p) (.inl (.inl hp))
  have hl := pl.isList
  have eits := refs_are rv
  have hn : its.toArray.size = ks.length := by rw [List.size_toArray, eits, List.length_map]
  have hls : p < s.heap.objs.size := by obtain ⟨o, e, _⟩ := hl; exact Heap.lt_size e
  have key : ∀ p ∈ ks, KeyAt s.heap p.2 p.1 := fun p hp => by
    obtain ⟨dp, d, r, e⟩ := hk p hp
    exact ⟨DR.nested eK I d _ _ _ r e rfl, dp⟩
  have nn : ∀ b, s.heap.objs.size ≤ b → s.heap.get? b = none := fun b hb => by
    cases e : s.heap.get? b with
    | none => rfl
    | some o => have := Heap.lt_size e; exact absurd hb (Nat.not_le_of_lt this)
  refine set_by_loop (I.ok.hd hc) hl (Z := fun h' => ∃ L es ep t, SetN X.w h' s.heap.objs.size L es ep t ∧ GotN ks ks.length L) (fun B R hB hBu fin => ?_) fun h' tk k z => ?_
  · have e0 : (s.heap.push (noSet0 X.w)).objs.size = s.heap.objs.size + 1 := Heap.size_push ..
    have e1 : ((s.heap.push (noSet0 X.w)).push (itOf p)).get? (s.heap.objs.size + 1) = some (itOf p) := by rw [← e0]; exact Heap.get?_push_size _ rfl
    have e2 : ((s.heap.push (noSet0 X.w)).push (itOf p)).get? s.heap.objs.size = some (noSet0 X.w) := Heap.get?_push_of_some _ (Heap.get?_push_size _ rfl)
    obtain ⟨es, ep, t, new⟩ := setN_new (w := X.w) e2
    refine ns_loop ((Walks.list (I := s.heap.objs.size + 1) (ax := p) (A := B.in1) hB (Nat.ne_of_lt (Nat.lt_succ_of_lt hls)) its.toArray).toS) s.heap.objs.size
      (by simp only [List.mem_cons, List.not_mem_nil, or_false, not_or]; exact ⟨Nat.ne_of_lt (Nat.lt_succ_self _), Nat.ne_of_gt hls⟩) ks hn hf (fun i v hv => ?_) s.heap key (nn _ (Nat.le_refl _)) (fun b hb => nn b ?_) (by omega) (its.toArray.size - 0) 0 _ (by omega) (Nat.zero_le _) ?_
      (fun b o e => Heap.get?_push_of_some _ (Heap.get?_push_of_some _ e)) ⟨[], es, ep, t, new, ⟨(fun p hp => nomatch hp), (fun p hp => by simp at hp), Nat.le_refl _⟩⟩ fun s' L es ep t hm hS g z => ?_
    · have : ks[i]?.map (fun p => Value.ref p.1) = some v := by rw [← List.getElem?_map, ← eits]; simpa using hv
      obtain ⟨q, hq, rfl⟩ := Option.map_eq_some_iff.mp this
      exact ⟨q, hq, rfl⟩
    · rw [List.mem_singleton.mp hb]; exact Nat.le_succ _
    · exact ⟨⟨_, e1, rfl, rfl⟩, (hl.push _).push _⟩
    · obtain ⟨h', g2, d', tk', os'⟩ := s'
      have eg : g2 = s.gens := hm.gens
      have ed : d' = s.drawn := hm.drawn
      have eo : os' = s.os := hm.os
      subst eg; subst ed; subst eo
      rw [hn] at g
      exact fin h' tk' z ⟨L, es, ep, t, hS, g⟩
  · obtain ⟨L, es, ep, t, R, g⟩ := z
    refine ⟨.ref _, upd H s.heap.objs.size (SetNO X.w s.heap.objs.size L), I.laid (t' := tk) k (Nat.le_refl _) (setNO_new R.bare), rfl, q _ L (I.hok.fresh (Nat.le_refl _)) (fun p hp => List.mem_of_mem_take (g.sub p hp)) (fun p hp => g.all p (by rw [List.take_length]; exact hp)) R.nd⟩
theorem perm_map_ex {α β : Type} {f : α → β} {us ms : List β} (h : us.Perm ms) : ∀ {L : List α}, ms = L.map f → ∃ L1 : List α, L1.Perm L ∧ us = L1.map f := by
  induction h with
  | nil =>
    intro L e
    cases L with
    | nil => exact ⟨[], .refl _, rfl⟩
    | cons _ _ => cases e
  | cons x _ ih =>
    intro L e
    cases L with
    | nil => cases e
    | cons a L =>
      rw [List.map_cons] at e
      injection e with e1 e2
      obtain ⟨L1, p, q⟩ := ih e2
      exact ⟨a :: L1, p.cons a, by rw [List.map_cons, ← e1, q]⟩
  | swap x y l =>
    intro L e
    match L, e with
    | a :: b :: L, e =>
      simp only [List.map_cons, List.cons.injEq] at e
      exact ⟨b :: a :: L, .swap a b L, by simp [e]⟩
  | trans _ _ ih1 ih2 =>
    intro L e
    obtain ⟨L2, p2, e2⟩ := ih2 e
    obtain ⟨L1, p1, e1⟩ := ih1 e2
    exact ⟨L1, p1.trans p2, e1⟩
/-- sorted(the set), its keys as data -/
def rSortK (C : Cxt) (w : World) : List V → Hp → VK → Prop := fun vs H Q => ∃ (ρ : List Addr) (a : Addr) (L : List KRow) (f : KRow → D), vs = [.ref a] ∧ H a = some (SetNO w a L) ∧ (∀ p ∈ L, p.2.depth ≤ 8 ∧ DR C ρ H (.ref p.1) (f p) ∧ nkey (f p) = some p.2) ∧
  PySem.W.AllAlike (L.map f) ∧ PySem.W.Sortable (L.map f) ∧ (∀ p ∈ L, (f p).depth ≤ 50 ∧ (f p).canLay0 = true) ∧
  ∀ (L1 : List KRow) (ys : List V) (p : Addr), L1.Perm L → DRs C ρ H ys (sortD (L1.map f)) → ys.length ≤ sizeLine → H p = none → Q (.ref p) (upd H p (.lst ys))
theorem sortK_ok (eK : X.K = C.K) (hc : X.calm = true) (hu : X.A.units + 65 < cLine) : CallR X (.builtin "sorted") (rSortK C X.w) := by
  intro pins s σ H vs us Q I r h
  obtain ⟨ρ, a, L, f, rfl, ha, hk, hal, hso, hok, q⟩ := h
  rw [Vals.ref1 r]
  have R0 : SetN0 X.w s.heap a L := (I.hok a _ ha).1
  obtain ⟨es, ep, t, R⟩ := R0.full fun p hp => ⟨DR.nested eK I _ _ _ _ (hk p hp).2.1 (hk p hp).2.2 rfl, (hk p hp).1⟩
  obtain ⟨o, ho, hex, hd⟩ := R.ob
  have hsz := rowsN_len R.rows
  have hfew := R.few
  refine Calls.call_function_entry kind_sorted plain_sorted entry_sorted (args_sorted1 _) ?_
  unfold Builtin.«sorted»
  refine wpAny_bind (m := checkCount "sorted" 1 1 _) (wpAny_pure (wpAny_bind (collect_set (A := X.A.in1) (I.ok.hd hc) ⟨o, ho, hex.1, hd⟩ R.fits (by unfold scanBound; omega) R.tab.ris R.led fun s1 us1 k1 hz g1 o1 pm => ?_)))
  have er : es.toList.map (·.2) = L.map fun p => Value.ref p.1 := by rw [R.rows, rowsN, List.map_map]; rfl
  rw [er] at pm
  obtain ⟨L1, p1, e1⟩ := perm_map_ex pm rfl
  have hm : ∀ p ∈ L1, p ∈ L := fun p hp => p1.mem_iff.mp hp
  have ul : us1.length = L.length := by rw [e1, List.length_map, p1.length_eq]
  refine wpAny_bind (wpAny_newList ?_ (by rw [ul, sizeLine_eq]; omega))
  have hoL : (s1.heap.push (seqObj "list" us1.toArray 0)).get? s1.heap.objs.size = some (seqObj "list" us1.toArray 0) := Heap.get?_push_size _ rfl
  have rd1 : ∀ p ∈ L1, ∃ as, Reads s.heap (.ref p.1) (f p) as := fun p hp => Dp.reads I (f p) (.ref p.1) (.ref p.1) (eK ▸ DR.dp _ _ (hk p (hm p hp)).2.1 (hok p (hm p hp)).2) (show L2.RelV (V.ref p.1) (Value.ref p.1) from rfl)
  have each : ∀ l : List KRow, (∀ p ∈ l, p ∈ L) → PySem.W.EachIs (RU C ρ H) (l.map fun p => Value.ref p.1) (l.map f) := by
    intro l
    induction l with
    | nil => intro _; exact .nil
    | cons p l ih => intro h; exact .cons ⟨.ref p.1, rfl, (hk p (h p List.mem_cons_self)).2.1⟩ (ih fun x hx => h x (List.mem_cons_of_mem _ hx))
  have reads : ∀ l : List KRow, (∀ p ∈ l, p ∈ L1) → PySem.W.EachIs (fun v d => ∃ as, Reads (s1.heap.push (seqObj "list" us1.toArray 0)) v d as ∧ s1.heap.objs.size ∉ as) (l.map fun p => Value.ref p.1) (l.map f) := by
    intro l
    induction l with
    | nil => intro _; exact .nil
    | cons p l ih =>
      intro h
      obtain ⟨as, ra⟩ := rd1 p (h p List.mem_cons_self)
      have ra1 := Reads.keeps k1 ra
      refine .cons ⟨as, Reads.keeps (fun b o e => Heap.get?_push_of_some _ e) ra1, fun z => ?_⟩ (ih fun x hx => h x (List.mem_cons_of_mem _ hx))
      obtain ⟨o, e⟩ := PyProof.On.reads_mem_get ra1 _ z
      exact Nat.lt_irrefl _ (Heap.lt_size e)
  have al1 : PySem.W.AllAlike (L1.map f) := fun d hd d' hd' => by
    obtain ⟨p, hp, rfl⟩ := List.mem_map.mp hd
    obtain ⟨p', hp', rfl⟩ := List.mem_map.mp hd'
    exact hal _ (List.mem_map.mpr ⟨p, hm p hp, rfl⟩) _ (List.mem_map.mpr ⟨p', hm p' hp', rfl⟩)
  have so1 : PySem.W.Sortable (L1.map f) := hso.imp (fun h d hd => by obtain ⟨p, hp, rfl⟩ := List.mem_map.mp hd; exact h _ (List.mem_map.mpr ⟨p, hm p hp, rfl⟩)) fun h d hd => by obtain ⟨p, hp, rfl⟩ := List.mem_map.mp hd; exact h _ (List.mem_map.mpr ⟨p, hm p hp, rfl⟩)
  refine wpAny_bind (wpAny_holding (PySem.W.list_sort_data (s := { s1 with heap := s1.heap.push (seqObj "list" us1.toArray 0) }) (R := RU C ρ H) (vs := us1) (bs := L1.map f) (enc := fun d : D => d) hoL (by rw [e1]; exact each L1 hm) (by rw [e1]; rw [e1] at reads; exact reads L1 fun p h => h) (by rw [List.map_id']; exact al1) (by rw [List.map_id']; exact so1) (by rw [List.length_map, p1.length_eq, sizeLine_eq]; omega)
    (fun d hd => by obtain ⟨p, hp, rfl⟩ := List.mem_map.mp hd; have := (hok p (hm p hp)).1; show X.A.units + 1 + 1 + _ < _; omega) fun out hol hout => ?_))
  obtain ⟨ys, rv2, q2⟩ := RU.back hout
  obtain ⟨c, hc2⟩ := sortedHeap_at (vs := us1) (out := out.toArray) hoL
  have yl : ys.length ≤ sizeLine := by rw [rv2.length, hol, List.length_map, p1.length_eq, sizeLine_eq]; omega
  have kk : ∀ b u, s.heap.get? b = some u → (sortedHeap (s1.heap.push (seqObj "list" us1.toArray 0)) s1.heap.objs.size us1 out.toArray).get? b = some u := fun b u e => by
    have e2 := k1 b u e
    have lt := Heap.lt_size e2
    rw [sortedHeap_old (Nat.ne_of_lt lt) (by rw [size_push']; exact Nat.lt_succ_of_lt lt)]
    exact Heap.get?_push_of_some _ e2
  have hn : H s1.heap.objs.size = none := I.hok.fresh hz
  have J : Inv X pins σ (upd H s1.heap.objs.size (.lst ys)) { s with heap := sortedHeap (s1.heap.push (seqObj "list" us1.toArray 0)) s1.heap.objs.size us1 out.toArray, gens := s1.gens, drawn := s1.drawn, toks := s1.toks } :=
    I.call (ch := []) (Un.laid kk hz hn) (I.hok.laid kk hz ⟨yl, out, c, rv2, hc2⟩) (by rw [g1]; exact I.bare) (fun _ z => nomatch z)
  refine wpAny_pure ⟨_, rfl, .ref s1.heap.objs.size, _, ?_, rfl, q L1 ys _ p1 q2 yl hn⟩
  have es' : ({ s1 with heap := sortedHeap (s1.heap.push (seqObj "list" us1.toArray 0)) s1.heap.objs.size us1 out.toArray } : Shared) = { s with heap := sortedHeap (s1.heap.push (seqObj "list" us1.toArray 0)) s1.heap.objs.size us1 out.toArray, gens := s1.gens, drawn := s1.drawn, toks := s1.toks } := by
    cases s1; cases s; cases o1; rfl
  rw [es']
  exact J
end
end Sim
set_option maxHeartbeats 3200000
namespace Sim
open PySem PySem.Spec PyProof.Rows L2
/-! ### what stands in a set, in order -/
theorem nat_unique : ∀ {a b : List Nat}, a.Pairwise (· < ·) → b.Pairwise (· < ·) → (∀ k, k ∈ a ↔ k ∈ b) → a = b
  | [], [], _, _, _ => rfl
  | [], y :: ys, _, _, h => by have := (h y).mpr List.mem_cons_self; cases this
  | x :: xs, [], _, _, h => by have := (h x).mp List.mem_cons_self; cases this
  | x :: xs, y :: ys, ha, hb, h => by
    rw [List.pairwise_cons] at ha hb
    have exy : x = y := by
      rcases List.mem_cons.mp ((h x).mp List.mem_cons_self) with e | m1
      · exact e
      rcases List.mem_cons.mp ((h y).mpr List.mem_cons_self) with e | m2
      · exact e.symm
      have := hb.1 x m1
      have := ha.1 y m2
      omega
    subst exy
    rw [nat_unique ha.2 hb.2 fun k => ?_]
    constructor
    · intro m
      rcases List.mem_cons.mp ((h k).mp (List.mem_cons_of_mem _ m)) with e | m'
      · have := ha.1 k m; omega
      · exact m'
    · intro m
      rcases List.mem_cons.mp ((h k).mpr (List.mem_cons_of_mem _ m)) with e | m'
      · have := hb.1 k m; omega
      · exact m'
def le_ (a b : D) : Bool := PySem.W.dataLe false id a b
theorem ascK_get : ∀ {R : List D}, ascK R = true → (∀ i (h : i < R.length), le_ R[i] R[i] = true) ∧ ∀ i j (hi : i < R.length) (hj : j < R.length), i < j → le_ R[i] R[j] = true ∧ le_ R[j] R[i] = false
  | [], _ => ⟨fun i h => absurd h (Nat.not_lt_zero _), fun i j h => absurd h (Nat.not_lt_zero _)⟩
  | d :: R, h => by
    unfold ascK at h
    simp only [Bool.and_eq_true, List.all_eq_true, Bool.not_eq_true'] at h
    obtain ⟨⟨h1, h2⟩, h3⟩ := h
    obtain ⟨a, b⟩ := ascK_get h3
    refine ⟨fun i hi => ?_, fun i j hi hj lt => ?_⟩
    · cases i with
      | zero => exact h1
      | succ i => exact a i (by simpa using hi)
    · cases j with
      | zero => omega
      | succ j =>
        cases i with
        | zero => exact h2 _ (List.getElem_mem _)
        | succ i => exact b i j (by simpa using hi) (by simpa using hj) (by omega)
theorem range_get (R : List D) : R = (List.range R.length).map fun i => R.getD i .none := by
  apply List.ext_getElem
  · simp
  · intro i h1 h2
    simp [List.getD_eq_getElem?_getD, List.getElem?_eq_getElem h1]
theorem sort_perm {l R : List D} (h : ascK R = true) (p : l.Perm R) : sortD l = R := by
  obtain ⟨hr, hl⟩ := ascK_get h
  obtain ⟨idx, p1, e1⟩ := perm_map_ex p (range_get R)
  have lt : ∀ i ∈ idx, i < R.length := fun i hi => List.mem_range.mp (p1.mem_iff.mp hi)
  have nd : idx.Nodup := p1.nodup_iff.mpr List.nodup_range
  have gd : ∀ i (h : i < R.length), R.getD i .none = R[i] := fun i h => by simp [List.getD_eq_getElem?_getD, List.getElem?_eq_getElem h]
  have ms : (idx.mergeSort fun i j => decide (i ≤ j)).map (fun i => R.getD i .none) = (idx.map fun i => R.getD i .none).mergeSort (PySem.W.dataLe false id) := by
    refine List.map_mergeSort fun i hi j hj => ?_
    show decide (i ≤ j) = le_ (R.getD i .none) (R.getD j .none)
    rw [gd i (lt i hi), gd j (lt j hj)]
    by_cases e : i = j
    · subst e
      rw [hr i (lt i hi)]
      simp
    · by_cases q : i < j
      · rw [(hl i j (lt i hi) (lt j hj) q).1]
        simp; omega
      · rw [(hl j i (lt j hj) (lt i hi) (by omega)).2]
        simp; omega
  have so : idx.mergeSort (fun i j => decide (i ≤ j)) = List.range R.length := by
    have pw := List.pairwise_mergeSort (le := fun i j : Nat => decide (i ≤ j)) (fun a b c h1 h2 => by simp at h1 h2 ⊢; omega) (fun a b => by simp; omega) idx
    have nd2 : (idx.mergeSort fun i j => decide (i ≤ j)).Nodup := (List.mergeSort_perm idx _).nodup_iff.mpr nd
    refine nat_unique ?_ List.pairwise_lt_range fun k => ?_
    · have : (idx.mergeSort fun i j => decide (i ≤ j)).Pairwise fun a b => a ≤ b ∧ a ≠ b := (pw.imp fun h => by simpa using h).and nd2
      exact this.imp fun h => by omega
    · rw [List.mem_mergeSort, p1.mem_iff]
  unfold sortD
  rw [e1, ← ms, so]
  exact (range_get R).symm
theorem mem_uniqK : ∀ {ds : List D} {x : D}, x ∈ uniqK ds → x ∈ ds
  | d :: ds, x, h => by
    unfold uniqK at h
    rcases List.mem_cons.mp h with rfl | h
    · exact List.mem_cons_self
    · exact List.mem_cons_of_mem _ (mem_uniqK (List.mem_filter.mp h).1)
theorem uniqK_all : ∀ {ds : List D} {x : D}, x ∈ ds → ∃ y ∈ uniqK ds, nkey y = nkey x
  | d :: ds, x, h => by
    unfold uniqK
    rcases List.mem_cons.mp h with rfl | h
    · exact ⟨_, List.mem_cons_self, rfl⟩
    · obtain ⟨y, hy, e⟩ := uniqK_all h
      by_cases q : nkey y = nkey d
      · exact ⟨d, List.mem_cons_self, q.symm.trans e⟩
      · exact ⟨y, List.mem_cons_of_mem _ (List.mem_filter.mpr ⟨hy, by simpa using q⟩), e⟩
theorem uniqK_nodup : ∀ ds : List D, ((uniqK ds).map nkey).Nodup
  | [] => List.nodup_nil
  | d :: ds => by
    unfold uniqK
    rw [List.map_cons, List.nodup_cons]
    refine ⟨fun h => ?_, ?_⟩
    · obtain ⟨y, hy, e⟩ := List.mem_map.mp h
      have := (List.mem_filter.mp hy).2
      rw [e] at this
      simp at this
    · exact (List.Sublist.map _ List.filter_sublist).nodup (uniqK_nodup ds)
theorem nodup_of_map' {α β : Type} {f : α → β} {l : List α} (h : (l.map f).Nodup) : l.Nodup := List.Pairwise.of_map f (fun _ _ hne e => hne (congrArg f e)) h
/-- the data of a key -/
def datOf (ds : List D) (p : KRow) : D := (ds.find? fun d => decide (nkey d = some p.2)).getD .none
theorem datOf_is {ds : List D} {p : KRow} {d : D} (s : sameK ds = true) (hd : d ∈ ds) (e : nkey d = some p.2) : datOf ds p = d := by
  unfold datOf
  cases hf : ds.find? (fun d => decide (nkey d = some p.2)) with
  | none =>
    have := List.find?_eq_none.mp hf d hd
    simp [e] at this
  | some y =>
    have hy := List.mem_of_find?_eq_some hf
    have ey : nkey y = some p.2 := by simpa using List.find?_some hf
    have := List.all_eq_true.mp (List.all_eq_true.mp s y hy) d hd
    simp only [ey, e, decide_true, Bool.not_true, Bool.false_or] at this
    exact qD_ok _ _ this
theorem rows_perm {ds : List D} {L : List KRow} (s : sameK ds = true) (nd : (L.map (·.2)).Nodup) (h1 : ∀ p ∈ L, ∃ d ∈ ds, nkey d = some p.2) (h2 : ∀ d ∈ ds, ∃ p ∈ L, nkey d = some p.2) : (L.map (datOf ds)).Perm (uniqK ds) := by
  have kd : ∀ p ∈ L, datOf ds p ∈ ds ∧ nkey (datOf ds p) = some p.2 := fun p hp => by
    obtain ⟨d, hd, e⟩ := h1 p hp
    rw [datOf_is s hd e]
    exact ⟨hd, e⟩
  refine (List.perm_ext_iff_of_nodup ?_ (nodup_of_map' (uniqK_nodup ds))).mpr fun x => ⟨fun hx => ?_, fun hx => ?_⟩
  · refine nodup_of_map' (f := nkey) ?_
    rw [List.map_map]
    have : L.map (nkey ∘ datOf ds) = (L.map (·.2)).map some := by
      rw [List.map_map]
      exact List.map_congr_left fun p hp => (kd p hp).2
    rw [this]
    exact List.Pairwise.map _ (fun a b hne e => hne (Option.some.inj e)) nd
  · obtain ⟨p, hp, rfl⟩ := List.mem_map.mp hx
    obtain ⟨k1, k2⟩ := kd p hp
    obtain ⟨y, hy, e⟩ := uniqK_all k1
    rw [datOf_is s (mem_uniqK hy) (e.trans k2)]
    exact hy
  · obtain ⟨p, hp, e⟩ := h2 x (mem_uniqK hx)
    exact List.mem_map.mpr ⟨p, hp, datOf_is s (mem_uniqK hx) e⟩
end Sim
set_option maxHeartbeats 1000000
namespace Sim
open PySem PySem.Spec PyProof.Rows L2
/-! ### sorted(set(ints)) -/
theorem eraseDups_mem (l : List Int) (k : Int) : k ∈ l.eraseDups ↔ k ∈ l := List.mem_eraseDups
theorem nodup_eraseDups (l : List Int) : l.eraseDups.Nodup := by
  generalize hn : l.length = n
  induction n using Nat.strongRecOn generalizing l with
  | _ n ih =>
    cases l with
    | nil => simp [List.eraseDups]
    | cons x xs =>
      rw [List.eraseDups_cons]
      refine List.nodup_cons.mpr ⟨fun h => ?_, ih _ ?_ _ rfl⟩
      · rw [eraseDups_mem, List.mem_filter] at h
        simp at h
      · have := List.length_filter_le (fun b => !b == x) xs
        simp at hn
        omega
theorem up_unique : ∀ {a b : List Int}, a.Pairwise (· < ·) → b.Pairwise (· < ·) → (∀ k, k ∈ a ↔ k ∈ b) → a = b
  | [], [], _, _, _ => rfl
  | [], y :: ys, _, _, h => by have := (h y).mpr List.mem_cons_self; cases this
  | x :: xs, [], _, _, h => by have := (h x).mp List.mem_cons_self; cases this
  | x :: xs, y :: ys, ha, hb, h => by
    rw [List.pairwise_cons] at ha hb
    have exy : x = y := by
      have h1 := (h x).mp List.mem_cons_self
      have h2 := (h y).mpr List.mem_cons_self
      rcases List.mem_cons.mp h1 with e | h1
      · exact e
      · rcases List.mem_cons.mp h2 with e | h2
        · exact e.symm
        · have p := hb.1 x h1; have q := ha.1 y h2; omega
    subst exy
    refine congrArg (x :: ·) (up_unique ha.2 hb.2 fun k => ?_)
    have hk := h k
    rw [List.mem_cons, List.mem_cons] at hk
    constructor
    · intro m
      rcases hk.mp (.inr m) with e | q
      · subst e; exact absurd (ha.1 _ m) (by omega)
      · exact q
    · intro m
      rcases hk.mpr (.inr m) with e | q
      · subst e; exact absurd (hb.1 _ m) (by omega)
      · exact q
theorem upInts_up (ns : List Int) : (upInts ns).Pairwise (· < ·) := by
  unfold upInts
  have h1 := List.pairwise_mergeSort (le := fun i j : Int => decide (i ≤ j)) (fun a b c h1 h2 => by simp at *; omega) (fun a b => by simp; omega) ns.eraseDups
  have h2 : (ns.eraseDups.mergeSort (fun i j => decide (i ≤ j))).Nodup := (List.mergeSort_perm _ _).nodup_iff.mpr (nodup_eraseDups ns)
  have := List.Pairwise.and h1 h2
  refine this.imp fun {a b} h => ?_
  have h3 := h.1
  have h4 : a ≠ b := h.2
  simp at h3
  omega
theorem upInts_mem (ns : List Int) (k : Int) : k ∈ upInts ns ↔ k ∈ ns := by
  unfold upInts
  rw [List.mem_mergeSort, eraseDups_mem]
section
variable {C : Cxt} {F : List Fn} {G : Str → Option D} {XX : Str → Str → Bool} {k : Nat} {Γ : Gam} {X : Cx} {Wx : WX} {C' : CallS}
theorem DRs_ints (ρ : List Addr) (H : Hp) : ∀ ns : List Int, DRs C ρ H (ns.map V.int) (ns.map PyData.int)
  | [] => .nil
  | n :: ns => .cons (.int n) (DRs_ints ρ H ns)
/-- set(t), t a tuple of ints -/
theorem set_tup_ok (hc : X.calm = true) : CallR X (.type "set") (fun vs H Q => ∃ (p : Addr) (ns : List Int), vs = [.ref p] ∧ SqT X.K H p (ns.map V.int) ∧ ns.length + 1 < scanBound ∧ ∀ a c, H a = none → c ≤ ns.length → Q (.ref a) (upd H a (SetO X.w a (fun j => decide (j ∈ ns)) c))) := by
  intro pins s σ H vs us Q I r h
  obtain ⟨p, ns, rfl, hT, hb, q⟩ := h
  rw [Vals.ref1 r]
  obtain ⟨its, rv, ht, hz⟩ := I.tuple hT
  have hi : IntsAre its.toArray.toList ns := by simpa using Vals.ints rv
  refine call_set_tupI ns (I.ok.hd hc) (show s.heap.IsTuple p its.toArray from ht) hi hb fun h' tk c R hcl kp => ?_
  exact ⟨.ref _, upd H s.heap.objs.size (SetO X.w s.heap.objs.size _ c), I.laid (t' := tk) kp (Nat.le_refl _) (setO_new R), rfl, q _ c (I.hok.fresh (Nat.le_refl _)) hcl⟩
theorem CallR_or {f : Value} {r1 r2 : List V → Hp → VK → Prop} (h1 : CallR X f r1) (h2 : CallR X f r2) : CallR X f (fun vs H Q => r1 vs H Q ∨ r2 vs H Q) := by
  intro pins s σ H vs us Q I r h
  rcases h with h | h
  · exact h1 pins s σ H vs us Q I r h
  · exact h2 pins s σ H vs us Q I r h
theorem sset_pe (g : Gd C F G XX k Γ X) {a : Expr} {sa : SE} {mu : Bool} {p p2 pos pos2 : Pos} (h1 : isBlt Γ "sorted" = true) (h2 : isBlt Γ "set" = true) (na : noStar a = true) (ha : PE X a (tE C Wx (evE C' G sa))) :
    PE X (.Call (.Name "sorted" p) [.Call (.Name "set" p2) [a] [] pos2] [] pos) (tE C Wx (evE C' G (.blt mu "sorted set!" (.cons sa .nil)))) := by
  obtain ⟨hg, hm, hn, hd⟩ := g.blt h1
  obtain ⟨hg2, hm2, hn2, hd2⟩ := g.blt h2
  refine (pe_callB (CallR_or (cr_sortedSet g.calm) (sortK_ok g.eK g.calm g.units)) hg hm (by decide +kernel) (pa_cons (pe_callTy (CallR_or (CallR_or (set_tup_ok g.calm) (set_list_ok g.calm)) (setK_ok g.eK g.calm g.units)) hg2 hm2 (by decide +kernel) (pa_cons ha pa_nil (star_cons na)) hn2 hd2 (star_cons na) (stars_any (es := []) rfl)) pa_nil rfl) hn hd rfl (stars_any (es := []) rfl)).imp fun σ H Q q => ?_
  have q : tE C Wx (fun e m => (evE C' G sa e m).bind fun x m => bSortedSet mu [x] m) σ H Q := by
    obtain ⟨ρ, e, m, hr, er, q⟩ := q
    refine ⟨ρ, e, m, hr, er, ?_⟩
    have e1 : evE C' G (.blt mu "sorted set!" (.cons sa .nil)) e m = (evE C' G sa e m).bind fun x m => bSortedSet mu [x] m := by
      show ((evE C' G sa e m).bind fun x m => R.ok [x] m).bind (fun ws m => bltW mu "sorted set!" ws m) = _
      cases evE C' G sa e m <;> rfl
    rw [e1] at q
    exact q
  refine (tG.bind (rel := relW C) q).mono fun x H1 => ?_
  rintro ⟨ρ, e, w, m, hr, er, r, q1⟩
  unfold bSortedSet at q1
  have fin : ∀ {mu : Bool} {ns : List Int} {ρ : List Addr} {m : MH} {e : Env} {H1 : Hp} {R' : V → Hp → Prop}, HR C ρ H1 m → ER C ρ H1 σ e → ns.length < 60 → RG C (relW C) (WE Wx σ) (newL mu ((upInts ns).map .int) m) ρ H1 R' →
      ∀ (b : Addr) (c : Nat), H1 b = none → c ≤ ns.length → rSortedSet X.w [V.ref b] (upd H1 b (SetO X.w b (fun j => decide (j ∈ ns)) c)) R' := by
    intro mu ns ρ m e H1 R' hr er z q1 b c hb hcl
    refine ⟨b, _, c, rfl, upd_same, by omega, fun ns' p' hup hmem hlen hp' => ?_⟩
    have e5 : ns' = upInts ns := up_unique hup (upInts_up ns) fun j => by rw [hmem, upInts_mem]; simp
    subst e5
    exact newL_ok (hr.upd hb) hp' (by rw [List.length_map, hlen, sizeLine_eq]; omega) (DRs_ints _ _ _) (q1.base (Ext.upd hb))
  split at q1
  · rename_i ds e2
    cases e2
    split at q1
    · rename_i ns e3
      split at q1
      · rename_i z
        have r : DR C ρ H1 x (.tuple ds) := r
        cases r with
        | @tup a xs _ sq zz qa =>
          have e4 := intsOf_ok e3 qa
          subst e4
          exact .inl (.inl ⟨a, ns, rfl, g.eK ▸ sq.sqT, by have : scanBound = 4096 := rfl; omega, fun b c hb hcl => .inl (fin hr er z q1 b c hb hcl)⟩)
      · exact q1.off
    · exact q1.off
  · rename_i ds e2
    cases e2
    split at q1
    · rename_i ns e3
      split at q1
      · rename_i z
        have r : DR C ρ H1 x (.list ds) := r
        cases r with
        | @lst a xs _ ha hf zz qa =>
          have e4 := intsOf_ok e3 qa
          subst e4
          exact .inl (.inr ⟨a, ns, rfl, .inl (.inl ha), by have : scanBound = 4096 := rfl; omega, fun b c hb hcl => .inl (fin hr er z q1 b c hb hcl)⟩)
      · exact q1.off
    · split at q1
      · rename_i ok
        unfold setOk at ok
        simp only [Bool.and_eq_true, List.all_eq_true, decide_eq_true_eq] at ok
        obtain ⟨⟨⟨⟨k1, k2⟩, k3⟩, k4⟩, k5⟩ := ok
        obtain ⟨al, so, dp⟩ := sortOk_spec k4
        have r : DR C ρ H1 x (.list ds) := r
        cases r with
        | @lst a xs _ ha hf zz qa =>
          obtain ⟨ks, rfl, e2, e3, e4⟩ := keys_of qa k1
          have kl : ks.length < 60 := by have := congrArg List.length e2; rw [List.length_map, List.length_map] at this; omega
          refine .inr ⟨ρ, a, ks, rfl, ha, fun p hp => ⟨e3 p hp, (e4 p hp).imp fun d h => h.2⟩, kl, fun b L hb s1 s2 nd => .inr ?_⟩
          have c1 : ∀ p ∈ L, ∃ d ∈ ds, nkey d = some p.2 := fun p hp => (e4 p (s1 p hp)).imp fun d h => ⟨h.1, h.2.2⟩
          have c2 : ∀ d ∈ ds, ∃ p ∈ L, nkey d = some p.2 := fun d hd => by
            have : nkey d ∈ ds.map nkey := List.mem_map.mpr ⟨d, hd, rfl⟩
            rw [e2] at this
            obtain ⟨p, hp, e⟩ := List.mem_map.mp this
            obtain ⟨p', hp', e'⟩ := List.mem_map.mp (s2 p hp)
            exact ⟨p', hp', by rw [e', ← e]⟩
          have pm := rows_perm k3 nd c1 c2
          have du : ∀ d ∈ L.map (datOf ds), d ∈ uniqK ds := fun d hd => pm.mem_iff.mp hd
          refine ⟨ρ, b, L, datOf ds, rfl, upd_same, fun p hp => ?_, fun d hd d' hd' => al d (du d hd) d' (du d' hd'), ?_, fun p hp => dp _ (du _ (List.mem_map.mpr ⟨p, hp, rfl⟩)), fun L1 ys q p1 qy yl hq => ?_⟩
          · obtain ⟨d, hd, hr1, e⟩ := e4 p (s1 p hp)
            rw [datOf_is k3 hd e]
            exact ⟨e3 p (s1 p hp), DR.ext (Ext.upd hb) _ _ hr1, e⟩
          · exact so.imp (fun h d hd => h d (du d hd)) fun h d hd => h d (du d hd)
          · rw [sort_perm k5 (((p1.map _).trans pm).trans (List.mergeSort_perm _ _).symm)] at qy
            exact newL_ok (hr.upd hb) hq yl qy (q1.base (Ext.upd hb))
      · exact q1.off
  · exact q1.off

/-! ### what is walked -/
structure Walks (C : Cxt) (ρ : List Addr) (H : Hp) (J : It) (ds : List D) : Prop where
  len : ds.length ≤ sizeLine
  go : ∀ {ρ2 H2}, Ext ρ H ρ2 H2 → ∀ {i d}, ds[i]? = some d → J.go i H2
  yld : ∀ {C2 ρ2 H2 m}, Cext C C2 H → Ext ρ H ρ2 H2 → HR C2 ρ2 H2 m → ∀ {i d}, ds[i]? = some d → ∀ {x H3}, J.yld i H2 x H3 → Ext ρ2 H2 ρ2 H3 ∧ HR C2 ρ2 H3 m ∧ DR C2 ρ2 H3 x d
  stop : ∀ {ρ2 H2}, Ext ρ H ρ2 H2 → ∀ {i}, ds.length ≤ i → J.stop i H2
/-- a source, as an iterator -/
def RJ (C : Cxt) (K : PySem.W.Frag) (ρ : List Addr) (H : Hp) (J : It) : Src → Prop
  | .vals ds => Walks C ρ H J ds
  | .dyn i => ∃ a xs, ρ[i]? = some a ∧ J = Itl K a ∧ H a = some (.lst xs)
def tJ (C : Cxt) (K : PySem.W.Frag) (Wx : WX) (f : Env → MH → R Src) : TI := fun σ H R' =>
  ∃ ρ e m, HR C ρ H m ∧ ER C ρ H σ e ∧ RG C (fun ρ H J s => RJ C K ρ H J s) (WE Wx σ) (f e m) ρ H R'
theorem walk_list {K : PySem.W.Frag} {ρ : List Addr} {H : Hp} {a : Addr} {xs : List V} {ds : List D} (ha : H a = some (.lst xs)) (n : Fre C ρ a) (z : xs.length ≤ sizeLine) (q : DRs C ρ H xs ds) : Walks C ρ H (Itl K a) ds where
  len := by rw [← q.length]; exact z
  go := fun x i d e => by
    obtain ⟨v, h1, _⟩ := q.get e
    exact ⟨xs, v, .inl (.inl (x.keep _ _ ha n.ro)), h1⟩
  yld := fun {C2 ρ2 H2 m} ce x hr {i d} e {y H3} h => by
    obtain ⟨rfl, hy⟩ := h
    obtain ⟨v, h1, h2⟩ := q.get e
    have := hy xs (.inl (.inl (x.keep _ _ ha n.ro)))
    rw [h1] at this
    cases this
    exact ⟨Ext.refl, hr, DR.fwd ce x h2⟩
  stop := fun x i h => ⟨xs, .inl (.inl (x.keep _ _ ha n.ro)), by rw [q.length]; exact h⟩
theorem walk_tup {K : PySem.W.Frag} (eK : K = C.K) {ρ : List Addr} {H : Hp} {a : Addr} {xs : List V} {ds : List D} (ha : SeqA (.tup xs) "tuple" C ρ H a xs) (z : xs.length ≤ sizeLine) (q : DRs C ρ H xs ds) : Walks C ρ H (Itt K a) ds where
  len := by rw [← q.length]; exact z
  go := fun x i d e => by
    obtain ⟨v, h1, _⟩ := q.get e
    exact ⟨xs, v, eK ▸ (ha.ext x).sqT, h1⟩
  yld := fun {C2 ρ2 H2 m} ce x hr {i d} e {y H3} h => by
    obtain ⟨rfl, hy⟩ := h
    obtain ⟨v, h1, h2⟩ := q.get e
    have := hy xs (eK ▸ (ha.ext x).sqT)
    rw [h1] at this
    cases this
    exact ⟨Ext.refl, hr, DR.fwd ce x h2⟩
  stop := fun x i h => ⟨xs, eK ▸ (ha.ext x).sqT, by rw [q.length]; exact h⟩
theorem walk_range {ρ : List Addr} {H : Hp} (lo : Int) (n : Nat) (z : n ≤ 16777216) : Walks C ρ H (Itr lo n) (rangeD lo n) where
  len := by unfold rangeD; rw [List.length_map, List.length_range, sizeLine_eq]; exact z
  go := fun x i d e => by
    have := (List.getElem?_eq_some_iff.mp e).1
    have h : i < n := by simpa [rangeD] using this
    exact h
  yld := fun {C2 ρ2 H2 m} ce x hr {i d} e {y H3} h => by
    obtain ⟨rfl, rfl⟩ := h
    have hi := (List.getElem?_eq_some_iff.mp e).1
    have hi : i < n := by simpa [rangeD] using hi
    unfold rangeD at e
    rw [List.getElem?_map, List.getElem?_range hi] at e
    cases e
    exact ⟨Ext.refl, hr, .int _⟩
  stop := fun x i h => by
    have : n ≤ i := by simpa [rangeD] using h
    exact this
end
end Sim
set_option maxHeartbeats 2000000
namespace Sim
open PySem PySem.Spec PyProof.Rows L2
/-! ### enumerate(tuple) -/
abbrev tupIt (t : Addr) : Obj := { cls := .type "tuple_iterator", data := .fields #[.ref t, .int 0 0] }
abbrev enumOn (k : Nat) : Obj := { cls := .type "enumerate", data := .fields #[.none, .bool false, .ref k, rawInt 0, .none, .none] }
theorem meets_enumT (t : Addr) (items : Array Value) : Meets (Builtin.«enumerate.__new__» ⟨[.type "enumerate", .ref t], []⟩) (fun _ R s => s.heap.IsTuple t items ∧ R (.ok (.ret (.ref (s.heap.push (tupIt t)).objs.size))) { s with heap := (s.heap.push (tupIt t)).push (enumOn s.heap.objs.size) }) := .of_wp fun prog w A R s h => by
  obtain ⟨hp, g, d, tk, os⟩ := s
  obtain ⟨h1, h⟩ := h
  have hsub := sub_enumerate
  have q1 : ∀ {A' : Around} {E : Value → Shared → Prop} {Q : Value → Shared → Prop}, Q (.ref hp.objs.size) ⟨hp.push (tupIt t), g, d, tk, os⟩ → wpAny (model prog w) A' (pyIter (.ref t)) Q E ⟨hp, g, d, tk, os⟩ := fun q => (begins_tuple t items).iter prog w _ _ ⟨hp, g, d, tk, os⟩ _ h1 q
  wp_walk using q1
  refine wpAny_stack_any fun st => wpAny_pure ?_
  split
  · rename_i c _ _ _ _ _
    cases (c == Value.type "enumerate") <;> (wp_walk using q1; exact ⟨_, rfl, h⟩)
  · wp_walk using q1
    exact ⟨_, rfl, h⟩
theorem call_enumT {prog : Program} {w : World} {A : Around} {E : Value → Shared → Prop} {s : Shared} {t : Addr} {items : Array Value} {Q : Value → Shared → Prop} (ht : s.heap.IsTuple t items)
    (h : ∀ h', IsEnum h' (s.heap.objs.size + 1) s.heap.objs.size 0 .none → h'.IsTupleIter s.heap.objs.size t 0 → (∀ b o, s.heap.get? b = some o → h'.get? b = some o) → Q (.ref (s.heap.objs.size + 1)) { s with heap := h' }) : wpAny (model prog w) A (call (.type "enumerate") [.ref t]) Q E s := by
  refine callType_new F.called_enumerate (by decide) (F.typeCall_enumerate_1 _) (F.newCall_enumerate_1 _) (fun obj => F.args_object_init_2 obj _) F.entry_enumerate_new (meets_enumT t items) ⟨ht, ?_⟩
  have hz : (s.heap.push (tupIt t)).objs.size = s.heap.objs.size + 1 := Heap.size_push ..
  have he : IsEnum ((s.heap.push (tupIt t)).push (enumOn s.heap.objs.size)) (s.heap.objs.size + 1) s.heap.objs.size 0 .none := by
    have := Heap.get?_push_size (s.heap.push (tupIt t)) (o := enumOn s.heap.objs.size) rfl
    rw [hz] at this
    exact this
  show _ ∧ _
  rw [hz]
  exact ⟨⟨_, he, rfl⟩, h _ he ⟨_, Heap.get?_push_of_some _ (Heap.get?_push_size _ rfl), rfl, rfl⟩ fun b o x => Heap.get?_push_of_some _ (Heap.get?_push_of_some _ x)⟩
theorem wpAny_pyNext_enum_endT {prog : Program} {w : World} {A : Around} {E : Value → Shared → Prop} {s : Shared} {e it t : Addr} {i : Nat} {j : Int} {items : Array Value} {old : Value} {Q : Option Value → Shared → Prop} (hh : A.handled = none) (he : IsEnum s.heap e it j old) (hit : s.heap.IsTupleIter it t i) (ht : s.heap.IsTuple t items) (hx : items[i]? = none)
    (hQ : ∀ h', Heap.ExtBut it s.heap h' → Q none { s with heap := h' }) : wpAny (model prog w) A (pyNext (.ref e)) Q E s := by
  have hT : s.TypeIs (.ref e) "enumerate" := ⟨_, he, rfl⟩
  unfold pyNext
  refine wpAny_bind (wpAny_attempt (wpAny_callSpecial?_slot (name := Str.ofString "__next__") hT F.slot_enumerate_next (wpAny_call_entry F.slot_enumerate_next hT F.entry_enumerate_next ?_ (F.args_enumerate_next_1 _))))
  show wpAny _ _ (field (.ref e) 2 >>= _) _ _ _
  refine wpAny_bind (wpAny_field he rfl (x := .ref it) rfl (wpAny_bind (wpAny_nextOf_tuple_end hh hit ht hx fun h' x he' hx' => ?_)))
  obtain ⟨o, ho, hc⟩ := hx'
  exact wpAny_bind (wpAny_isInstance (T := "StopIteration") (b := true) ⟨o, ho, hc⟩ isSubtype_stop (wpAny_pure (hQ _ he')))
/-- the tuple at a, each item in a new pair -/
def IteT (K : PySem.W.Frag) (a : Addr) : It where
  go := fun i H => ∃ (xs : List V) (x : V), SqT K H a xs ∧ xs[i]? = some x
  yld := fun i H v H' => ∃ T x, v = .ref T ∧ H T = none ∧ H' = L2.upd H T (.tup [.int (i : Nat), x]) ∧ ∀ xs, SqT K H a xs → xs[i]? = some x
  stop := fun i H => ∃ xs : List V, SqT K H a xs ∧ xs.length ≤ i
theorem turn_enumT {P : Program} {w : World} {K : PySem.W.Frag} {elts : List Expr} {kk : Nat} {tpos : Pos} (a e it : Addr) :
    Turn P w K (.Tuple elts kk tpos) (IteT K a) [e, it] e (fun i h => (∃ old, IsEnum h e it ((i : Nat) : Int) old) ∧ h.IsTupleIter it a i ∧ e ≠ it ∧ e ≠ a ∧ a ≠ it) where
  mem := by simp
  obj := fun i h st b hb => by
    obtain ⟨⟨old, he⟩, ⟨o, ho, hc, hd⟩, _⟩ := st
    rcases (show b = e ∨ b = it by simpa using hb) with rfl | rfl
    · exact ⟨_, he, fun v q => nomatch q⟩
    · exact ⟨o, ho, fun v q => by rw [hd] at q; cases q⟩
  keep := fun i h h' st k => let ⟨⟨old, he⟩, hi, hne⟩ := st
    ⟨⟨old, k e (by simp) _ he⟩, hi.at fun o q => k it (by simp) o q, hne⟩
  item := by
    intro X hP hw hK hc i pins s σ H E I hf st hg
    subst hP hw hK
    obtain ⟨⟨old, he⟩, hit, hne, hea, hai⟩ := st
    obtain ⟨xs, x, hq, hx⟩ := hg
    obtain ⟨its, rv, p, hz⟩ := I.tuple hq
    obtain ⟨u, hu, ru⟩ := rv.get hx
    have hel : e < s.heap.objs.size := Heap.lt_size he
    have hil : it < s.heap.objs.size := by obtain ⟨_, q, _⟩ := hit; exact Heap.lt_size q
    have hlen : i < its.toArray.size := by
      have := (List.getElem?_eq_some_iff.mp hu).1
      simpa using this
    have D : Draws X.prog X.w X.A.in1 it [it, a] _ _ _ := Draws.tuple (A := X.A.in1) (show X.A.in1.handled = Option.none from I.ok.hd hc) it a hai its.toArray
    refine wpAny_pyNext_enum_itemD D he ⟨hit, p⟩ hlen hne (by simp [hne, hea]) fun y h' tk hy ho hit' hT hsz hk => ?_
    have ey : y = u := by
      have hy' : its[i]? = some y := by simpa using hy
      rw [hu] at hy'
      cases hy'
      rfl
    subst ey
    refine ⟨_, rfl, wpAny_letOwnedTupleGo_enum (s := { s with heap := h', toks := tk + 1 }) ho fun h'' he' sb => ?_⟩
    have hT2 : h''.get? s.heap.objs.size = some { cls := .type "tuple", data := .seq #[.int i tk, y] } := (sb.2 _ (Nat.ne_of_gt hel)).trans hT
    have new : ObjOk X.prog X.w (L2.upd H s.heap.objs.size (.tup [.int (i : Nat), x])) h'' s.heap.objs.size (.tup [.int (i : Nat), x]) := ⟨by show 2 ≤ sizeLine; decide, [.int i tk, y], .cons ⟨_, rfl⟩ (.cons ru .nil), ⟨_, hT2, rfl, _, rfl⟩⟩
    have I1 : Inv X pins σ (L2.upd H s.heap.objs.size (.tup [.int (i : Nat), x])) { s with heap := h'', toks := tk + 1 } :=
      I.turnedNew (ch := [e, it]) (fun b ob hb q => (sb.2 b (fun z => hb (by simp [z]))).trans (hk b ob (fun z => hb (by simp [z])) (fun z => hb (by simp [z])) q)) hf (Nat.le_refl _) new
    refine ⟨.ref s.heap.objs.size, _, I1, rfl, ⟨_, x, rfl, I.hok.fresh (Nat.le_refl _), rfl, fun ys hy => by rw [I.tuple_inj hy hq]; exact hx⟩, ⟨⟨y, ?_⟩, hit'.1.at fun o q => (sb.2 it (Ne.symm hne)).trans q, hne, hea, hai⟩, fun b hb => ?_⟩
    · rw [show ((i + 1 : Nat) : Int) = (i : Int) + 1 by omega]
      exact he'
    · have hb' : b < s.heap.objs.size := by
        rcases (show b = e ∨ b = it by simpa using hb) with rfl | rfl <;> assumption
      rw [upd_ne (Nat.ne_of_lt hb')]
      exact (hf b hb).1
  done := by
    intro X hP hw hK hc i pins s σ H E I hf st hg
    subst hP hw hK
    obtain ⟨⟨old, he⟩, hit, hne, hea, hai⟩ := st
    obtain ⟨xs, hq, hx⟩ := hg
    obtain ⟨its, rv, p, hz⟩ := I.tuple hq
    obtain ⟨f0, f1, f2, f3, f4, f5⟩ := hf it (by simp)
    have hl := rv.length
    refine wpAny_pyNext_enum_endT (I.ok.hd hc) he hit p (by simp; omega) fun h' eb => ⟨rfl, I.turned (t' := s.toks) (fun b o hb q => eb b o hb q) f0 f1 f3 f4 f5⟩
  self := fun A i s Q E st h => let ⟨⟨_, he⟩, _⟩ := st; wpAny_pyIter_enum he h
def iEnumA (K : PySem.W.Frag) (ta : TA) : TI := fun σ H R => ta σ H fun vs H1 => ∃ a xs, vs = [.ref a] ∧ ((SqL K H1 a xs ∧ R (Ite K a) H1) ∨ (SqT K H1 a xs ∧ R (IteT K a) H1))
theorem pi_enumA {X : Cx} {e : Expr} {ta : TA} {p pos tpos : Pos} {elts : List Expr} {kk : Nat} (hg : Gl X "enumerate") (hm : X.mg "enumerate" = none) (ha : PA X [e] ta) (hs : starEach [e] X.env = [(false, eval e X.env)]) :
    PI X (.Tuple elts kk tpos) (.Call (.Name "enumerate" p) [e] [] pos) (iEnumA X.K ta) := by
  refine ⟨fun pins s σ H R I h => ?_⟩
  refine Call_ (ld_blt I hg hm boot_enumerate (PyProof.Rows.callWith_type1 (thn (ha.run pos pins s σ H _ I h) fun us s1 ⟨vs, H1, I1, r1, q1⟩ => ?_) hs rfl))
  obtain ⟨a, xs, ex, q1⟩ := q1
  subst ex
  cases r1 with | cons r rr =>
  cases rr
  cases r
  have fr : ∀ b ∈ [s1.heap.objs.size + 1, s1.heap.objs.size], FpOk X pins H1 b := fun b hb => by
    have hle : s1.heap.objs.size ≤ b := by
      rcases (show b = s1.heap.objs.size + 1 ∨ b = s1.heap.objs.size by simpa using hb) with z | z <;> rw [z]
      · exact Nat.le_add_right _ _
      · exact Nat.le_refl _
    exact I1.fpOk hle (I1.hok.fresh hle)
  rcases q1 with ⟨hq, q⟩ | ⟨hq, q⟩
  · obtain ⟨its, rv, p', hz⟩ := I1.list hq
    exact call_enumerate_list p'.isList fun h' he hit hsz hk => wpAny_pyIter_enum he ⟨s1.heap.objs.size + 1, [s1.heap.objs.size + 1, s1.heap.objs.size], _, _, H1, rfl, I1.kept (t' := s1.toks) hk, turn_enum a _ _, ⟨⟨.none, he⟩, hit, Nat.succ_ne_self _⟩, fr, q⟩
  · obtain ⟨its, rv, p', hz⟩ := I1.tuple hq
    have al : a < s1.heap.objs.size := by obtain ⟨o, ho, _⟩ := id p'; exact Heap.lt_size ho
    exact call_enumT p' fun h' he hit hk => wpAny_pyIter_enum he ⟨s1.heap.objs.size + 1, [s1.heap.objs.size + 1, s1.heap.objs.size], _, _, H1, rfl, I1.kept (t' := s1.toks) hk, turn_enumT a _ _, ⟨⟨.none, he⟩, hit, Nat.succ_ne_self _, fun z => absurd (show s1.heap.objs.size + 1 < s1.heap.objs.size from z ▸ al) (by omega), Nat.ne_of_lt al⟩, fr, q⟩
end Sim
set_option maxHeartbeats 1000000
namespace Sim
open PySem PySem.Spec PyProof.Rows L2
/-! ### a dict is walked -/
/-- its keys; its items, each a new pair -/
def Itq (d : Addr) (es : List DictEntry) (ep : Nat) (vs : List V) : It :=
  ⟨fun i H => H d = some (.ext (RawD d es.toArray ep)) ∧ i < es.length, fun i H x H' => H' = H ∧ vs[i]? = some x, fun i H => H d = some (.ext (RawD d es.toArray ep)) ∧ es.length ≤ i⟩
def Itqq (d : Addr) (es : List DictEntry) (ep : Nat) (ks vs : List V) : It :=
  ⟨fun i H => H d = some (.ext (RawD d es.toArray ep)) ∧ i < es.length, fun i H x H' => ∃ T k v, ks[i]? = some k ∧ vs[i]? = some v ∧ x = .ref T ∧ H T = none ∧ H' = L2.upd H T (.tup [k, v]), fun i H => H d = some (.ext (RawD d es.toArray ep)) ∧ es.length ≤ i⟩
section
variable {P : Program} {w : World} {K : PySem.W.Frag} {tg : Expr} {d : Addr} {es : List DictEntry} {ep : Nat}
theorem vals_at {vs : List V} {f : DictEntry → Value} (h : Vals vs (es.map f)) {i : Nat} (hi : i < es.toArray.size) : ∃ x, vs[i]? = some x ∧ RelV x (f es.toArray[i]) := by
  have hi' : i < es.length := by simpa using hi
  have hl : vs.length = es.length := by rw [h.length, List.length_map]
  have e : vs[i]? = some vs[i] := List.getElem?_eq_getElem (by omega)
  obtain ⟨u, hu, r⟩ := h.get e
  rw [List.getElem?_map, List.getElem?_eq_getElem hi'] at hu
  cases hu
  exact ⟨_, e, by simpa using r⟩
theorem turn_raw {vs : List V} (it : Addr) (hv : Vals vs (es.map (·.key))) : Turn P w K tg (Itq d es ep vs) [it] it (fun i h => h.IsKeyIter it d i es.length ep) where
  mem := by simp
  obj := fun i h st b hb => by
    obtain rfl : b = it := by simpa using hb
    obtain ⟨oi, e, c, dd⟩ := st
    exact ⟨oi, e, fun v z => by rw [dd] at z; cases z⟩
  keep := fun i h h' st k => st.at fun oi e => k it (by simp) oi e
  item := by
    intro X hP hw hK hc i pins s σ H E I hf st hg
    subst hP hw hK
    obtain ⟨hd, hi⟩ := hg
    obtain ⟨f0, f1, f2, f3, f4, f5⟩ := hf it (by simp)
    obtain ⟨⟨o, ho, hx, hdat⟩, _, _⟩ := (show ObjOk X.prog X.w H s.heap d (.ext (RawD d es.toArray ep)) from I.hok d _ hd)
    have hi2 : i < es.toArray.size := by simpa using hi
    obtain ⟨x, ex, rx⟩ := vals_at hv hi2
    refine next_key_item st ho hdat (by simp) (Array.getElem?_eq_getElem hi2) fun h' st' sb => ?_
    have I1 : Inv X pins σ H { s with heap := h' } := I.turned (t' := s.toks) (fun b ob hb e => (sb.2 b hb).trans e) f0 f1 f3 f4 f5
    obtain ⟨oi, e, c, dd⟩ := id st'
    exact ⟨_, rfl, go_of (s := { s with heap := h' }) e c dd (by decide) ⟨x, H, I1, rx, ⟨rfl, ex⟩, st', fun b hb => (hf b hb).1⟩⟩
  done := by
    intro X hP hw hK hc i pins s σ H E I hf st hg
    subst hP hw hK
    obtain ⟨hd, hi⟩ := hg
    obtain ⟨f0, f1, f2, f3, f4, f5⟩ := hf it (by simp)
    obtain ⟨⟨o, ho, hx, hdat⟩, _, _⟩ := (show ObjOk X.prog X.w H s.heap d (.ext (RawD d es.toArray ep)) from I.hok d _ hd)
    exact next_key_end (I.ok.hd hc) st ho hdat (by simp) hi fun h' eb => ⟨rfl, I.turned (t' := s.toks) (fun b ob hb e => eb b ob hb e) f0 f1 f3 f4 f5⟩
  self := fun A i s Q E st h => by
    refine wpAny_pyIter_slot st.typeIs PySem.F.slot_dict_keyiterator_iter (wpAny_call_entry PySem.F.slot_dict_keyiterator_iter st.typeIs PySem.F.entry_dict_keyiterator_iter ?_ (PySem.F.args_dict_keyiterator_iter_1 _))
    exact wpAny_pure ⟨_, rfl, "dict_keyiterator", _, st.typeIs, PySem.F.slot_dict_keyiterator_next.lookup, h⟩
theorem turn_rawItems {ks vs : List V} {elts : List Expr} {kk : Nat} {tpos : Pos} (it : Addr) (hk : Vals ks (es.map (·.key))) (hv : Vals vs (es.map (·.val))) :
    Turn P w K (.Tuple elts kk tpos) (Itqq d es ep ks vs) [it] it (fun i h => ∃ ok ov, IsItemIter h it d i es.length ep ok ov) where
  mem := by simp
  obj := fun i h st b hb => by
    obtain rfl : b = it := by simpa using hb
    obtain ⟨ok, ov, e⟩ := st
    exact ⟨_, e, fun v z => nomatch z⟩
  keep := fun i h h' st k => let ⟨ok, ov, e⟩ := st; ⟨ok, ov, k it (by simp) _ e⟩
  item := by
    intro X hP hw hK hc i pins s σ H E I hf st hg
    subst hP hw hK
    obtain ⟨hd, hi⟩ := hg
    have hm : s.heap.DictRaw d es.toArray ep := (show ObjOk X.prog X.w H s.heap d (.ext (RawD d es.toArray ep)) from I.hok d _ hd).1
    have hi2 : i < es.toArray.size := by simpa using hi
    obtain ⟨x, ex, rx⟩ := vals_at hk hi2
    obtain ⟨y, ey, ry⟩ := vals_at hv hi2
    obtain ⟨ok, ov, he⟩ := st
    have hlt : it < s.heap.objs.size := Heap.lt_size he
    refine wpAny_pyNext_items_item_raw (es := es.toArray) (by simpa using he) hm hi2 fun h' ho hT hz hkp => ?_
    refine ⟨_, rfl, wpAny_letOwnedTupleGo_items (s := { s with heap := h' }) ho fun h'' he' sb => ?_⟩
    have hT2 := (sb.2 _ (Nat.ne_of_gt hlt)).trans hT
    have new : ObjOk X.prog X.w (upd H s.heap.objs.size (.tup [x, y])) h'' s.heap.objs.size (.tup [x, y]) :=
      ⟨by show 2 ≤ sizeLine; decide, _, .cons rx (.cons ry .nil), ⟨_, hT2, rfl, _, rfl⟩⟩
    have I1 : Inv X pins σ (upd H s.heap.objs.size (.tup [x, y])) { s with heap := h'' } :=
      I.turnedNew (t' := s.toks) (ch := [it]) (fun b ob hb e => (sb.2 b (by simpa using hb)).trans (hkp b ob (by simpa using hb) e)) hf (Nat.le_refl _) new
    refine ⟨.ref s.heap.objs.size, _, I1, rfl, ⟨_, x, y, ex, ey, rfl, I.hok.fresh (Nat.le_refl _), rfl⟩, ⟨_, _, by simpa using he'⟩, fun b hb => ?_⟩
    obtain rfl : b = it := by simpa using hb
    rw [upd_ne (Nat.ne_of_lt hlt)]
    exact (hf b (by simp)).1
  done := by
    intro X hP hw hK hc i pins s σ H E I hf st hg
    subst hP hw hK
    obtain ⟨hd, hi⟩ := hg
    obtain ⟨f0, f1, f2, f3, f4, f5⟩ := hf it (by simp)
    have hm : s.heap.DictRaw d es.toArray ep := (show ObjOk X.prog X.w H s.heap d (.ext (RawD d es.toArray ep)) from I.hok d _ hd).1
    obtain ⟨ok, ov, he⟩ := st
    exact wpAny_pyNext_items_end_raw (es := es.toArray) (I.ok.hd hc) (by simpa using he) hm (by simpa using hi) fun h' eb => ⟨rfl, I.turned (t' := s.toks) (fun b ob hb e => eb b ob hb e) f0 f1 f3 f4 f5⟩
  self := fun A i s Q E st h => let ⟨_, _, e⟩ := st; PySem.W.kcp_self e h
end
section
variable {X : Cx} {tg : Expr}
theorem it_raw {pins : List (Addr × Obj)} {σ : St} {H1 : Hp} {s1 : Shared} {a : Addr} {es : List DictEntry} {ep : Nat} {vs : List V} {R' : It → Hp → Prop} {E : Value → Shared → Prop} (I1 : Inv X pins σ H1 s1) (ha : H1 a = some (.ext (RawD a es.toArray ep))) (hs : (a == sysModules) = false) (hv : Vals vs (es.map (·.key))) (q : R' (Itq a es ep vs) H1) :
    wpAny (model X.prog X.w) X.A (pyIter (.ref a)) (PIE X pins σ tg R') E s1 := by
  have hm : s1.heap.DictRaw a es.toArray ep := (show ObjOk X.prog X.w H1 s1.heap a (.ext (RawD a es.toArray ep)) from I1.hok a _ ha).1
  refine wpAny_pyIter_dict_raw hs hm ?_
  refine ⟨s1.heap.objs.size, [s1.heap.objs.size], _, _, H1, rfl, I1.kept (t' := s1.toks) fun b o e => Heap.get?_push_of_some _ e, turn_raw _ hv, ?_, fun b hb => ?_, q⟩
  · exact ⟨_, Heap.get?_push_size _ rfl, rfl, by simp⟩
  · obtain rfl : b = s1.heap.objs.size := by simpa using hb
    exact I1.fpOk (Nat.le_refl _) (I1.hok.fresh (Nat.le_refl _))
theorem items_pi {o : Expr} {to : TE} {elts : List Expr} {kk : Nat} {tpos apos cpos : Pos} (ho : PE X o to) (hb : attributeBase o "items" X.env (eval o X.env) = eval o X.env) (hl : (apos.endLine == cpos.line) = true) :
    PI X (.Tuple elts kk tpos) (.Call (.Attribute o "items" apos) [] [] cpos) (fun σ H R => to σ H fun x H1 => ∃ (a : Addr) (es : List DictEntry) (ep : Nat) (ks vs : List V), x = .ref a ∧ H1 a = some (.ext (RawD a es.toArray ep)) ∧ (a == sysModules) = false ∧ Vals ks (es.map (·.key)) ∧ Vals vs (es.map (·.val)) ∧ R (Itqq a es ep ks vs) H1) := by
  refine ⟨fun pins s σ H R' I h => ?_⟩
  refine wpAny_Call_method (T := "dict") (id := "dict.items") hb rfl hl PySem.F.plainAttrs_dict PySem.F.slot_dict_items PySem.F.type_dict_items (thn (ho.run pins s σ H _ I h) fun u s1 ⟨x, H1, I1, rx, a, es, ep, ks, vs, ex, ha, hs, hk, hv, q⟩ => ?_)
  subst ex
  cases (show u = _ from rx)
  have hm : s1.heap.DictRaw a es.toArray ep := (show ObjOk X.prog X.w H1 s1.heap a (.ext (RawD a es.toArray ep)) from I1.hok a _ ha).1
  refine ⟨hm.typeIs, fun b e => ?_, ?_⟩
  · cases e
    obtain ⟨o, ho, hx, _⟩ := id hm
    exact ⟨o, ho, hx.2.1⟩
  have hget : (s1.heap.push { cls := .type "dict_items", data := .fields #[.ref a] }).get? s1.heap.objs.size = some { cls := .type "dict_items", data := .fields #[.ref a] } := Heap.get?_push_size _ rfl
  have I2 : Inv X pins σ H1 { s1 with heap := s1.heap.push { cls := .type "dict_items", data := .fields #[.ref a] } } := I1.kept (t' := s1.toks) fun b ob q => Heap.get?_push_of_some _ q
  have hm2 : (s1.heap.push { cls := .type "dict_items", data := .fields #[.ref a] }).DictRaw a es.toArray ep := hm.at fun o e => Heap.get?_push_of_some _ e
  show wpAny _ _ (callWith cpos (.builtin "dict.items") [.ref a] [] []) _ X.xe s1
  refine method_meetsIn PySem.F.slot_dict_items PySem.F.entry_dict_items rfl (PySem.evalArgs_none ⟨rfl, hm.typeIs, PySem.F.args_dict_items_1 _, _, meets_dict_items_raw a hs, ⟨_, _, hm⟩, ?_⟩)
  refine wpAny_pyIter_items_raw (v := s1.heap.objs.size) ⟨_, hget, rfl, rfl⟩ hm2 ?_
  refine ⟨(s1.heap.push { cls := .type "dict_items", data := .fields #[.ref a] }).objs.size, [(s1.heap.push { cls := .type "dict_items", data := .fields #[.ref a] }).objs.size], _, _, H1, rfl, I2.kept (t' := s1.toks) fun b o e => Heap.get?_push_of_some _ e, turn_rawItems _ hk hv, ⟨.none, .none, ?_⟩, fun b hb => ?_, q⟩
  · have := Heap.get?_push_size (s1.heap.push { cls := .type "dict_items", data := .fields #[.ref a] }) (o := { cls := .type "dict_itemiterator", data := .fields #[.none, .bool false, .ref a, .int 0 0, .int es.toArray.size 0, .int ep 0, .none, .none] }) rfl
    simpa [IsItemIter] using this
  · have e : b = (s1.heap.push { cls := .type "dict_items", data := .fields #[.ref a] }).objs.size := by simpa using hb
    rw [e]
    exact I2.fpOk (Nat.le_refl _) (I2.hok.fresh (Nat.le_refl _))
end
end Sim
set_option maxHeartbeats 1000000
namespace Sim
open PySem PySem.Spec PyProof.Rows L2
section
variable {C : Cxt} {F : List Fn} {G : Str → Option D} {XX : Str → Str → Bool} {k : Nat} {Γ : Gam} {X : Cx} {Wx : WX} {C' : CallS} {tg : Expr}
theorem it_list {pins : List (Addr × Obj)} {σ : St} {H1 : Hp} {s1 : Shared} {a : Addr} {xs : List V} {R' : It → Hp → Prop} {E : Value → Shared → Prop} (I1 : Inv X pins σ H1 s1) (hq : SqL X.K H1 a xs) (q : R' (Itl X.K a) H1) :
    wpAny (model X.prog X.w) X.A (pyIter (.ref a)) (PIE X pins σ tg R') E s1 := by
  obtain ⟨its, rv, p, hz⟩ := I1.list hq
  refine wpAny_pyIter_list p.isList ?_
  refine ⟨s1.heap.objs.size, [s1.heap.objs.size], _, _, H1, rfl, I1.kept (t' := s1.toks) fun b o e => Heap.get?_push_of_some _ e, turn_list a _, ⟨_, Heap.get?_push_size _ rfl, rfl, rfl⟩, fun b hb => ?_, q⟩
  have e : b = s1.heap.objs.size := by simpa using hb
  subst e
  exact I1.fpOk (Nat.le_refl _) (I1.hok.fresh (Nat.le_refl _))
theorem it_tup {pins : List (Addr × Obj)} {σ : St} {H1 : Hp} {s1 : Shared} {a : Addr} {xs : List V} {R' : It → Hp → Prop} {E : Value → Shared → Prop} (I1 : Inv X pins σ H1 s1) (hq : SqT X.K H1 a xs) (q : R' (Itt X.K a) H1) :
    wpAny (model X.prog X.w) X.A (pyIter (.ref a)) (PIE X pins σ tg R') E s1 := by
  obtain ⟨its, rv, p, hz⟩ := I1.tuple hq
  refine wpAny_pyIter_tuple (show s1.heap.IsTuple a its.toArray from p) ?_
  refine ⟨s1.heap.objs.size, [s1.heap.objs.size], _, _, H1, rfl, I1.kept (t' := s1.toks) fun b o e => Heap.get?_push_of_some _ e, turn_tuple a _, ⟨_, Heap.get?_push_size _ rfl, rfl, rfl⟩, fun b hb => ?_, q⟩
  have e : b = s1.heap.objs.size := by simpa using hb
  subst e
  exact I1.fpOk (Nat.le_refl _) (I1.hok.fresh (Nat.le_refl _))
theorem walk_raw {ρ : List Addr} {H : Hp} {a : Addr} {es : List DictEntry} {ep : Nat} {kvs : List (D × D)} {vs : List V} (ha : H a = some (.ext (RawD a es.toArray ep))) (n : Fre C ρ a) (z : es.length ≤ sizeLine) (hv : Vals vs (es.map (·.key))) (q : DRs C ρ H vs (kvs.map (·.1))) : Walks C ρ H (Itq a es ep vs) (kvs.map (·.1)) where
  len := by rw [← q.length, hv.length, List.length_map]; exact z
  go := fun x i d e => by
    obtain ⟨v, h1, _⟩ := q.get e
    have := (List.getElem?_eq_some_iff.mp h1).1
    exact ⟨x.keep _ _ ha n.ro, by rw [hv.length, List.length_map] at this; exact this⟩
  yld := fun {C2 ρ2 H2 m} ce x hr {i d} e {y H3} h => by
    obtain ⟨rfl, hy⟩ := h
    obtain ⟨v, h1, h2⟩ := q.get e
    rw [h1] at hy
    cases hy
    exact ⟨Ext.refl, hr, DR.fwd ce x h2⟩
  stop := fun x i h => ⟨x.keep _ _ ha n.ro, by rw [← q.length, hv.length, List.length_map] at h; exact h⟩
theorem val_pi (g : Gd C F G XX k Γ X) {e : Expr} {se : SE} (he : PE X e (tE C Wx (evE C' G se))) : PI X tg e (tJ C X.K Wx (evI C' G (.val se))) := by
  refine ⟨fun pins s σ H R' I h => ?_⟩
  have h2 := tG.bind (C := C) (Wx := Wx) (rel := relW C) (rel' := fun ρ H J s => RJ C X.K ρ H J s) (f := evE C' G se) (g := fun e x m => match srcOf x m with | some s => .ok s m | none => .bad) (Q := R') h
  refine thn (he.run pins s σ H _ I h2) fun v s1 ⟨x, H1, I1, r1, ρ, e, w, m, hr, er, r, q1⟩ => ?_
  cases w with
  | s ns => exact q1.off
  | r i =>
    obtain ⟨a, ha, rfl⟩ := r
    simp only [srcOf] at q1
    cases hm : m[i]? with
    | none => simp only [hm] at q1; exact q1.off
    | some o =>
      cases o with
      | dct kvs => simp only [hm] at q1; exact q1.off
      | lst ds =>
        simp only [hm] at q1
        obtain ⟨a', ha', xs, hl, zz, qs⟩ := hr.at hm
        rw [ha] at ha'; cases ha'
        cases r1
        exact it_list I1 (.inl (.inl hl)) (q1 ρ _ H1 Ext.refl hr ⟨a, xs, ha, rfl, hl⟩)
  | d d =>
    have r : DR C ρ H1 x d := r
    cases d <;> first | exact q1.off | skip
    · cases r with
      | lst hl n z q =>
        cases r1
        exact it_list I1 (.inl (.inl hl)) (q1 ρ _ H1 Ext.refl hr (walk_list hl n z q))
    · cases r with
      | tup sq z q =>
        cases r1
        exact it_tup I1 (g.eK ▸ sq.sqT) (q1 ρ _ H1 Ext.refl hr (walk_tup g.eK sq z q))
    · cases r with
      | dct ha n hs z nd q =>
        cases r1
        obtain ⟨vs, hv, qv⟩ := q.kes
        exact it_raw I1 ha hs hv (q1 ρ _ H1 Ext.refl hr (walk_raw ha n z hv qv))
theorem rng1_pi (g : Gd C F G XX k Γ X) {a : Expr} {sa : SE} {p pos : Pos} (hx : isBlt Γ "range" = true) (na : noStar a = true) (ha : PE X a (tE C Wx (evE C' G sa))) : PI X tg (.Call (.Name "range" p) [a] [] pos) (tJ C X.K Wx (evI C' G (.rng1 sa))) := by
  obtain ⟨hg, hm, _, _⟩ := g.blt hx
  have P := pi_range1 (tg := tg) (p := p) (pos := pos) hg hm (pa_cons ha pa_nil (star_cons na)) (star_cons na)
  refine ⟨fun pins s σ H R' I h => P.run pins s σ H R' I ?_⟩
  refine (tG.bind (C := C) (Wx := Wx) (rel := relW C) (rel' := fun ρ H J s => RJ C X.K ρ H J s) (f := evE C' G sa) (g := fun e x m => match x with
    | .d (.int j) => if decide (-(2 ^ 62) ≤ j) && decide (j ≤ 16777216) then .ok (.vals (rangeD 0 j.toNat)) m else .bad
    | _ => .bad) (Q := R') h).mono fun x H1 => ?_
  rintro ⟨ρ, e, w, m, hr, er, r, q1⟩
  split at q1
  · rename_i j
    have r : DR C ρ H1 x (.int j) := r
    cases r
    split at q1
    · rename_i z
      simp only [Bool.and_eq_true, decide_eq_true_eq] at z
      exact ⟨j, rfl, z.1, by omega, q1 ρ _ H1 Ext.refl hr (walk_range 0 j.toNat (by omega))⟩
    · exact q1.off
  · exact q1.off
theorem rng2_pi (g : Gd C F G XX k Γ X) {a b : Expr} {sa sb : SE} {p pos : Pos} (hx : isBlt Γ "range" = true) (na : noStar a = true) (nb : noStar b = true) (ha : PE X a (tE C Wx (evE C' G sa))) (hb : PE X b (tE C Wx (evE C' G sb))) :
    PI X tg (.Call (.Name "range" p) [a, b] [] pos) (tJ C X.K Wx (evI C' G (.rng2 sa sb))) := by
  obtain ⟨hg, hm, _, _⟩ := g.blt hx
  have P := pi_range2 (tg := tg) (p := p) (pos := pos) hg hm (pa_cons ha (pa_cons hb pa_nil (star_cons nb)) (star_cons na)) (by rw [star_cons na, star_cons nb]; rfl) (star_cons nb)
  refine ⟨fun pins s σ H R' I h => P.run pins s σ H R' I ?_⟩
  refine (two_of (C := C) (Wx := Wx) (rel1 := relW C) (rel2 := relW C) (rel := fun ρ H J s => RJ C X.K ρ H J s) (fun r x => WR.ext x r) (f := evE C' G sa) (g := evE C' G sb) (h := fun x y m => match x, y with
    | .d (.int i), .d (.int j) => if decide (-(2 ^ 61) ≤ i) && decide (i < 2 ^ 61) && decide (-(2 ^ 61) ≤ j) && decide (j < 2 ^ 61) && decide (j - i ≤ 16777216) then .ok (.vals (rangeD i (j - i).toNat)) m else .bad
    | _, _ => .bad) (Q := R') h).mono fun x H1 z => z.mono fun y H2 => ?_
  rintro ⟨ρ, w1, w2, m, hr, r1, r2, q1⟩
  split at q1
  · rename_i i j
    have r1 : DR C ρ H2 x (.int i) := r1
    have r2 : DR C ρ H2 y (.int j) := r2
    cases r1; cases r2
    split at q1
    · rename_i z
      simp only [Bool.and_eq_true, decide_eq_true_eq] at z
      obtain ⟨⟨⟨⟨z1, z2⟩, z3⟩, z4⟩, z5⟩ := z
      exact ⟨i, j, rfl, ⟨by omega, by omega, by omega, by omega⟩, q1 ρ _ H2 Ext.refl hr (walk_range i (j - i).toNat (by omega))⟩
    · exact q1.off
  · exact q1.off
/-! pairs -/
theorem enumD_get : ∀ (ds : List D) (n i : Nat), (enumD n ds)[i]? = ds[i]?.map fun d => .tuple [.int ((n + i : Nat) : Int), d]
  | [], n, i => by simp [enumD]
  | d :: ds, n, 0 => by simp [enumD]
  | d :: ds, n, i + 1 => by
    rw [enumD, List.getElem?_cons_succ, enumD_get ds (n + 1) i, List.getElem?_cons_succ]
    have : n + 1 + i = n + (i + 1) := by omega
    rw [this]
theorem zipD_get : ∀ (xs ys : List D) (i : Nat) (d : D), (zipD xs ys)[i]? = some d → ∃ x y, xs[i]? = some x ∧ ys[i]? = some y ∧ d = .tuple [x, y]
  | [], _, i, d, h => by simp [zipD] at h
  | _ :: _, [], i, d, h => by simp [zipD] at h
  | x :: xs, y :: ys, 0, d, h => by simp [zipD] at h; exact ⟨x, y, rfl, rfl, h.symm⟩
  | x :: xs, y :: ys, i + 1, d, h => by
    simp only [zipD, List.getElem?_cons_succ] at h
    obtain ⟨a, b, h1, h2, h3⟩ := zipD_get xs ys i d h
    exact ⟨a, b, by simpa using h1, by simpa using h2, h3⟩
theorem zipD_len : ∀ (xs ys : List D), (zipD xs ys).length = min xs.length ys.length
  | [], _ => by simp [zipD]
  | _ :: _, [] => by simp [zipD]
  | x :: xs, y :: ys => by simp [zipD, zipD_len xs ys]
theorem enumD_len : ∀ (ds : List D) (n : Nat), (enumD n ds).length = ds.length
  | [], _ => rfl
  | d :: ds, n => by simp [enumD, enumD_len ds (n + 1)]
theorem pair_ok {ρ : List Addr} {H : Hp} {m : MH} {T : Addr} {x y : V} {a b : D} (hr : HR C ρ H m) (n : H T = none) (h1 : DR C ρ H x a) (h2 : DR C ρ H y b) :
    Ext ρ H ρ (upd H T (.tup [x, y])) ∧ HR C ρ (upd H T (.tup [x, y])) m ∧ DR C ρ (upd H T (.tup [x, y])) (.ref T) (.tuple [a, b]) :=
  ⟨Ext.upd n, hr.upd n, .tup (.inl ⟨.inl upd_same, hr.fresh n⟩) (by show 2 ≤ sizeLine; rw [sizeLine_eq]; omega) (.cons (DR.ext (Ext.upd n) _ _ h1) (.cons (DR.ext (Ext.upd n) _ _ h2) .nil))⟩
theorem walk_items {ρ : List Addr} {H : Hp} {a : Addr} {es : List DictEntry} {ep : Nat} {kvs : List (D × D)} {ks vs : List V} (ha : H a = some (.ext (RawD a es.toArray ep))) (n : Fre C ρ a) (z : es.length ≤ sizeLine) (hk : Vals ks (es.map (·.key))) (qk : DRs C ρ H ks (kvs.map (·.1))) (qv : DRs C ρ H vs (kvs.map (·.2))) : Walks C ρ H (Itqq a es ep ks vs) (kvs.map fun p => .tuple [p.1, p.2]) where
  len := by have h1 := qk.length; have h2 := hk.length; rw [List.length_map] at h1 h2 ⊢; omega
  go := fun x i d e => by
    have h1 := qk.length; have h2 := hk.length; rw [List.length_map] at h1 h2
    have h3 := (List.getElem?_eq_some_iff.mp e).1
    rw [List.length_map] at h3
    exact ⟨x.keep _ _ ha n.ro, by omega⟩
  yld := fun {C2 ρ2 H2 m} ce x hr {i d} e {y H3} h => by
    obtain ⟨T, u, v, h1, h2, rfl, hn, rfl⟩ := h
    rw [List.getElem?_map] at e
    cases e2 : kvs[i]? with
    | none => rw [e2] at e; cases e
    | some p =>
      rw [e2] at e
      cases e
      obtain ⟨u', g1, g2⟩ := qk.get (i := i) (d := p.1) (by rw [List.getElem?_map, e2]; rfl)
      obtain ⟨v', g3, g4⟩ := qv.get (i := i) (d := p.2) (by rw [List.getElem?_map, e2]; rfl)
      rw [h1] at g1; cases g1
      rw [h2] at g3; cases g3
      exact pair_ok hr hn (DR.fwd ce x g2) (DR.fwd ce x g4)
  stop := fun x i h => ⟨x.keep _ _ ha n.ro, by have h1 := qk.length; have h2 := hk.length; rw [List.length_map] at h1 h2 h; omega⟩
theorem itms_pi (g : Gd C F G XX k Γ X) {elts : List Expr} {kk : Nat} {tpos apos cpos : Pos} {o : Expr} {so : SE} (hb : attributeBase o "items" X.env (eval o X.env) = eval o X.env) (hl : (apos.endLine == cpos.line) = true) (ho : PE X o (tE C Wx (evE C' G so))) :
    PI X (.Tuple elts kk tpos) (.Call (.Attribute o "items" apos) [] [] cpos) (tJ C X.K Wx (evI C' G (.items so))) := by
  have P := items_pi (elts := elts) (kk := kk) (tpos := tpos) ho hb hl
  refine ⟨fun pins s σ H R' I h => P.run pins s σ H R' I ?_⟩
  refine (tG.bind (C := C) (Wx := Wx) (rel := relW C) (rel' := fun ρ H J s => RJ C X.K ρ H J s) (f := evE C' G so) (g := fun e x m => match x with
    | .d (.dict kvs) => .ok (.vals (kvs.map fun p => .tuple [p.1, p.2])) m
    | _ => .bad) (Q := R') h).mono fun x H1 => ?_
  rintro ⟨ρ, e, w, m, hr, er, r, q1⟩
  split at q1
  · rename_i kvs
    have r : DR C ρ H1 x (.dict kvs) := r
    cases r with
    | dct ha n hs z nd q =>
      obtain ⟨vs, hv, qv⟩ := q.vals
      obtain ⟨ks, hk, qk⟩ := q.kes
      exact ⟨_, _, _, ks, vs, rfl, ha, hs, hk, hv, q1 ρ _ H1 Ext.refl hr (walk_items ha n z hk qk qv)⟩
  · exact q1.off
theorem walk_enum {K : PySem.W.Frag} {ρ : List Addr} {H : Hp} {a : Addr} {xs : List V} {ds : List D} (ha : H a = some (.lst xs)) (n : Fre C ρ a) (z : xs.length ≤ sizeLine) (q : DRs C ρ H xs ds) : Walks C ρ H (Ite K a) (enumD 0 ds) where
  len := by rw [enumD_len, ← q.length]; exact z
  go := fun x i d e => by
    rw [enumD_get] at e
    cases e2 : ds[i]? with
    | none => rw [e2] at e; cases e
    | some d' =>
      obtain ⟨v, h1, _⟩ := q.get e2
      exact ⟨xs, v, .inl (.inl (x.keep _ _ ha n.ro)), h1⟩
  yld := fun {C2 ρ2 H2 m} ce x hr {i d} e {y H3} h => by
    obtain ⟨T, u, rfl, hn, rfl, hy⟩ := h
    rw [enumD_get] at e
    cases e2 : ds[i]? with
    | none => rw [e2] at e; cases e
    | some d' =>
      rw [e2] at e
      cases e
      obtain ⟨v, h1, h2⟩ := q.get e2
      have := hy xs (.inl (.inl (x.keep _ _ ha n.ro)))
      rw [h1] at this
      cases this
      rw [Nat.zero_add]
      exact pair_ok hr hn (.int _) (DR.fwd ce x h2)
  stop := fun x i h => ⟨xs, .inl (.inl (x.keep _ _ ha n.ro)), by rw [q.length]; rw [enumD_len] at h; exact h⟩
theorem walk_zip {K : PySem.W.Frag} {ρ : List Addr} {H : Hp} {a b : Addr} {xs ys : List V} {ds es : List D} (ha : H a = some (.lst xs)) (n : Fre C ρ a) (z : xs.length ≤ sizeLine) (q : DRs C ρ H xs ds)
    (hb : H b = some (.lst ys)) (nb : Fre C ρ b) (qb : DRs C ρ H ys es) : Walks C ρ H (Itz K a b) (zipD ds es) where
  len := by rw [zipD_len]; have := q.length; omega
  go := fun x i d e => by
    obtain ⟨d1, d2, e1, e2, _⟩ := zipD_get _ _ _ _ e
    obtain ⟨v, h1, _⟩ := q.get e1
    obtain ⟨u, h2, _⟩ := qb.get e2
    exact ⟨xs, ys, v, u, .inl (.inl (x.keep _ _ ha n.ro)), .inl (.inl (x.keep _ _ hb nb.ro)), h1, h2⟩
  yld := fun {C2 ρ2 H2 m} ce x hr {i d} e {y H3} h => by
    obtain ⟨T, u, v, rfl, hn, rfl, hy1, hy2⟩ := h
    obtain ⟨d1, d2, e1, e2, rfl⟩ := zipD_get _ _ _ _ e
    obtain ⟨v1, h1, g1⟩ := q.get e1
    obtain ⟨v2, h2, g2⟩ := qb.get e2
    have t1 := hy1 xs (.inl (.inl (x.keep _ _ ha n.ro)))
    have t2 := hy2 ys (.inl (.inl (x.keep _ _ hb nb.ro)))
    rw [h1] at t1; cases t1
    rw [h2] at t2; cases t2
    exact pair_ok hr hn (DR.fwd ce x g1) (DR.fwd ce x g2)
  stop := fun x i h => ⟨xs, ys, .inl (.inl (x.keep _ _ ha n.ro)), .inl (.inl (x.keep _ _ hb nb.ro)), by rw [q.length, qb.length]; rw [zipD_len] at h; omega⟩
theorem walk_enumT {K : PySem.W.Frag} (eK : K = C.K) {ρ : List Addr} {H : Hp} {a : Addr} {xs : List V} {ds : List D} (ha : SeqA (.tup xs) "tuple" C ρ H a xs) (z : xs.length ≤ sizeLine) (q : DRs C ρ H xs ds) : Walks C ρ H (IteT K a) (enumD 0 ds) where
  len := by rw [enumD_len, ← q.length]; exact z
  go := fun x i d e => by
    rw [enumD_get] at e
    cases e2 : ds[i]? with
    | none => rw [e2] at e; cases e
    | some d' =>
      obtain ⟨v, h1, _⟩ := q.get e2
      exact ⟨xs, v, eK ▸ (ha.ext x).sqT, h1⟩
  yld := fun {C2 ρ2 H2 m} ce x hr {i d} e {y H3} h => by
    obtain ⟨T, u, rfl, hn, rfl, hy⟩ := h
    rw [enumD_get] at e
    cases e2 : ds[i]? with
    | none => rw [e2] at e; cases e
    | some d' =>
      rw [e2] at e
      cases e
      obtain ⟨v, h1, h2⟩ := q.get e2
      have := hy xs (eK ▸ (ha.ext x).sqT)
      rw [h1] at this
      cases this
      rw [Nat.zero_add]
      exact pair_ok hr hn (.int _) (DR.fwd ce x h2)
  stop := fun x i h => ⟨xs, eK ▸ (ha.ext x).sqT, by rw [q.length]; rw [enumD_len] at h; exact h⟩
theorem enum_pi (g : Gd C F G XX k Γ X) {elts : List Expr} {kk : Nat} {tpos : Pos} {a : Expr} {sa : SE} {p pos : Pos} (hx : isBlt Γ "enumerate" = true) (na : noStar a = true) (ha : PE X a (tE C Wx (evE C' G sa))) :
    PI X (.Tuple elts kk tpos) (.Call (.Name "enumerate" p) [a] [] pos) (tJ C X.K Wx (evI C' G (.enum sa))) := by
  obtain ⟨hg, hm, _, _⟩ := g.blt hx
  have P := pi_enumA (elts := elts) (kk := kk) (tpos := tpos) (p := p) (pos := pos) hg hm (pa_cons ha pa_nil (star_cons na)) (star_cons na)
  refine ⟨fun pins s σ H R' I h => P.run pins s σ H R' I ?_⟩
  refine (tG.bind (C := C) (Wx := Wx) (rel := relW C) (rel' := fun ρ H J s => RJ C X.K ρ H J s) (f := evE C' G sa) (g := fun e x m => match x with
    | .d (.list ds) => .ok (.vals (enumD 0 ds)) m
    | .d (.tuple ds) => .ok (.vals (enumD 0 ds)) m
    | _ => .bad) (Q := R') h).mono fun x H1 => ?_
  rintro ⟨ρ, e, w, m, hr, er, r, q1⟩
  split at q1
  · rename_i ds
    have r : DR C ρ H1 x (.list ds) := r
    cases r with
    | lst hl n z q => exact ⟨_, _, rfl, .inl ⟨.inl (.inl hl), q1 ρ _ H1 Ext.refl hr (walk_enum hl n z q)⟩⟩
  · rename_i ds
    have r : DR C ρ H1 x (.tuple ds) := r
    cases r with
    | tup sq z q => exact ⟨_, _, rfl, .inr ⟨g.eK ▸ sq.sqT, q1 ρ _ H1 Ext.refl hr (walk_enumT g.eK sq z q)⟩⟩
  · exact q1.off
theorem zip_pi (g : Gd C F G XX k Γ X) {elts : List Expr} {kk : Nat} {tpos : Pos} {a b : Expr} {sa sb : SE} {p pos : Pos} (hx : isBlt Γ "zip" = true) (na : noStar a = true) (nb : noStar b = true) (ha : PE X a (tE C Wx (evE C' G sa))) (hb : PE X b (tE C Wx (evE C' G sb))) :
    PI X (.Tuple elts kk tpos) (.Call (.Name "zip" p) [a, b] [] pos) (tJ C X.K Wx (evI C' G (.zip sa sb))) := by
  obtain ⟨hg, hm, _, _⟩ := g.blt hx
  have P := pi_zip (elts := elts) (kk := kk) (tpos := tpos) (p := p) (pos := pos) hg hm (pa_cons ha (pa_cons hb pa_nil (star_cons nb)) (star_cons na)) (star_cons na) (stars_any (es := [b]) (by simp [noStars, nb]))
  refine ⟨fun pins s σ H R' I h => P.run pins s σ H R' I ?_⟩
  refine (two_of (C := C) (Wx := Wx) (rel1 := relW C) (rel2 := relW C) (rel := fun ρ H J s => RJ C X.K ρ H J s) (fun r x => WR.ext x r) (f := evE C' G sa) (g := evE C' G sb) (h := fun x y m => match x, y with
    | .d (.list xs), .d (.list ys) => .ok (.vals (zipD xs ys)) m
    | _, _ => .bad) (Q := R') h).mono fun x H1 z => z.mono fun y H2 => ?_
  rintro ⟨ρ, w1, w2, m, hr, r1, r2, q1⟩
  split at q1
  · rename_i ds es
    have r1 : DR C ρ H2 x (.list ds) := r1
    have r2 : DR C ρ H2 y (.list es) := r2
    cases r1 with
    | lst hl nn zz qq =>
      cases r2 with
      | lst hl2 n2 z2 q2 => exact ⟨_, _, _, _, rfl, .inl (.inl hl), .inl (.inl hl2), q1 ρ _ H2 Ext.refl hr (walk_zip hl nn zz qq hl2 n2 q2)⟩
  · exact q1.off
end
end Sim
set_option maxHeartbeats 1000000
namespace Sim
open PySem PySem.Spec PyProof.Rows L2
/-! ### a thing in the making -/
section
variable {C C' : Cxt} {ρ ρ' : List Addr} {H H' : Hp}
/-- the context with one more thing in the making -/
abbrev Cxt.mk1 (C : Cxt) (p : Addr) : Cxt := { C with hid := p :: C.hid }
section
variable {p : Addr} {o : HO} {m : MH}
theorem hide_k (n : H p = none) : ∀ a u, H a = some u → Fre C ρ a → (L2.upd H p o) a = some u ∧ Fre (C.mk1 p) ρ a := fun a u e f =>
  have ne := ne_of_none e n
  ⟨by rw [upd_ne ne]; exact e, f.ro, fun z => by
    rcases List.mem_cons.mp z with z | z
    · exact ne z
    · exact f.hi z⟩
theorem poke_k : ∀ a u, H a = some u → Fre (C.mk1 p) ρ a → (L2.upd H p o) a = some u ∧ Fre (C.mk1 p) ρ a := fun a u e f =>
  ⟨by rw [upd_ne (fun z => f.hi (by rw [z]; exact List.mem_cons_self))]; exact e, f⟩
theorem unhide_k : ∀ a u, H a = some u → Fre (C.mk1 p) ρ a → H a = some u ∧ Fre C ρ a := fun a u e f => ⟨e, f.ro, fun z => f.hi (List.mem_cons_of_mem _ z)⟩
theorem HR.hide (h : HR C ρ H m) (n : H p = none) : HR (C.mk1 p) ρ (L2.upd H p o) m := by
  refine ⟨h.len, h.nd, fun a ha => ?_, fun i a u e1 e2 => ?_⟩
  · rcases List.mem_cons.mp ha with rfl | ha
    · exact ⟨(h.fresh n).ro, o, upd_same⟩
    · obtain ⟨u, e⟩ := (h.hid a ha).2
      exact ⟨(h.hid a ha).1, u, by rw [upd_ne (ne_of_none e n)]; exact e⟩
  · exact OR.conv (C := C) (C' := C.mk1 p) (H' := L2.upd H p o) rfl rfl (hide_k n) (h.obj i a u e1 e2) fun q e => by rw [upd_ne (ne_of_none e n)]; exact e
theorem HR.poke (h : HR (C.mk1 p) ρ H m) : HR (C.mk1 p) ρ (L2.upd H p o) m := by
  have np := (h.hid p List.mem_cons_self).1
  refine ⟨h.len, h.nd, fun a ha => ⟨(h.hid a ha).1, ?_⟩, fun i a u e1 e2 => ?_⟩
  · by_cases z : a = p
    · subst z; exact ⟨o, upd_same⟩
    · obtain ⟨u, e⟩ := (h.hid a ha).2
      exact ⟨u, by rw [upd_ne z]; exact e⟩
  · exact OR.conv (C := C.mk1 p) (C' := C.mk1 p) (H' := L2.upd H p o) rfl rfl poke_k (h.obj i a u e1 e2) fun q e => by
      rw [upd_ne (fun z => np (by rw [← z]; exact List.mem_of_getElem? e1))]; exact e
theorem HR.unhide (h : HR (C.mk1 p) ρ H m) : HR C ρ H m :=
  ⟨h.len, h.nd, fun a ha => h.hid a (List.mem_cons_of_mem _ ha), fun i a u e1 e2 => OR.conv (C := C.mk1 p) (C' := C) (H' := H) rfl rfl unhide_k (h.obj i a u e1 e2) fun _ e => e⟩
/-- the thing in the making, a list, is done: data, or a place -/
theorem made_ok {E : XK} {ρ0 : List Addr} {H0 : Hp} {xs : List V} {ds : List D} {mu : Bool} {Q : VK} (h : HR (C.mk1 p) ρ H m) (x : Ext ρ0 H0 ρ H) (n0 : H0 p = none) (n : H p = some (.lst xs)) (z : xs.length ≤ sizeLine) (q : DRs (C.mk1 p) ρ H xs ds)
    (hq : RG C (relW C) E (newL mu ds m) ρ0 H0 Q) (np : p ∉ C.hid) : Q (.ref p) H := by
  have nr := (h.hid p List.mem_cons_self).1
  unfold newL at hq
  cases mu with
  | false =>
    rw [if_neg Bool.false_ne_true] at hq
    exact hq ρ _ _ x h.unhide (.lst n ⟨nr, np⟩ z (DRs.conv (C := C.mk1 p) (C' := C) rfl rfl unhide_k _ _ q))
  | true =>
    rw [if_pos rfl] at hq
    have kk : ∀ a u, H a = some u → Fre (C.mk1 p) ρ a → H a = some u ∧ Fre C (ρ ++ [p]) a := fun a u e f => ⟨e, fun z => by
      rcases List.mem_append.mp z with z | z
      · exact f.ro z
      · exact f.hi (by rw [show a = p by simpa using z]; exact List.mem_cons_self), fun z => f.hi (List.mem_cons_of_mem _ z)⟩
    refine hq (ρ ++ [p]) _ _ ⟨?_, fun a ha hn => ?_, fun a u e f => x.keep a u e f, x.there⟩ ⟨by simp [h.len], ?_, fun a ha => ?_, fun i a u e1 e2 => ?_⟩ ⟨p, ?_, rfl⟩
    · obtain ⟨l, rfl⟩ := x.pre
      exact ⟨l ++ [p], by simp⟩
    · rcases List.mem_append.mp ha with ha | ha
      · exact x.new a ha hn
      · rw [show a = p by simpa using ha]; exact n0
    · rw [List.nodup_append]
      exact ⟨h.nd, by simp, fun a ha b hb => by
        have : b = p := by simpa using hb
        rw [this]; exact fun z => nr (z ▸ ha)⟩
    · refine ⟨fun z => ?_, (h.hid a (List.mem_cons_of_mem _ ha)).2⟩
      rcases List.mem_append.mp z with z | z
      · exact (h.hid a (List.mem_cons_of_mem _ ha)).1 z
      · exact np (by rw [← show a = p by simpa using z]; exact ha)
    · by_cases hi : i < ρ.length
      · rw [List.getElem?_append_left hi] at e1
        rw [List.getElem?_append_left (by rw [← h.len]; exact hi)] at e2
        exact OR.conv (C := C.mk1 p) (C' := C) (H' := H) rfl rfl kk (h.obj i a u e1 e2) fun _ e => e
      · have hi2 : i = ρ.length := by
          have := (List.getElem?_eq_some_iff.mp e1).1
          simp at this; omega
        subst hi2
        simp at e1
        rw [h.len] at e2
        simp at e2
        subst e1; subst e2
        exact ⟨xs, n, z, DRs.conv (C := C.mk1 p) (C' := C) rfl rfl kk _ _ q⟩
    · rw [← h.len]; simp
end
end

/-! ### targets -/
section
variable {C : Cxt} {F : List Fn} {G : Str → Option D} {XX : Str → Str → Bool} {k : Nat} {Γ : Gam} {X : Cx} {Wx : WX} {C' : CallS}
/-- a target takes a piece of data -/
def gT (C : Cxt) (tg : List Nat) (tt : Bool) : TG := fun v σ H Q => ∃ ρ e d e', ER C ρ H σ e ∧ DR C ρ H v d ∧ asgTg tg tt d e = some e' ∧ ∀ σ', ER C ρ H σ' e' → (∀ j, j ∉ tg → σ'[j]? = σ[j]?) → Q σ' H
theorem name_pg {x : Str} {i : Nat} {p : Pos} (nd : X.N.Nodup) (hi : X.N[i]? = some x) (hx : Loc X.env.scope x) (hf : X.fn x = true ∨ X.env.scope.names.lookup x = some .local) : PG X (.Name x p) (gT C [i] false) := by
  refine ⟨fun pins s σ H v u Q I r h => (pg_name (pos := p) nd hi hx hf).run pins s σ H v u Q I r ?_⟩
  obtain ⟨ρ, e, d, e', er, dr, h1, h2⟩ := h
  simp only [asgTg] at h1
  cases h1
  exact h2 _ (ER.set (w := .d d) dr i er) fun j hj => by rw [List.getElem?_set_ne (fun z => hj (by rw [z]; exact List.mem_cons_self))]
def gsOf : List Nat → TGs
  | [] => gNil
  | i :: is => gCons (gName i) (gsOf is)
theorem gsOf_ok {ρ : List Addr} {H : Hp} {Q : St → Hp → Prop} : ∀ {is : List Nat} {xs : List V} {ds : List D} {σ : St} {e : Env}, xs.length = is.length → DRs C ρ H xs ds → ER C ρ H σ e →
    (∀ σ', ER C ρ H σ' ((is.zip ds).foldl (fun e p => e.set p.1 (some (.d p.2))) e) → (∀ j, j ∉ is → σ'[j]? = σ[j]?) → Q σ' H) → gsOf is xs σ H Q
  | [], [], _, σ, e, _, .nil, er, h => ⟨rfl, h σ er fun _ _ => rfl⟩
  | i :: is, x :: xs, _, σ, e, hl, .cons q1 q2, er, h => ⟨x, xs, rfl, gsOf_ok (by simpa using hl) q2 (ER.set (w := .d _) q1 i er) fun σ' h' hj => h σ' h' fun j hn => by
    rw [hj j (fun z => hn (List.mem_cons_of_mem _ z)), List.getElem?_set_ne (fun z => hn (by rw [z]; exact List.mem_cons_self))]⟩
inductive Slots (X : Cx) : List Expr → List Nat → Prop
  | nil : Slots X [] []
  | cons {x : Str} {p : Pos} {i : Nat} {es : List Expr} {is : List Nat} : X.N[i]? = some x → Loc X.env.scope x → (X.fn x = true ∨ X.env.scope.names.lookup x = some .local) → Slots X es is → Slots X (.Name x p :: es) (i :: is)
theorem slots_pgs (nd : X.N.Nodup) : ∀ {es : List Expr} {is : List Nat}, Slots X es is → PGs X es (gsOf is)
  | _, _, .nil => pgs_nil
  | _, _, .cons h1 h2 h3 r => pgs_cons (pg_name nd h1 h2 h3) (slots_pgs nd r)
theorem slots_len : ∀ {es : List Expr} {is : List Nat}, Slots X es is → (assignEach es X.env).length = is.length ∧ (assignEach es X.env).findIdx? (·.1) = none
  | _, _, .nil => ⟨rfl, rfl⟩
  | _, _, .cons (x := x) (p := p) (es := es) h1 h2 h3 r => by
    obtain ⟨a, b⟩ := slots_len r
    have e : assignEach (.Name x p :: es) X.env = (false, assign (.Name x p) X.env) :: assignEach es X.env := rfl
    rw [e]
    refine ⟨by simp [a], ?_⟩
    rw [List.findIdx?_cons, b]
    rfl
theorem tup_pg (eK : X.K = C.K) (nd : X.N.Nodup) (hc : X.calm = true) {es : List Expr} {is : List Nat} {j : Nat} {p : Pos} (h : Slots X es is) : PG X (.Tuple es j p) (gT C is true) := by
  obtain ⟨l1, l2⟩ := slots_len h
  refine ⟨fun pins s σ H v u Q I r q => (pg_tup (pos := p) (k := j) (n := is.length) hc (slots_pgs nd h) l1 l2).run pins s σ H v u Q I r ?_⟩
  obtain ⟨ρ, e, d, e', er, dr, h1, h2⟩ := q
  unfold asgTg at h1
  rw [if_pos rfl] at h1
  split at h1
  · rename_i ds
    split at h1
    · rename_i hl
      cases h1
      cases dr with
      | @tup a xs _ sq z qa =>
        have hx : xs.length = is.length := by rw [qa.length]; exact hl
        exact ⟨a, xs, rfl, eK ▸ sq.sqT, hx, gsOf_ok hx qa er h2⟩
    · cases h1
  · cases h1
end
end Sim
set_option maxHeartbeats 1000000
namespace Sim
open PySem PySem.Spec PyProof.Rows L2
theorem wipe_get (σ : St) : ∀ (vs : List Nat) (i : Nat), (wipe σ vs)[i]? = if i ∈ vs then (σ[i]?).map (fun _ => none) else σ[i]?
  | [], i => by simp [wipe]
  | v :: vs, i => by
    unfold wipe
    rw [List.getElem?_set, wipe_length, wipe_get σ vs i]
    by_cases h : v = i
    · subst h
      by_cases hl : v < σ.length
      · simp [hl]
      · have : σ[v]? = none := List.getElem?_eq_none (by omega)
        simp [hl, this]
    · rw [if_neg h]
      have : (i ∈ v :: vs) ↔ i ∈ vs := by
        rw [List.mem_cons]
        exact ⟨fun z => z.elim (fun q => absurd q.symm h) id, .inr⟩
      simp [this]
theorem wipe_same {σ σ' : St} {vs is : List Nat} (hs : ∀ i ∈ is, i ∈ vs) (h : ∀ j, j ∉ is → σ'[j]? = (wipe σ vs)[j]?) (hl : σ'.length = (wipe σ vs).length) : wipe σ' vs = wipe σ vs := by
  refine List.ext_getElem? fun i => ?_
  rw [wipe_get, wipe_get]
  rw [wipe_length] at hl
  by_cases hi : i ∈ vs
  · rw [if_pos hi, if_pos hi]
    by_cases z : i < σ.length
    · rw [List.getElem?_eq_getElem z, List.getElem?_eq_getElem (by rw [hl]; exact z)]; rfl
    · rw [List.getElem?_eq_none (by omega), List.getElem?_eq_none (by omega)]
  · rw [if_neg hi, if_neg hi, h i (fun z => hi (hs i z)), wipe_get, if_neg hi]
section
variable {C : Cxt} {ρ ρ' : List Addr} {H H' : Hp}
theorem ER.wipe {σ : St} {e : Env} (h : ER C ρ H σ e) : ∀ vs : List Nat, ER C ρ H (wipe σ vs) (wipeE e vs)
  | [] => h
  | v :: vs => ER.wipe1 v (ER.wipe h vs)
theorem ER.fwd {C2 : Cxt} {ρ2 : List Addr} {H2 : Hp} {σ : St} {e : Env} (c : Cext C C2 H) (x : Ext ρ H ρ2 H2) (h : ER C ρ H σ e) : ER C2 ρ2 H2 σ e := ER.conv c.eK c.ew (fun _ _ => x.pget) (c.keep x) h
/-- the base does not know p -/
theorem Ext.poke {p : Addr} {o : HO} (x : Ext ρ H ρ' H') (n : H p = none) : Ext ρ H ρ' (L2.upd H' p o) :=
  ⟨x.pre, x.new, fun a u e f => by rw [upd_ne (ne_of_none e n)]; exact x.keep a u e f, fun a u e => by rw [upd_ne (ne_of_none e n)]; exact x.there a u e⟩
theorem mk1_cext {p : Addr} (n : H p = none) : Cext C (C.mk1 p) H := ⟨rfl, rfl, fun a ha => by
  rcases List.mem_cons.mp ha with rfl | ha
  · exact .inr n
  · exact .inl ha⟩
/-- what is in the making is kept by an Ext -/
theorem Ext.made {p : Addr} {u : HO} {m : MH} (x : Ext ρ H ρ' H') (h : HR (C.mk1 p) ρ H m) (e : H p = some u) : H' p = some u := x.keep _ _ e (h.hid p List.mem_cons_self).1
end

section
variable {C : Cxt} {F : List Fn} {G : Str → Option D} {XX : Str → Str → Bool} {k : Nat} {Γ : Gam} {X : Cx} {Wx : WX} {C' : CallS}
abbrev Cxt.w0 (C : Cxt) (h : List Addr) : Cxt := { C with hid := h }
/-- no exception is wished for -/
abbrev Wf : WX := fun _ _ _ _ => False
theorem PE.any {e : Expr} {t : List Addr → TE} (h : ∀ l, PE X e (t l)) : PE X e (fun σ H Q => ∃ l, t l σ H Q) := ⟨fun pins s σ H Q I ⟨l, q⟩ => (h l).run pins s σ H Q I q⟩
theorem PTs.any {es : List Expr} {t : List Addr → TT} (h : ∀ l, PTs X es (t l)) : PTs X es (fun σ H Q => ∃ l, t l σ H Q) := ⟨fun pins s σ H Q I ⟨l, q⟩ => (h l).run pins s σ H Q I q⟩
theorem PG.any {e : Expr} {t : List Addr → TG} (h : ∀ l, PG X e (t l)) : PG X e (fun v σ H Q => ∃ l, t l v σ H Q) := ⟨fun pins s σ H v u Q I r ⟨l, q⟩ => (h l).run pins s σ H v u Q I r q⟩
abbrev xT (C : Cxt) (C' : CallS) (G : Str → Option D) (cond : SE) : TT := fun σ H Q => ∃ l, tT (C.w0 l) Wf (fun e m => condOf cond m (evT C' G cond e m)) σ H Q
abbrev xE (C : Cxt) (C' : CallS) (G : Str → Option D) (se : SE) : TE := fun σ H Q => ∃ l, tE (C.w0 l) Wf (evE C' G se) σ H Q
abbrev xG (C : Cxt) (is : List Nat) (tt : Bool) : TG := fun v σ H Q => ∃ l, gT (C.w0 l) is tt v σ H Q
theorem comp_rd {own : List (Str × Nat)} {se cond : SE} {src : SI} {is : List Nat} {tt mu : Bool} {σ : St} {H : Hp} {Q : VK} (hown : ∀ i ∈ is, i ∈ own.map (·.2))
    (q : tE C Wx (evE C' G (.comp mu se is tt src cond (own.map (·.2)))) σ H Q) : tLc (tJ C X.K Wx (evI C' G src)) (xG C is tt) (xT C C' G cond) (xE C C' G se) (own.map (·.2)) σ H Q := by
  obtain ⟨ρ, e, m, hr, er, q⟩ := q
  refine ⟨ρ, e, m, hr, er, (RG.bind (rel := fun ρ H J s => RJ C X.K ρ H J s) q).mono fun J H1 => ?_⟩
  rintro ⟨ρ1, sr, m1, _, x1, hr1, rj, q1⟩ D nD
  have er1 := er.ext x1
  have np : D ∉ C.hid := (hr1.fresh nD).hi
  generalize hf : compF is tt (own.map (·.2)) e (fun e' m => condOf cond m (evT C' G cond e' m)) (evE C' G se) = f at q1
  -- one turn
  have turn : ∀ {ρ2 : List Addr} {H2 H3 : Hp} {m2 : MH} {x : V} {d : Sim.D} {xs : List V} {acc : List Sim.D} {i : Nat} {rest : List Sim.D → MH → R (List Sim.D)} (Nx : Hp → Prop),
      Ext ρ1 H1 ρ2 H2 → Ext ρ2 H2 ρ2 H3 → HR (C.mk1 D) ρ2 H3 m2 → DR (C.mk1 D) ρ2 H3 x d → H3 D = some (.lst xs) → xs.length ≤ i → i < sizeLine → DRs (C.mk1 D) ρ2 H3 xs acc →
      RG C (relW C) (WE Wx σ) (((f d m2).bind fun r m' => rest (match r with | some y => acc ++ [y] | none => acc) m').bind fun ys m => newL mu ys m) ρ1 H1 Q →
      (∀ ρ4 H4 m4 xs' acc', Ext ρ1 H1 ρ4 H4 → HR (C.mk1 D) ρ4 H4 m4 → H4 D = some (.lst xs') → xs'.length ≤ i + 1 → DRs (C.mk1 D) ρ4 H4 xs' acc' → RG C (relW C) (WE Wx σ) ((rest acc' m4).bind fun ys m => newL mu ys m) ρ1 H1 Q → Nx H4) →
      ∃ l, gT (C.w0 l) is tt x (wipe σ (own.map (·.2))) H3 fun σ2 H4 => wipe σ2 (own.map (·.2)) = wipe σ (own.map (·.2)) ∧
        ∃ l, tT (C.w0 l) Wf (fun e m => condOf cond m (evT C' G cond e m)) σ2 H4 fun b H5 => if b = true then ∃ l, tE (C.w0 l) Wf (evE C' G se) σ2 H5 fun y H6 => ∃ acc, H6 D = some (.lst acc) ∧ acc.length < sizeLine ∧ Nx (upd H6 D (.lst (acc ++ [y]))) else Nx H5 := by
    intro ρ2 H2 H3 m2 x d xs acc i rest Nx e12 e23 hr3 dx hD hxl hil qa q2 next
    have e13 := e12.trans e23
    subst hf
    unfold compF at q2
    cases ha : asgTg is tt d (wipeE e (own.map (·.2))) with
    | none => simp only [ha, R.bind_bad] at q2; exact q2.off
    | some e' =>
      simp only [ha] at q2
      have erw := (er1.fwd (mk1_cext nD) e13).wipe (own.map (·.2))
      refine ⟨D :: C.hid, ρ2, _, d, e', erw, dx, ha, fun σ2 er2 hj => ⟨?_, ?_⟩⟩
      · refine wipe_same hown hj ?_
        have a := er2.length
        have b := erw.length
        rw [a, b]
        unfold asgTg at ha
        split at ha
        · split at ha
          · split at ha
            · cases ha
              have : ∀ (l : List (Nat × Sim.D)) (e : Env), (l.foldl (fun e p => e.set p.1 (some (.d p.2))) e).length = e.length := by
                intro l
                induction l with
                | nil => intro e; rfl
                | cons p l ih => intro e; rw [List.foldl_cons, ih, List.length_set]
              exact this _ _
            · cases ha
          · cases ha
        · split at ha
          · cases ha; rw [List.length_set]
          · cases ha
      · refine ⟨D :: C.hid, ρ2, e', m2, hr3, er2, ?_⟩
        cases hc : condOf cond m2 (evT C' G cond e' m2) with
        | bad => simp only [hc, R.nox_bad, R.bind_bad] at q2; exact q2.off
        | exc c fs m3 => simp only [hc, R.nox, R.bind_bad] at q2; exact q2.off
        | ok b m3 =>
          simp only [hc, R.nox_ok, R.bind_ok] at q2
          show RG _ _ _ (condOf cond m2 (evT C' G cond e' m2)) _ _ _
          rw [hc]
          intro ρ3 b' H5 x35 hr5 eb
          subst eb
          have hD5 := x35.made hr3 hD
          cases b' with
          | false =>
            rw [if_neg Bool.false_ne_true]
            rw [if_neg Bool.false_ne_true, R.bind_ok] at q2
            exact next ρ3 H5 m3 xs acc (e13.trans x35) hr5 hD5 (by omega) (DRs.ext x35 _ _ qa) q2
          | true =>
            rw [if_pos rfl]
            rw [if_pos rfl] at q2
            refine ⟨D :: C.hid, ρ3, e', m3, hr5, er2.ext x35, ?_⟩
            cases hv : evE C' G se e' m3 with
            | bad => simp only [hv, R.nox_bad, R.bind_bad] at q2; exact q2.off
            | exc c fs m4 => simp only [hv, R.nox, R.bind_bad] at q2; exact q2.off
            | ok w m4 =>
              simp only [hv, R.nox_ok, R.bind_ok] at q2
              intro ρ4 y H6 x56 hr6 ry
              cases w with
              | r j => simp only [R.bind_bad] at q2; exact q2.off
              | s j => simp only [R.bind_bad] at q2; exact q2.off
              | d y' =>
                simp only [R.bind_ok] at q2
                have hD6 := x56.made hr5 hD5
                have ry : DR (C.mk1 D) ρ4 H6 y y' := ry
                have k6 := poke_k (C := C) (ρ := ρ4) (H := H6) (p := D) (o := .lst (xs ++ [y]))
                refine ⟨xs, hD6, by omega, next ρ4 _ m4 (xs ++ [y]) (acc ++ [y']) (((e13.trans x35).trans x56).poke nD) hr6.poke upd_same (by rw [List.length_append, List.length_singleton]; omega) ?_ q2⟩
                exact (DRs.conv (C := C.mk1 D) (C' := C.mk1 D) rfl rfl k6 _ _ (DRs.ext x56 _ _ (DRs.ext x35 _ _ qa))).append (.cons (DR.conv (C := C.mk1 D) (C' := C.mk1 D) rfl rfl k6 _ _ ry) .nil)
  cases sr with
  | vals ds =>
    have wk : Walks C ρ1 H1 J ds := rj
    refine ⟨fun i n H2 => n = ds.length - i ∧ i ≤ ds.length ∧ ∃ ρ2 m2 xs acc, Ext ρ1 H1 ρ2 H2 ∧ HR (C.mk1 D) ρ2 H2 m2 ∧ H2 D = some (.lst xs) ∧ xs.length ≤ i ∧ DRs (C.mk1 D) ρ2 H2 xs acc ∧
      RG C (relW C) (WE Wx σ) ((compV f (ds.drop i) acc m2).bind fun ys m => newL mu ys m) ρ1 H1 Q, ⟨ds.length, by simp, Nat.zero_le _, ρ1, m1, [], [], Ext.upd nD, hr1.hide nD, upd_same, Nat.le_refl _, .nil, q1⟩, ?_⟩
    rintro i n H2 ⟨rfl, hi, ρ2, m2, xs, acc, x2, hr2, hD, hxl, qa, q2⟩
    by_cases hlt : i < ds.length
    · have hd : ds[i]? = some ds[i] := List.getElem?_eq_getElem hlt
      refine .inr ⟨wk.go x2 hd, fun H4 => i + 1 ≤ ds.length ∧ ∃ ρ2 m2 xs acc, Ext ρ1 H1 ρ2 H4 ∧ HR (C.mk1 D) ρ2 H4 m2 ∧ H4 D = some (.lst xs) ∧ xs.length ≤ i + 1 ∧ DRs (C.mk1 D) ρ2 H4 xs acc ∧
        RG C (relW C) (WE Wx σ) ((compV f (ds.drop (i + 1)) acc m2).bind fun ys m => newL mu ys m) ρ1 H1 Q, fun H4 h4 => ⟨ds.length - (i + 1), by omega, rfl, h4⟩, fun x H3 hy => ?_⟩
      obtain ⟨e23, hr3, dx⟩ := wk.yld (mk1_cext nD) x2 hr2 hd hy
      rw [List.drop_eq_getElem_cons hlt] at q2
      have q2 : RG C (relW C) (WE Wx σ) (((f ds[i] m2).bind fun r m' => compV f (ds.drop (i + 1)) (match r with | some y => acc ++ [y] | none => acc) m').bind fun ys m => newL mu ys m) ρ1 H1 Q := q2
      exact turn (rest := fun a m => compV f (ds.drop (i + 1)) a m) _ x2 e23 hr3 dx (e23.made hr2 hD) hxl (Nat.lt_of_lt_of_le hlt wk.len) (DRs.ext e23 _ _ qa) q2
        fun ρ4 H4 m4 xs' acc' a1 a2 a3 a4 a5 a6 => ⟨hlt, ρ4, m4, xs', acc', a1, a2, a3, a4, a5, a6⟩
    · have e : i = ds.length := by omega
      subst e
      rw [List.drop_length] at q2
      exact .inl ⟨wk.stop x2 (Nat.le_refl _), made_ok hr2 x2 nD hD (Nat.le_trans hxl wk.len) qa (by simpa [compV] using q2) np⟩
  | dyn p =>
    obtain ⟨a, xs0, hpa, rfl, hl0⟩ := rj
    refine ⟨fun i n H2 => ∃ ρ2 m2 xs acc, Ext ρ1 H1 ρ2 H2 ∧ HR (C.mk1 D) ρ2 H2 m2 ∧ H2 D = some (.lst xs) ∧ xs.length ≤ i ∧ xs.length ≤ sizeLine ∧ DRs (C.mk1 D) ρ2 H2 xs acc ∧
      RG C (relW C) (WE Wx σ) ((compP f p n i acc m2).bind fun ys m => newL mu ys m) ρ1 H1 Q, ⟨lenAt m1 p, ρ1, m1, [], [], Ext.upd nD, hr1.hide nD, upd_same, Nat.le_refl _, Nat.zero_le _, .nil, q1⟩, ?_⟩
    rintro i n H2 ⟨ρ2, m2, xs, acc, x2, hr2, hD, hxl, hxs, qa, q2⟩
    have hp2 := x2.pget hpa
    cases hm : m2[p]? with
    | none => cases n <;> simp only [compP, hm, R.bind_bad] at q2 <;> exact q2.off
    | some o =>
      cases o with
      | dct kvs => cases n <;> simp only [compP, hm, R.bind_bad] at q2 <;> exact q2.off
      | lst ds =>
        obtain ⟨a', ha', ys, hly, zy, qy⟩ := hr2.at hm
        rw [hp2] at ha'; cases ha'
        have sq : SqL X.K H2 a ys := .inl (.inl hly)
        have stop : ds.length ≤ i → RG C (relW C) (WE Wx σ) ((R.ok acc m2).bind fun ys m => newL mu ys m) ρ1 H1 Q → (∃ xs, SqL X.K H2 a xs ∧ xs.length ≤ i) ∧ Q (.ref D) H2 := fun hle q3 =>
          ⟨⟨ys, sq, by rw [qy.length]; exact hle⟩, made_ok hr2 x2 nD hD hxs qa q3 np⟩
        cases n with
        | zero =>
          simp only [compP, hm] at q2
          split at q2
          · rename_i hle; exact .inl (stop hle q2)
          · exact q2.off
        | succ n =>
          simp only [compP, hm] at q2
          cases hd : ds[i]? with
          | none =>
            simp only [hd] at q2
            exact .inl (stop (List.getElem?_eq_none_iff.mp hd) q2)
          | some d =>
            simp only [hd] at q2
            obtain ⟨v, h1, h2⟩ := qy.get hd
            have hil : i < ys.length := (List.getElem?_eq_some_iff.mp h1).1
            refine .inr ⟨⟨ys, v, sq, h1⟩, fun H4 => ∃ ρ2 m2 xs acc, Ext ρ1 H1 ρ2 H4 ∧ HR (C.mk1 D) ρ2 H4 m2 ∧ H4 D = some (.lst xs) ∧ xs.length ≤ i + 1 ∧ xs.length ≤ sizeLine ∧ DRs (C.mk1 D) ρ2 H4 xs acc ∧
              RG C (relW C) (WE Wx σ) ((compP f p n (i + 1) acc m2).bind fun ys m => newL mu ys m) ρ1 H1 Q, fun H4 h4 => ⟨n, Nat.lt_succ_self _, h4⟩, fun x H3 hy => ?_⟩
            obtain ⟨rfl, hy⟩ := hy
            have := hy ys sq
            rw [h1] at this
            cases this
            exact turn (rest := fun a m => compP f p n (i + 1) a m) _ x2 Ext.refl hr2 h2 hD hxl (by omega) qa q2
              fun ρ4 H4 m4 xs' acc' a1 a2 a3 a4 a5 a6 => ⟨ρ4, m4, xs', acc', a1, a2, a3, a4, by omega, a5, a6⟩
theorem comp_pe (g : Gd C F G XX k Γ X) {elt tg iter : Expr} {ifs : List Expr} {scope : Scope} {own : List (Str × Nat)} {pos : Pos} {se cond : SE} {src : SI} {is : List Nat} {tt mu : Bool}
    (hi : PI X tg iter (tJ C X.K Wx (evI C' G src))) (ok : BlkOk X.N X.env.scope scope own) (hown : ∀ i ∈ is, i ∈ own.map (·.2)) (hns : noSet iter = true)
    (hg : ∀ (l : List Addr) (s : Shared) (H : Hp) (c : Addr) (cl : List (Str × Addr)) (fp : List Addr), PG (X.blk s H scope (compEnvC scope cl c X.env) fp) tg (gT (C.w0 l) is tt))
    (ht : ∀ (l : List Addr) (s : Shared) (H : Hp) (c : Addr) (cl : List (Str × Addr)) (fp : List Addr), PTs (X.blk s H scope (compEnvC scope cl c X.env) fp) ifs (tT (C.w0 l) Wf fun e m => condOf cond m (evT C' G cond e m)))
    (he : ∀ (l : List Addr) (s : Shared) (H : Hp) (c : Addr) (cl : List (Str × Addr)) (fp : List Addr), PE (X.blk s H scope (compEnvC scope cl c X.env) fp) elt (tE (C.w0 l) Wf (evE C' G se))) :
    PE X (.ListComp elt [⟨tg, iter, ifs, 0⟩] scope pos) (tE C Wx (evE C' G (.comp mu se is tt src cond (own.map (·.2))))) := by
  have hs : ∀ x, foldedSetIterable iter X.env x = pure x := by
    intro x
    cases iter <;> first | rfl | cases hns
  exact (pe_lc g.calm g.nd hi ok (fun s H c cl fp => PG.any fun l => hg l s H c cl fp) (fun s H c cl fp => PTs.any fun l => ht l s H c cl fp) (fun s H c cl fp => PE.any fun l => he l s H c cl fp) hs).imp fun σ H Q q => comp_rd hown q
end
end Sim
set_option maxHeartbeats 1000000
namespace Sim
open PySem PySem.Spec PyProof.Rows L2
/-! ### displays of dicts -/
section
variable {C : Cxt} {F : List Fn} {G : Str → Option D} {XX : Str → Str → Bool} {k : Nat} {Γ : Gam} {X : Cx} {Wx : WX} {C' : CallS}
theorem raw_empty {P : Program} {w : World} {H : Hp} (h : Heap) : ObjOk P w H (h.push { cls := .type "dict", data := .dict #[] }) h.objs.size (.ext (RawD h.objs.size ([] : List DictEntry).toArray 0)) :=
  rawO_ok (Heap.get?_push_size _ rfl) ⟨rfl, rfl, rfl⟩ rfl
theorem dct0_pe {mu : Bool} {pos : Pos} : PE X (.Dict [] [] pos) (tE C Wx (evE C' G (.dct0 mu))) := by
  refine ⟨fun pins s σ H Q I h => ?_⟩
  obtain ⟨ρ, e, m, hr, er, q⟩ := h
  have q : RG C (relW C) (WE Wx σ) (newD mu [] m) ρ H Q := q
  refine wpAny_Dict_empty ⟨.ref s.heap.objs.size, _, I.laid (a := s.heap.objs.size) (o := .ext (RawD s.heap.objs.size ([] : List DictEntry).toArray 0)) (t' := s.toks) (fun _ _ q => Heap.get?_push_of_some _ q) (Nat.le_refl _) (raw_empty s.heap), rfl, ?_⟩
  exact newD_ok hr (I.hok.fresh (Nat.le_refl _)) (notSys I) (Nat.zero_le _) (by simp [keysN]) .nil q
/-- the dict in the making is done -/
theorem madeD_ok {ρ ρ0 : List Addr} {H H0 : Hp} {m : MH} {p : Addr} {E : XK} {es : List DictEntry} {ep : Nat} {kvs : List (D × D)} {mu : Bool} {Q : VK} (h : HR (C.mk1 p) ρ H m) (x : Ext ρ0 H0 ρ H) (n0 : H0 p = none) (n : H p = some (.ext (RawD p es.toArray ep))) (hs : (p == sysModules) = false) (z : es.length ≤ sizeLine) (nd : (keysN kvs).Nodup) (q : DRe (C.mk1 p) ρ H es kvs)
    (hq : RG C (relW C) E (newD mu kvs m) ρ0 H0 Q) (np : p ∉ C.hid) : Q (.ref p) H := by
  have nr := (h.hid p List.mem_cons_self).1
  unfold newD at hq
  cases mu with
  | false =>
    rw [if_neg Bool.false_ne_true] at hq
    exact hq ρ _ _ x h.unhide (.dct n ⟨nr, np⟩ hs z nd (DRe.conv (C := C.mk1 p) (C' := C) rfl rfl unhide_k _ _ q))
  | true =>
    rw [if_pos rfl] at hq
    have kk : ∀ a u, H a = some u → Fre (C.mk1 p) ρ a → H a = some u ∧ Fre C (ρ ++ [p]) a := fun a u e f => ⟨e, fun z => by
      rcases List.mem_append.mp z with z | z
      · exact f.ro z
      · exact f.hi (by rw [show a = p by simpa using z]; exact List.mem_cons_self), fun z => f.hi (List.mem_cons_of_mem _ z)⟩
    refine hq (ρ ++ [p]) _ _ ⟨?_, fun a ha hn => ?_, fun a u e f => x.keep a u e f, x.there⟩ ⟨by simp [h.len], ?_, fun a ha => ?_, fun i a u e1 e2 => ?_⟩ ⟨p, ?_, rfl⟩
    · obtain ⟨l, rfl⟩ := x.pre
      exact ⟨l ++ [p], by simp⟩
    · rcases List.mem_append.mp ha with ha | ha
      · exact x.new a ha hn
      · rw [show a = p by simpa using ha]; exact n0
    · rw [List.nodup_append]
      exact ⟨h.nd, by simp, fun a ha b hb => by
        have : b = p := by simpa using hb
        rw [this]; exact fun z => nr (z ▸ ha)⟩
    · refine ⟨fun z => ?_, (h.hid a (List.mem_cons_of_mem _ ha)).2⟩
      rcases List.mem_append.mp z with z | z
      · exact (h.hid a (List.mem_cons_of_mem _ ha)).1 z
      · exact np (by rw [← show a = p by simpa using z]; exact ha)
    · by_cases hi : i < ρ.length
      · rw [List.getElem?_append_left hi] at e1
        rw [List.getElem?_append_left (by rw [← h.len]; exact hi)] at e2
        exact OR.conv (C := C.mk1 p) (C' := C) (H' := H) rfl rfl kk (h.obj i a u e1 e2) fun _ e => e
      · have hi2 : i = ρ.length := by
          have := (List.getElem?_eq_some_iff.mp e1).1
          simp at this; omega
        subst hi2
        simp at e1
        rw [h.len] at e2
        simp at e2
        subst e1; subst e2
        exact ⟨es, ep, n, hs, z, nd, DRe.conv (C := C.mk1 p) (C' := C) rfl rfl kk _ _ q⟩
    · rw [← h.len]; simp
theorem dct1_pe (eK : X.K = C.K) (ew : X.w = C.w) (hu : X.A.units + 65 < cLine) {kx vx : Expr} {sk sv : SE} {mu : Bool} {pos : Pos} (hk : ∀ l, PE X kx (tE (C.w0 l) Wf (evE C' G sk))) (hv : ∀ l, PE X vx (tE (C.w0 l) Wf (evE C' G sv))) : PE X (.Dict [some kx] [vx] pos) (tE C Wx (evE C' G (.dct1 mu sk sv))) := by
  refine ⟨fun pins s σ H Q I h => ?_⟩
  obtain ⟨ρ, e, m, hr, er, q⟩ := h
  have nH : H s.heap.objs.size = none := I.hok.fresh (Nat.le_refl _)
  have np : s.heap.objs.size ∉ C.hid := (hr.fresh nH).hi
  generalize hp : s.heap.objs.size = p at nH np
  have I1 : Inv X pins σ (L2.upd H p (.ext (RawD p ([] : List DictEntry).toArray 0))) { s with heap := s.heap.push { cls := .type "dict", data := .dict #[] } } := by
    rw [← hp]
    exact I.laid (a := s.heap.objs.size) (o := .ext (RawD s.heap.objs.size ([] : List DictEntry).toArray 0)) (t' := s.toks) (fun _ _ q => Heap.get?_push_of_some _ q) (Nat.le_refl _) (raw_empty s.heap)
  have hr1 : HR (C.mk1 p) ρ (L2.upd H p (.ext (RawD p ([] : List DictEntry).toArray 0))) m := hr.hide nH
  have x1 : Ext ρ H ρ (L2.upd H p (.ext (RawD p ([] : List DictEntry).toArray 0))) := Ext.upd nH
  have er1 : ER (C.mk1 p) ρ (L2.upd H p (.ext (RawD p ([] : List DictEntry).toArray 0))) σ e := er.fwd (mk1_cext nH) x1
  have hp0 : (L2.upd H p (.ext (RawD p ([] : List DictEntry).toArray 0))) p = some (.ext (RawD p ([] : List DictEntry).toArray 0)) := upd_same
  have hsys : (p == sysModules) = false := by rw [← hp]; exact notSys I
  generalize L2.upd H p (.ext (RawD p ([] : List DictEntry).toArray 0)) = H1 at I1 hr1 x1 er1 hp0
  have q : RG C (relW C) (WE Wx σ) ((evE C' G sk e m).nox.bind fun x m => (evE C' G sv e m).nox.bind fun y m => match x, y with
    | .d k, .d v => match keyT k with
      | some _ => newD mu [(k, v)] m
      | none => .bad
    | _, _ => .bad) ρ H Q := q
  rw [arm_eval_Dict, zip_pairTrees [some kx] [vx] X.env pos rfl rfl, dictDisplay_pairs (pairTrees [some kx] [vx] X.env pos) (by show (_ :: _) ≠ []; exact List.cons_ne_nil _ _) (by show 1 < 17; decide)]
  refine wpAny_bind (wpAny_standAt (wpAny_bind (wpAny_subDictH (knd := nestedKind X.prog X.w) (by show X.A.units + 8 < cLine; omega) (by show 1 ≤ 15; decide) ?_)))
  cases e1 : evE C' G sk e m with
  | bad => rw [e1] at q; exact q.off
  | exc c fs m1 => rw [e1] at q; exact q.off
  | ok wk m1 =>
    rw [e1] at q
    simp only [R.nox_ok, R.bind_ok] at q
    refine pairTrees_cons_walk (thn ((hk (p :: C.hid)).run pins _ σ H1 (fun x H2 => ∃ ρ2, Ext ρ H1 ρ2 H2 ∧ HR (C.mk1 p) ρ2 H2 m1 ∧ WR (C.mk1 p) ρ2 H2 x wk) I1 ⟨ρ, e, m, hr1, er1, ?_⟩) fun ku s2 ⟨x, H2, I2, rx, ρ2, x2, hr2, wx⟩ => ?_)
    · show RG (C.mk1 p) _ _ (evE C' G sk e m) _ _ _
      rw [e1]
      exact fun ρ' b H' a1 a2 a3 => ⟨ρ', a1, a2, a3⟩
    cases e2 : evE C' G sv e m1 with
    | bad => rw [e2] at q; exact q.off
    | exc c fs m2 => rw [e2] at q; exact q.off
    | ok wv m2 =>
      rw [e2] at q
      simp only [R.nox_ok, R.bind_ok] at q
      refine thn ((hv (p :: C.hid)).run pins s2 σ H2 (fun y H3 => ∃ ρ3, Ext ρ2 H2 ρ3 H3 ∧ HR (C.mk1 p) ρ3 H3 m2 ∧ WR (C.mk1 p) ρ3 H3 y wv) I2 ⟨ρ2, e, m1, hr2, er1.ext x2, ?_⟩) fun vu s3 ⟨y, H3, I3, ry, ρ3, x3, hr3, wy⟩ => ?_
      · show RG (C.mk1 p) _ _ (evE C' G sv e m1) _ _ _
        rw [e2]
        exact fun ρ' b H' a1 a2 a3 => ⟨ρ', a1, a2, a3⟩
      refine pairTrees_nil_walk ?_
      cases wk with
      | r i => exact q.off
      | s i => exact q.off
      | d kd =>
      cases wv with
      | r i => exact q.off
      | s i => exact q.off
      | d vd =>
        simp only at q
        split at q
        · rename_i nk hkt
          have kx3 : DR (C.mk1 p) ρ3 H3 x kd := DR.ext x3 _ _ wx
          have hp3 : H3 p = some (.ext (RawD p ([] : List DictEntry).toArray 0)) := x3.made hr2 (x2.made hr1 hp0)
          obtain ⟨n, t, b, rfl, rfl, his⟩ := key_is (C := C.mk1 p) eK I3 kx3 hkt rx
          obtain ⟨⟨o, ho, hx, hd⟩, _, _⟩ := (show ObjOk X.prog X.w H3 s3.heap p (.ext (RawD p ([] : List DictEntry).toArray 0)) from I3.hok p _ hp3)
          rw [hp]
          refine ⟨[(nk, b, vu)], ⟨rfl, rfl, his, trivial⟩, ⟨o, #[], 0, ho, hx, hd, rfl, (fun _ z => nomatch z), List.nodup_nil⟩, fun h' tk dd sb => wpAny_pure ?_⟩
          have ess : storedAllH ([] : List (NestedKey × Addr × Value)) [(nk, b, vu)] = [(nk, b, vu)] := rfl
          rw [ess] at dd
          obtain ⟨ep, ok, ex⟩ := dict_raw (H := H3) dd
          have ok2 : ∀ H', ObjOk X.prog X.w H' h' p (.ext (RawD p (([(nk, b, vu)] : List (NestedKey × Addr × Value)).map (entryOfKey (nestedKind X.prog X.w))).toArray ep)) := fun _ => ok
          refine ⟨.ref p, _, d_write I3 (by rw [hp3]; exact True.intro) sb ex (ok2 _), rfl, ?_⟩
          have kk := poke_k (C := C) (ρ := ρ3) (H := H3) (p := p) (o := .ext (RawD p (([(nk, b, vu)] : List (NestedKey × Addr × Value)).map (entryOfKey (nestedKind X.prog X.w))).toArray ep))
          refine madeD_ok (kvs := [(kd, vd)]) hr3.poke (((x1.trans x2).trans x3).poke nH) nH upd_same hsys (by show 1 ≤ sizeLine; rw [sizeLine_eq]; omega) (by simp [keysN]) ?_ q np
          exact DRe.conv (C := C.mk1 p) (C' := C.mk1 p) rfl rfl kk _ _ (KX.to (C := C.mk1 p) (P := X.prog) (show C.w = X.w from ew.symm) (.cons n t kx3 ry wy .nil))
        · exact q.off
end
end Sim
set_option maxHeartbeats 4000000
namespace Sim
open PySem PySem.Spec PyProof.Rows L2
section
variable {F : List Fn} {G : Str → Option D} {XX : Str → Str → Bool} {k : Nat}
structure OkE (C : Cxt) (F : List Fn) (G : Str → Option D) (XX : Str → Str → Bool) (k : Nat) (X : Cx) (Wx : WX) (e : Expr) (se : SE) : Prop where
  pe : PE X e (tE C Wx (evE (run F G XX k) G se))
  pt : PT X e (tT C Wx (evT (run F G XX k) G se))
  pw : ∀ op es p, e = .BoolOp op es p → PW X e (tT C Wx (evT (run F G XX k) G se))
theorem plainBase_ok {o : Expr} {nm : Str} {env : PySem.Env} (h : plainBase o = true) : attributeBase o nm env (eval o env) = eval o env := by
  cases o with
  | Call f es kws pos =>
    cases es with
    | nil => cases h
    | cons a es => cases f <;> rfl
  | _ => rfl
theorem allSome_map {α β : Type} {f : α → Option β} : ∀ {l : List α} {r : List β}, allSome (l.map f) = some r → r.length = l.length ∧ ∀ (i : Nat) x, l[i]? = some x → ∃ y, f x = some y ∧ r[i]? = some y
  | [], r, h => by cases h; exact ⟨rfl, fun i x e => by simp at e⟩
  | a :: l, r, h => by
    rw [List.map_cons] at h
    cases e : f a with
    | none => rw [e] at h; cases h
    | some y =>
      rw [e] at h
      cases e2 : allSome (l.map f) with
      | none => simp only [allSome, e2] at h; cases h
      | some ys =>
        simp only [allSome, e2] at h
        cases h
        obtain ⟨h1, h2⟩ := allSome_map e2
        refine ⟨by simp [h1], fun i x ex => ?_⟩
        cases i with
        | zero => simp at ex; subst ex; exact ⟨y, e, rfl⟩
        | succ i => simpa using h2 i x (by simpa using ex)
theorem locSlot_ok {Γ : Gam} {x : Str} {i : Nat} (h : locSlot Γ x = some i) : Γ.sc.names.lookup x = some .local ∧ Γ.N[i]? = some x := by
  unfold locSlot at h
  split at h
  · rename_i e; exact ⟨e, ixOf_get h⟩
  · cases h
theorem slot_ok {Γ : Gam} {x : Str} {i : Nat} (h : slot Γ x = some i) : (Γ.sc.names.lookup x = some .local ∨ (Γ.sc.names.lookup x = some .cell ∧ Γ.fnAll = true)) ∧ Γ.N[i]? = some x := by
  unfold slot at h
  split at h
  · rename_i e; exact ⟨.inl e, ixOf_get h⟩
  · rename_i e
    split at h
    · rename_i f; exact ⟨.inr ⟨e, f⟩, ixOf_get h⟩
    · cases h
  · cases h
theorem tgNames_ok : ∀ {es : List Expr} {xs : List Str}, tgNames es = some xs → ∃ ps : List Pos, ps.length = xs.length ∧ es = (xs.zip ps).map fun y => .Name y.1 y.2
  | [], xs, h => by cases h; exact ⟨[], rfl, rfl⟩
  | .Name x p :: es, xs, h => by
    rw [tgNames] at h
    cases e : tgNames es with
    | none => rw [e] at h; cases h
    | some ys =>
      rw [e] at h
      cases h
      obtain ⟨ps, h1, h2⟩ := tgNames_ok e
      exact ⟨p :: ps, by simp [h1], by simp [h2]⟩
  | .BoolOp .. :: _, _, h => by simp [tgNames] at h
  | .NamedExpr .. :: _, _, h => by simp [tgNames] at h
  | .BinOp .. :: _, _, h => by simp [tgNames] at h
  | .UnaryOp .. :: _, _, h => by simp [tgNames] at h
  | .Lambda .. :: _, _, h => by simp [tgNames] at h
  | .IfExp .. :: _, _, h => by simp [tgNames] at h
  | .Dict .. :: _, _, h => by simp [tgNames] at h
  | .Set .. :: _, _, h => by simp [tgNames] at h
  | .ListComp .. :: _, _, h => by simp [tgNames] at h
  | .SetComp .. :: _, _, h => by simp [tgNames] at h
  | .DictComp .. :: _, _, h => by simp [tgNames] at h
  | .GeneratorExp .. :: _, _, h => by simp [tgNames] at h
  | .Await .. :: _, _, h => by simp [tgNames] at h
  | .Yield .. :: _, _, h => by simp [tgNames] at h
  | .YieldFrom .. :: _, _, h => by simp [tgNames] at h
  | .Compare .. :: _, _, h => by simp [tgNames] at h
  | .Call .. :: _, _, h => by simp [tgNames] at h
  | .FormattedValue .. :: _, _, h => by simp [tgNames] at h
  | .JoinedStr .. :: _, _, h => by simp [tgNames] at h
  | .Constant .. :: _, _, h => by simp [tgNames] at h
  | .Attribute .. :: _, _, h => by simp [tgNames] at h
  | .Subscript .. :: _, _, h => by simp [tgNames] at h
  | .Starred .. :: _, _, h => by simp [tgNames] at h
  | .List .. :: _, _, h => by simp [tgNames] at h
  | .Tuple .. :: _, _, h => by simp [tgNames] at h
  | .Slice .. :: _, _, h => by simp [tgNames] at h
theorem slots_of {X : Cx} {f : Str → Option Nat} (hf : ∀ x i, f x = some i → X.N[i]? = some x ∧ Loc X.env.scope x ∧ (X.fn x = true ∨ X.env.scope.names.lookup x = some .local)) : ∀ {xs : List Str} {ps : List Pos} {is : List Nat}, ps.length = xs.length → allSome (xs.map f) = some is →
    Slots X ((xs.zip ps).map fun y => .Name y.1 y.2) is
  | [], [], is, _, h => by cases h; exact .nil
  | x :: xs, p :: ps, is, hl, h => by
    rw [List.map_cons] at h
    cases e : f x with
    | none => rw [e] at h; cases h
    | some i =>
      rw [e] at h
      cases e2 : allSome (xs.map f) with
      | none => simp only [allSome, e2] at h; cases h
      | some ys =>
        simp only [allSome, e2] at h
        cases h
        obtain ⟨h1, h2, h3⟩ := hf x i e
        exact .cons h1 h2 h3 (slots_of hf (by simpa using hl) e2)
theorem tgOf_tup {Γ : Gam} {tg : Expr} {is : List Nat} (h : tgOf Γ tg = some (is, true)) : ∃ es j p, tg = .Tuple es j p := by
  cases tg <;> simp only [tgOf] at h <;> first | cases h | skip
  · rename_i x p
    cases e : locSlot Γ x with
    | none => rw [e] at h; cases h
    | some i => rw [e] at h; cases h
  · exact ⟨_, _, _, rfl⟩
/-- a comprehension's target -/
theorem tgOf_ok {C : Cxt} {Γ : Gam} {X : Cx} {tg : Expr} {is : List Nat} {tt : Bool} (eK : X.K = C.K) (eN : X.N = Γ.N) (esc : X.env.scope = Γ.sc) (nd : X.N.Nodup) (hc : X.calm = true) (h : tgOf Γ tg = some (is, tt)) : PG X tg (gT C is tt) ∧ (tt = true → ∃ es j p, tg = .Tuple es j p) := by
  have hf : ∀ x i, locSlot Γ x = some i → X.N[i]? = some x ∧ Loc X.env.scope x ∧ (X.fn x = true ∨ X.env.scope.names.lookup x = some .local) := fun x i e => by
    obtain ⟨h1, h2⟩ := locSlot_ok e
    exact ⟨by rw [eN]; exact h2, .inl (by rw [esc]; exact h1), .inr (by rw [esc]; exact h1)⟩
  cases tg <;> simp only [tgOf] at h <;> first | cases h | skip
  · rename_i x p
    cases e : locSlot Γ x with
    | none => rw [e] at h; cases h
    | some i =>
      rw [e] at h
      cases h
      obtain ⟨h1, h2, h3⟩ := hf x i e
      exact ⟨name_pg nd h1 h2 h3, fun z => by cases z⟩
  · rename_i es j p
    cases e : tgNames es with
    | none => rw [e] at h; cases h
    | some xs =>
      rw [e] at h
      simp only [Option.bind_some] at h
      cases e2 : allSome (xs.map (locSlot Γ)) with
      | none => rw [e2] at h; cases h
      | some js =>
        rw [e2] at h
        cases h
        obtain ⟨ps, hl, rfl⟩ := tgNames_ok e
        exact ⟨tup_pg eK nd hc (slots_of hf hl e2), fun _ => ⟨_, _, _, rfl⟩⟩
theorem Gd.inner {C : Cxt} {Γ : Gam} {X : Cx} (g : Gd C F G XX k Γ X) (scope : Scope) (s : Shared) (H : Hp) (c : Addr) (cl : List (Str × Addr)) (fp : List Addr) (l : List Addr) :
    Gd (C.w0 l) F G XX k (inner Γ scope) (X.blk s H scope (compEnvC scope cl c X.env) fp) where
  eK := g.eK
  ew := g.ew
  eN := g.eN
  esc := by
    show (compEnvC scope cl c X.env).scope = relS scope Γ.sc
    rw [← g.esc]
    rfl
  nd := g.nd
  calm := g.calm
  room := g.room
  fns := g.fns
  blts := g.blts
  globs := g.globs
  fnA := fun h => by cases h

/-- the same, with other things in the making -/
theorem Gd.w0 {C : Cxt} {Γ : Gam} {X : Cx} (g : Gd C F G XX k Γ X) (l : List Addr) : Gd (C.w0 l) F G XX k Γ X := ⟨g.eK, g.ew, g.eN, g.esc, g.nd, g.calm, g.room, g.fns, g.blts, g.globs, g.fnA⟩
def Main (F : List Fn) (G : Str → Option D) (XX : Str → Str → Bool) (k : Nat) (n : Nat) : Prop :=
  (∀ Γ mu e se, cE n Γ mu e = some se → se ≠ .nop ∧ ∀ C X Wx, Gd C F G XX k Γ X → Takes X Wx → OkE C F G XX k X Wx e se) ∧
  (∀ Γ es ses, cA n Γ es = some ses → noStars es = true ∧ ses.len = es.length ∧ ∀ C X Wx, Gd C F G XX k Γ X → Takes X Wx → PA X es (tD C Wx (evA (run F G XX k) G ses)) ∧ PA X es (tW C Wx (evW (run F G XX k) G ses))) ∧
  (∀ Γ o so, cO n Γ o = some so → ∀ C X Wx, Gd C F G XX k Γ X → Takes X Wx → PO X o (tG C Wx relO fun e m => partOf so m (evE (run F G XX k) G so e m))) ∧
  (∀ Γ e si, cI n Γ e = some si → noSet e = true ∧ ∀ tg C X Wx, (siPair si = true → ∃ es j p, tg = .Tuple es j p) → Gd C F G XX k Γ X → Takes X Wx → PI X tg e (tJ C X.K Wx (evI (run F G XX k) G si)))
theorem main_zero : Main F G XX k 0 := by
  refine ⟨fun _ _ _ _ h => ?_, fun _ _ _ h => ?_, fun _ _ _ h => ?_, fun _ _ _ h => ?_⟩ <;> cases h
section
variable {n : Nat}
theorem main_A (M : Main F G XX k n) {Γ : Gam} {es : List Expr} {ses : SEs} (h : cA (n + 1) Γ es = some ses) : noStars es = true ∧ ses.len = es.length ∧ ∀ C X Wx, Gd C F G XX k Γ X → Takes X Wx → PA X es (tD C Wx (evA (run F G XX k) G ses)) ∧ PA X es (tW C Wx (evW (run F G XX k) G ses)) := by
  cases es with
  | nil => simp only [cA] at h; cases h; exact ⟨rfl, rfl, fun C X Wx g t => ⟨nil_pd, nil_pw⟩⟩
  | cons e es =>
    simp only [cA] at h
    split at h
    · rename_i hs
      split at h
      · rename_i se ses' h1 h2
        cases h
        obtain ⟨a1, a2, a3⟩ := M.2.1 _ _ _ h2
        obtain ⟨b0, b⟩ := M.1 _ _ _ _ h1
        refine ⟨by rw [noStars, hs, a1]; rfl, by simp [SEs.len, a2], fun C X Wx g t => ?_⟩
        have p := (b C X Wx g t).pe
        exact ⟨cons_pd hs p (a3 C X Wx g t).1, cons_pw hs p (a3 C X Wx g t).2⟩
      · cases h
    · cases h
theorem main_O (M : Main F G XX k n) {Γ : Gam} {o : Option Expr} {so : SE} (h : cO (n + 1) Γ o = some so) : ∀ C X Wx, Gd C F G XX k Γ X → Takes X Wx → PO X o (tG C Wx relO fun e m => partOf so m (evE (run F G XX k) G so e m)) := by
  cases o with
  | none => simp only [cO] at h; cases h; exact fun C X Wx g t => none_po
  | some e =>
    simp only [cO] at h
    cases h1 : cE n Γ false e with
    | none => rw [h1] at h; cases h
    | some se =>
      rw [h1] at h
      obtain ⟨b0, b⟩ := M.1 _ _ _ _ h1
      simp only [Option.bind_some] at h
      split at h
      · cases h
      · cases h
        exact fun C X Wx g t => some_po (b C X Wx g t).pe b0
theorem main_I (M : Main F G XX k n) {Γ : Gam} {e : Expr} {si : SI} (h : cI (n + 1) Γ e = some si) : noSet e = true ∧ ∀ tg C X Wx, (siPair si = true → ∃ es j p, tg = .Tuple es j p) → Gd C F G XX k Γ X → Takes X Wx → PI X tg e (tJ C X.K Wx (evI (run F G XX k) G si)) := by
  have val : ∀ {e : Expr} {si : SI}, noSet e = true → (cE n Γ false e).map SI.val = some si → noSet e = true ∧ ∀ tg C X Wx, (siPair si = true → ∃ es j p, tg = .Tuple es j p) → Gd C F G XX k Γ X → Takes X Wx → PI X tg e (tJ C X.K Wx (evI (run F G XX k) G si)) := by
    intro e si hn h
    cases h1 : cE n Γ false e with
    | none => rw [h1] at h; cases h
    | some se =>
      rw [h1] at h
      cases h
      exact ⟨hn, fun tg C X Wx _ g t => val_pi g ((M.1 _ _ _ _ h1).2 C X Wx g t).pe⟩
  simp only [cI] at h
  split at h
  · rename_i x p a pos
    split at h
    · rename_i hb
      simp only [Bool.and_eq_true, decide_eq_true_eq] at hb
      obtain ⟨⟨h1, rfl⟩, h3⟩ := hb
      cases h4 : cE n Γ false a with
      | none => rw [h4] at h; cases h
      | some se =>
        rw [h4] at h
        cases h
        exact ⟨rfl, fun tg C X Wx _ g t => rng1_pi g h1 h3 ((M.1 _ _ _ _ h4).2 C X Wx g t).pe⟩
    · split at h
      · rename_i hb
        simp only [Bool.and_eq_true, decide_eq_true_eq] at hb
        obtain ⟨⟨h1, rfl⟩, h3⟩ := hb
        cases h4 : cE n Γ false a with
        | none => rw [h4] at h; cases h
        | some se =>
          rw [h4] at h
          cases h
          refine ⟨rfl, fun tg C X Wx hp g t => ?_⟩
          obtain ⟨es, j, p, rfl⟩ := hp rfl
          exact enum_pi g h1 h3 ((M.1 _ _ _ _ h4).2 C X Wx g t).pe
      · exact val rfl h
  · rename_i x p a b pos
    split at h
    · rename_i hb
      simp only [Bool.and_eq_true, decide_eq_true_eq] at hb
      obtain ⟨⟨⟨h1, rfl⟩, h3⟩, h4⟩ := hb
      split at h
      · rename_i sa sb h5 h6
        cases h
        exact ⟨rfl, fun tg C X Wx _ g t => rng2_pi g h1 h3 h4 ((M.1 _ _ _ _ h5).2 C X Wx g t).pe ((M.1 _ _ _ _ h6).2 C X Wx g t).pe⟩
      · cases h
    · split at h
      · rename_i hb
        simp only [Bool.and_eq_true, decide_eq_true_eq] at hb
        obtain ⟨⟨⟨h1, rfl⟩, h3⟩, h4⟩ := hb
        split at h
        · rename_i sa sb h5 h6
          cases h
          refine ⟨rfl, fun tg C X Wx hp g t => ?_⟩
          obtain ⟨es, j, p, rfl⟩ := hp rfl
          exact zip_pi g h1 h3 h4 ((M.1 _ _ _ _ h5).2 C X Wx g t).pe ((M.1 _ _ _ _ h6).2 C X Wx g t).pe
        · cases h
      · exact val rfl h
  · rename_i o m ap cp
    split at h
    · rename_i hb
      simp only [Bool.and_eq_true, decide_eq_true_eq] at hb
      obtain ⟨⟨rfl, h2⟩, h3⟩ := hb
      cases h4 : cE n Γ false o with
      | none => rw [h4] at h; cases h
      | some se =>
        rw [h4] at h
        cases h
        refine ⟨rfl, fun tg C X Wx hp g t => ?_⟩
        obtain ⟨es, j, p, rfl⟩ := hp rfl
        exact itms_pi g (plainBase_ok h2) h3 ((M.1 _ _ _ _ h4).2 C X Wx g t).pe
    · cases h
  · split at h
    · rename_i hn; exact val hn h
    · cases h
end
end
end Sim
set_option maxHeartbeats 4000000
namespace Sim
open PySem PySem.Spec PyProof.Rows L2
section
variable {F : List Fn} {G : Str → Option D} {XX : Str → Str → Bool} {k : Nat} {n : Nat}
theorem noPW {C : Cxt} {X : Cx} {Wx : WX} {e : Expr} {se : SE} (hp : PE X e (tE C Wx (evE (run F G XX k) G se))) (ht : PT X e (tT C Wx (evT (run F G XX k) G se))) (h : ∀ op es p, e ≠ .BoolOp op es p) : OkE C F G XX k X Wx e se := ⟨hp, ht, fun op es p z => absurd z (h op es p)⟩
/-- a plain expression: its test is its value's truth, or is not asked for -/
theorem okP {C : Cxt} {Γ : Gam} {X : Cx} {Wx : WX} {e : Expr} {se : SE} (g : Gd C F G XX k Γ X) (hp : PE X e (tE C Wx (evE (run F G XX k) G se))) (he : ∀ whole, isTrue e X.env whole = (do let v ← whole; standAt e.pos; holding [v] (truthy v)))
    (ht : evT (run F G XX k) G se = (fun e m => (evE (run F G XX k) G se e m).bind truW) ∨ evT (run F G XX k) G se = fun _ _ => .bad) (h : ∀ op es p, e ≠ .BoolOp op es p) : OkE C F G XX k X Wx e se := by
  refine noPW hp ?_ h
  rcases ht with ht | ht
  · rw [ht]; exact val_pt g hp he
  · exact bad_pt ht
theorem map_some {α β : Type} {f : α → β} {o : Option α} {b : β} (h : o.map f = some b) : ∃ a, o = some a ∧ f a = b := by
  cases o with
  | none => cases h
  | some a => cases h; exact ⟨a, rfl, rfl⟩
/-- the parts of a comprehension -/
structure LcP (C : Cxt) (F : List Fn) (G : Str → Option D) (XX : Str → Str → Bool) (k : Nat) (X : Cx) (Wx : WX) (elt tg iter : Expr) (ifs : List Expr) (scope : Scope) (own : List (Str × Nat)) (is : List Nat) (tt : Bool) (src : SI) (cond selt : SE) : Prop where
  it : PI X tg iter (tJ C X.K Wx (evI (run F G XX k) G src))
  ok : BlkOk X.N X.env.scope scope own
  own : ∀ i ∈ is, i ∈ own.map (·.2)
  ns : noSet iter = true
  tg : ∀ (l : List Addr) (s : Shared) (H : Hp) (c : Addr) (cl : List (Str × Addr)) (fp : List Addr), PG (X.blk s H scope (compEnvC scope cl c X.env) fp) tg (gT (C.w0 l) is tt)
  ts : ∀ (l : List Addr) (s : Shared) (H : Hp) (c : Addr) (cl : List (Str × Addr)) (fp : List Addr), PTs (X.blk s H scope (compEnvC scope cl c X.env) fp) ifs (tT (C.w0 l) Wf fun e m => condOf cond m (evT (run F G XX k) G cond e m))
  el : ∀ (l : List Addr) (s : Shared) (H : Hp) (c : Addr) (cl : List (Str × Addr)) (fp : List Addr), PE (X.blk s H scope (compEnvC scope cl c X.env) fp) elt (tE (C.w0 l) Wf (evE (run F G XX k) G selt))
theorem main_LC (M : Main F G XX k n) {Γ : Gam} {mu : Bool} {elt : Expr} {gens : List Comprehension} {scope : Scope} {pos : Pos} {se : SE} (h : cE (n + 1) Γ mu (.ListComp elt gens scope pos) = some se) :
    ∃ tg iter ifs own is tt src cond selt, gens = [⟨tg, iter, ifs, 0⟩] ∧ se = .comp mu selt is tt src cond (own.map (·.2)) ∧ ∀ C X Wx, Gd C F G XX k Γ X → Takes X Wx → LcP C F G XX k X Wx elt tg iter ifs scope own is tt src cond selt := by
  simp only [cE] at h
  split at h
  · rename_i tg iter ifs
    split at h
    · rename_i hns
      split at h
      · rename_i src own is tt h1 h2 h3
        split at h
        · rename_i hb
          simp only [Bool.and_eq_true, List.all_eq_true, List.any_eq_true, beq_iff_eq] at hb
          obtain ⟨⟨hb1, hb2⟩, hb3⟩ := hb
          split at h
          · rename_i cond selt h4 h5
            cases h
            refine ⟨tg, iter, ifs, own, is, tt, src, cond, selt, rfl, rfl, fun C X Wx g t => ?_⟩
            have htg : ∀ (l : List Addr) (s : Shared) (H : Hp) (c : Addr) (cl : List (Str × Addr)) (fp : List Addr), _ := fun l s H c cl fp => tgOf_ok (C := C.w0 l) (tg := tg) (g.inner scope s H c cl fp l).eK (g.inner scope s H c cl fp l).eN (g.inner scope s H c cl fp l).esc g.nd g.calm h3
            refine ⟨(M.2.2.2 _ _ _ h1).2 tg C X Wx ?_ g t, blkOk_by (by rw [g.eN, g.esc]; exact hb1), ?_, hns, fun l s H c cl fp => (htg l s H c cl fp).1, ?_, fun l s H c cl fp => ((M.1 _ _ _ _ h5).2 _ _ _ (g.inner scope s H c cl fp l) takes0).pe⟩
            · intro hp
              simp only [hp, Bool.not_true, Bool.false_or] at hb3
              subst hb3
              exact tgOf_tup h3
            · intro i hi
              obtain ⟨p, hp, e⟩ := hb2 i hi
              exact List.mem_map.mpr ⟨p, hp, e⟩
            · intro l s H c cl fp
              split at h4
              · cases h4
                refine ⟨fun pins s σ H Q I q => pts_nil.run pins s σ H Q I ?_⟩
                obtain ⟨ρ, e, m, hr, er, q⟩ := q
                exact q ρ true H Ext.refl hr rfl
              · rename_i c'
                obtain ⟨z, o⟩ := M.1 _ _ _ _ h4
                have p := (o _ _ _ (g.inner scope s H c cl fp l) (takes0 (X := X.blk s H scope (compEnvC scope cl c X.env) fp))).pt
                have ec : (fun (e : Env) (m : MH) => condOf cond m (evT (run F G XX k) G cond e m)) = evT (run F G XX k) G cond := by
                  funext e m
                  cases cond <;> first | rfl | exact absurd rfl z
                rw [ec]
                exact pts_one p
              · cases h4
          · cases h
        · cases h
      · cases h
    · cases h
  · cases h
theorem main_E (M : Main F G XX k n) {Γ : Gam} {mu : Bool} {e : Expr} {se : SE} (h : cE (n + 1) Γ mu e = some se) : se ≠ .nop ∧ ∀ C X Wx, Gd C F G XX k Γ X → Takes X Wx → OkE C F G XX k X Wx e se := by
  have ih := fun {Γ mu e se} (h : cE n Γ mu e = some se) C X Wx g t => (M.1 Γ mu e se h).2 C X Wx g t
  cases e <;> simp only [cE] at h <;> first | cases h | skip
  case BoolOp op es pos =>
    cases op with
    | And =>
      cases es with
      | nil => cases h
      | cons a r =>
        cases r with
        | nil =>
          refine ⟨(M.1 _ _ _ _ h).1, fun C X Wx g t => ?_⟩
          have o := ih h C X Wx g t
          exact ⟨pe_one o.pe, (pw_and1 o.pt).pt, fun op es p z => by cases z; exact pw_and1 o.pt⟩
        | cons b r =>
          simp only at h
          split at h
          · rename_i sa sb h1 h2
            cases h
            refine ⟨(fun z => nomatch z), fun C X Wx g t => ?_⟩
            have o1 := ih h1 C X Wx g t
            have o2 := ih h2 C X Wx g t
            have w := and_pw o1.pt (o2.pw _ _ _ rfl)
            exact ⟨and_pe g o1.pe o2.pe, w.pt, fun op es p z => by cases z; exact w⟩
          · cases h
    | Or =>
      cases es with
      | nil => cases h
      | cons a r =>
        cases r with
        | nil =>
          refine ⟨(M.1 _ _ _ _ h).1, fun C X Wx g t => ?_⟩
          have o := ih h C X Wx g t
          exact ⟨pe_one o.pe, (pw_or1 o.pt).pt, fun op es p z => by cases z; exact pw_or1 o.pt⟩
        | cons b r =>
          simp only at h
          split at h
          · rename_i sa sb h1 h2
            cases h
            refine ⟨(fun z => nomatch z), fun C X Wx g t => ?_⟩
            have o1 := ih h1 C X Wx g t
            have o2 := ih h2 C X Wx g t
            have w := or_pw o1.pt (o2.pw _ _ _ rfl)
            exact ⟨or_pe g o1.pe o2.pe, w.pt, fun op es p z => by cases z; exact w⟩
          · cases h
  case BinOp a op b pos =>
    split at h
    · rename_i o sa sb h1 h2 h3
      cases h
      exact ⟨(fun z => nomatch z), fun C X Wx g t => okP g (bin_pe g h1 (ih h2 C X Wx g t).pe (ih h3 C X Wx g t).pe) (by intro _; rfl) (.inr rfl) (fun _ _ _ z => nomatch z)⟩
    · cases h
  case UnaryOp op a pos =>
    split at h
    · obtain ⟨sa, h1, rfl⟩ := map_some h
      exact ⟨(fun z => nomatch z), fun C X Wx g t => okP g (neg_pe (ih h1 C X Wx g t).pe) (by intro _; rfl) (.inr rfl) (fun _ _ _ z => nomatch z)⟩
    · obtain ⟨sa, h1, rfl⟩ := map_some h
      exact ⟨(fun z => nomatch z), fun C X Wx g t => noPW (not_pe g (ih h1 C X Wx g t).pe) (not_pt (ih h1 C X Wx g t).pt) (fun _ _ _ z => nomatch z)⟩
    · cases h
  case IfExp c a b pos =>
    split at h
    · rename_i sc sa sb h1 h2 h3
      cases h
      exact ⟨(fun z => nomatch z), fun C X Wx g t => noPW (ite_pe (ih h1 C X Wx g t).pt (ih h2 C X Wx g t).pe (ih h3 C X Wx g t).pe) (ite_pt (ih h1 C X Wx g t).pt (ih h2 C X Wx g t).pt (ih h3 C X Wx g t).pt) (fun _ _ _ z => nomatch z)⟩
    · cases h
  case ListComp elt gens scope pos =>
    obtain ⟨tg, iter, ifs, own, is, tt, src, cond, selt, rfl, rfl, p⟩ := main_LC M (mu := mu) (pos := pos) (elt := elt) (scope := scope) (by simp only [cE]; exact h)
    refine ⟨(fun z => nomatch z), fun C X Wx g t => ?_⟩
    have q := p C X Wx g t
    exact okP g (comp_pe g q.it q.ok q.own q.ns q.tg q.ts q.el) (by intro _; rfl) (.inr rfl) (fun _ _ _ z => nomatch z)
  case Compare a ops bs pos =>
    split at h
    · rename_i op b
      split at h
      · rename_i hb
        split at h
        · rename_i o sa sb h1 h2 h3
          cases h
          have hm : behindInMarks op b = false := by cases b <;> first | rfl | cases hb
          exact ⟨(fun z => nomatch z), fun C X Wx g t => noPW (cmp_pe g h1 hm (ih h2 C X Wx g t).pe (ih h3 C X Wx g t).pe).1 (cmp_pe g h1 hm (ih h2 C X Wx g t).pe (ih h3 C X Wx g t).pe).2 (fun _ _ _ z => nomatch z)⟩
        · cases h
      · cases h
    · rename_i o1 o2 b c
      split at h
      · rename_i hb
        split at h
        · rename_i p1 p2 sa sb sc h1 h2 h3 h4 h5
          cases h
          have hm : lastMarks [o1, o2] [b, c] = false := by
            show behindInMarks o2 c = false
            cases c <;> first | rfl | cases hb
          exact ⟨(fun z => nomatch z), fun C X Wx g t => noPW (chain_pe g h1 h2 hm (ih h3 C X Wx g t).pe (ih h4 C X Wx g t).pe (ih h5 C X Wx g t).pe).1 (chain_pe g h1 h2 hm (ih h3 C X Wx g t).pe (ih h4 C X Wx g t).pe (ih h5 C X Wx g t).pe).2 (fun _ _ _ z => nomatch z)⟩
        · cases h
      · cases h
    · cases h
  case Call f es kws pos =>
    split at h
    · rename_i x px
      split at h
      · rename_i hgl
        split at h
        · rename_i hx
          subst hx
          split at h
          · rename_i a T p2
            split at h
            · rename_i hb
              simp only [Bool.and_eq_true] at hb
              obtain ⟨⟨⟨h1, h2⟩, h3⟩, h4⟩ := hb
              obtain ⟨sa, h5, rfl⟩ := map_some h
              have hT : ∃ t : String, t ∈ ["int", "bool", "str", "tuple", "list"] ∧ T = Str.ofString t := by
                unfold typeNames at h3
                have : T = Str.ofString "int" ∨ T = Str.ofString "bool" ∨ T = Str.ofString "str" ∨ T = Str.ofString "tuple" ∨ T = Str.ofString "list" := by simpa using h3
                rcases this with rfl | rfl | rfl | rfl | rfl <;> exact ⟨_, by simp, rfl⟩
              obtain ⟨t0, ht0, rfl⟩ := hT
              exact ⟨(fun z => nomatch z), fun C X Wx g t => okP g (isin_pe g ht0 h1 h2 h4 (ih h5 C X Wx g t).pe) (by intro _; rfl) (.inl (isin_evT _ _)) (fun _ _ _ z => nomatch z)⟩
            · cases h
          · cases h
        · split at h
          · rename_i hf
            split at h
            · rename_i hn
              simp only [Bool.and_eq_true, decide_eq_true_eq] at hn
              obtain ⟨ses, h1, rfl⟩ := map_some h
              obtain ⟨a1, a2, a3⟩ := M.2.1 _ _ _ h1
              match es, hn.2, hf, a1, a2, a3 with
              | e :: es, _, hf, a1, a2, a3 => exact ⟨(fun z => nomatch z), fun C X Wx g t => okP g (callN_pe g t hgl hf a1 a2 (a3 C X Wx g t).2) (by intro _; rfl) (.inr rfl) (fun _ _ _ z => nomatch z)⟩
            · obtain ⟨ses, h1, rfl⟩ := map_some h
              obtain ⟨a1, a2, a3⟩ := M.2.1 _ _ _ h1
              exact ⟨(fun z => nomatch z), fun C X Wx g t => okP g (call_pe g t hgl hf a1 a2 (a3 C X Wx g t).2) (by intro _; rfl) (.inl rfl) (fun _ _ _ z => nomatch z)⟩
          · split at h
            · rename_i hb
              simp only [Bool.and_eq_true, decide_eq_true_eq] at hb
              obtain ⟨hb1, rfl⟩ := hb
              split at h
              · rename_i y p3 a p4
                split at h
                · rename_i hb
                  simp only [Bool.and_eq_true, decide_eq_true_eq] at hb
                  obtain ⟨⟨h1, rfl⟩, h3⟩ := hb
                  obtain ⟨sa, h5, rfl⟩ := map_some h
                  exact ⟨(fun z => nomatch z), fun C X Wx g t => okP g (sset_pe g hb1 h1 h3 (ih h5 C X Wx g t).pe) (by intro _; rfl) (.inl rfl) (fun _ _ _ z => nomatch z)⟩
                · obtain ⟨sa, h5, rfl⟩ := map_some h
                  exact ⟨(fun z => nomatch z), fun C X Wx g t => okP g (sortedL_pe g hb1 rfl (cons_pw rfl (ih h5 C X Wx g t).pe nil_pw)) (by intro _; rfl) (.inl rfl) (fun _ _ _ z => nomatch z)⟩
              · rename_i a _
                split at h
                · rename_i hn
                  obtain ⟨sa, h5, rfl⟩ := map_some h
                  exact ⟨(fun z => nomatch z), fun C X Wx g t => okP g (sortedL_pe g hb1 hn (cons_pw hn (ih h5 C X Wx g t).pe nil_pw)) (by intro _; rfl) (.inl rfl) (fun _ _ _ z => nomatch z)⟩
                · cases h
              · cases h
            · split at h
              · rename_i hb
                simp only [Bool.and_eq_true, decide_eq_true_eq] at hb
                obtain ⟨hb1, rfl⟩ := hb
                split at h
                · rename_i a
                  split at h
                  · rename_i hn
                    obtain ⟨sa, h5, rfl⟩ := map_some h
                    exact ⟨(fun z => nomatch z), fun C X Wx g t => okP g (dictP_pe g hb1 hn (cons_pw hn (ih h5 C X Wx g t).pe nil_pw)) (by intro _; rfl) (.inl rfl) (fun _ _ _ z => nomatch z)⟩
                  · cases h
                · cases h
              split at h
              · rename_i hb
                simp only [Bool.and_eq_true, decide_eq_true_eq] at hb
                obtain ⟨hb1, rfl⟩ := hb
                split at h
                · rename_i y p3 a b p4
                  split at h
                  · rename_i hb
                    simp only [Bool.and_eq_true, decide_eq_true_eq] at hb
                    obtain ⟨⟨⟨h1, rfl⟩, h3⟩, h4⟩ := hb
                    split at h
                    · rename_i sa sb h5 h6
                      cases h
                      exact ⟨(fun z => nomatch z), fun C X Wx g t => okP g (lrng_pe g hb1 h1 h3 h4 (ih h5 C X Wx g t).pe (ih h6 C X Wx g t).pe) (by intro _; rfl) (.inl rfl) (fun _ _ _ z => nomatch z)⟩
                    · cases h
                  · obtain ⟨sa, h5, rfl⟩ := map_some h
                    exact ⟨(fun z => nomatch z), fun C X Wx g t => okP g (blt_pe g hb1 (by decide +kernel) rfl (cons_pw rfl (ih h5 C X Wx g t).pe nil_pw)) (by intro _; rfl) (.inl rfl) (fun _ _ _ z => nomatch z)⟩
                · rename_i y p3 a p4
                  split at h
                  · rename_i hb
                    simp only [Bool.and_eq_true, decide_eq_true_eq] at hb
                    obtain ⟨⟨h1, rfl⟩, h3⟩ := hb
                    obtain ⟨sa, h5, rfl⟩ := map_some h
                    exact ⟨(fun z => nomatch z), fun C X Wx g t => okP g (lrng1_pe g hb1 h1 h3 (ih h5 C X Wx g t).pe) (by intro _; rfl) (.inl rfl) (fun _ _ _ z => nomatch z)⟩
                  · obtain ⟨sa, h5, rfl⟩ := map_some h
                    exact ⟨(fun z => nomatch z), fun C X Wx g t => okP g (blt_pe g hb1 (by decide +kernel) rfl (cons_pw rfl (ih h5 C X Wx g t).pe nil_pw)) (by intro _; rfl) (.inl rfl) (fun _ _ _ z => nomatch z)⟩
                · rename_i o m ap cp
                  split at h
                  · rename_i hb
                    simp only [Bool.and_eq_true, decide_eq_true_eq] at hb
                    obtain ⟨⟨rfl, h2⟩, h3⟩ := hb
                    obtain ⟨sa, h5, rfl⟩ := map_some h
                    exact ⟨(fun z => nomatch z), fun C X Wx g t => okP g (lvalues_pe g hb1 (plainBase_ok h2) h3 (ih h5 C X Wx g t).pe) (by intro _; rfl) (.inl rfl) (fun _ _ _ z => nomatch z)⟩
                  · cases h
                · rename_i a _
                  split at h
                  · rename_i hn
                    obtain ⟨sa, h5, rfl⟩ := map_some h
                    exact ⟨(fun z => nomatch z), fun C X Wx g t => okP g (blt_pe g hb1 (by decide +kernel) (by simp [noStars, hn]) (cons_pw hn (ih h5 C X Wx g t).pe nil_pw)) (by intro _; rfl) (.inl rfl) (fun _ _ _ z => nomatch z)⟩
                  · cases h
                · cases h
              · split at h
                · rename_i hb
                  simp only [Bool.and_eq_true, decide_eq_true_eq] at hb
                  obtain ⟨⟨hb1, hb2⟩, hb3⟩ := hb
                  obtain ⟨ses, h1, rfl⟩ := map_some h
                  obtain ⟨a1, a2, a3⟩ := M.2.1 _ _ _ h1
                  cases es with
                  | nil => cases hb3
                  | cons e es => exact ⟨(fun z => nomatch z), fun C X Wx g t => okP g (blt_pe g hb1 hb2 a1 (a3 C X Wx g t).2) (by intro _; rfl) (.inl rfl) (fun _ _ _ z => nomatch z)⟩
                · cases h
      · cases h
    · rename_i o m ap
      split at h
      · rename_i hb
        simp only [Bool.and_eq_true, decide_eq_true_eq] at hb
        obtain ⟨⟨rfl, hb2⟩, hb3⟩ := hb
        split at h
        · rename_i a
          split at h
          · rename_i hn
            split at h
            · rename_i so sa h1 h2
              cases h
              exact ⟨(fun z => nomatch z), fun C X Wx g t => okP g (append_pe g (plainBase_ok hb2) hb3 hn (ih h1 C X Wx g t).pe (cons_pw hn (ih h2 C X Wx g t).pe nil_pw)) (by intro _; rfl) (.inr rfl) (fun _ _ _ z => nomatch z)⟩
            · cases h
          · cases h
        · cases h
      · split at h
        · rename_i hb
          simp only [Bool.and_eq_true, decide_eq_true_eq] at hb
          obtain ⟨⟨rfl, hb2⟩, hb3⟩ := hb
          split at h
          · rename_i a
            split at h
            · rename_i hn
              split at h
              · rename_i so sa h1 h2
                cases h
                exact ⟨(fun z => nomatch z), fun C X Wx g t => okP g (get_pe g (plainBase_ok hb2) hb3 hn (ih h1 C X Wx g t).pe (ih h2 C X Wx g t).pe) (by intro _; rfl) (.inr rfl) (fun _ _ _ z => nomatch z)⟩
              · cases h
            · cases h
          · cases h
        · cases h
    · cases h
  case Dict ks vs pos =>
    split at h
    · cases h
      exact ⟨(fun z => nomatch z), fun C X Wx g t => okP g dct0_pe (by intro _; rfl) (.inr rfl) (fun _ _ _ z => nomatch z)⟩
    · split at h
      · rename_i sk sv h1 h2
        cases h
        exact ⟨(fun z => nomatch z), fun C X Wx g t => okP g (dct1_pe g.eK g.ew g.units (fun l => (ih h1 _ X Wf (g.w0 l) takes0).pe) fun l => (ih h2 _ X Wf (g.w0 l) takes0).pe) (by intro _; rfl) (.inr rfl) (fun _ _ _ z => nomatch z)⟩
      · cases h
    · cases h
  case Constant c j pos =>
    cases c <;> simp only at h <;> first | cases h | skip
    · exact ⟨(fun z => nomatch z), fun C X Wx g t => okP g (dat_pe pe_non fun _ _ => .non) (by intro _; rfl) (.inr rfl) (fun _ _ _ z => nomatch z)⟩
    · exact ⟨(fun z => nomatch z), fun C X Wx g t => okP g (dat_pe pe_bl fun _ _ => .bl _) (by intro _; rfl) (.inr rfl) (fun _ _ _ z => nomatch z)⟩
    · exact ⟨(fun z => nomatch z), fun C X Wx g t => okP g (dat_pe pe_int fun _ _ => .int _) (by intro _; rfl) (.inr rfl) (fun _ _ _ z => nomatch z)⟩
    · split at h
      · rename_i hl
        cases h
        exact ⟨(fun z => nomatch z), fun C X Wx g t => okP g (dat_pe pe_str fun _ _ => .str _ (by rw [sizeLine_eq]; omega)) (by intro _; rfl) (.inr rfl) (fun _ _ _ z => nomatch z)⟩
      · cases h
  case Subscript a i pos =>
    split at h
    · rename_i lo hi p2
      split at h
      · rename_i sa sl sh h1 h2 h3
        cases h
        exact ⟨(fun z => nomatch z), fun C X Wx g t => okP g (slc_pe g (ih h1 C X Wx g t).pe (M.2.2.1 _ _ _ h2 C X Wx g t) (M.2.2.1 _ _ _ h3 C X Wx g t)) (by intro _; rfl) (.inr rfl) (fun _ _ _ z => nomatch z)⟩
      · cases h
    · split at h
      · rename_i sa h1
        cases h
        exact ⟨(fun z => nomatch z), fun C X Wx g t => okP g (rev_pe g (ih h1 C X Wx g t).pe) (by intro _; rfl) (.inl rfl) (fun _ _ _ z => nomatch z)⟩
      · cases h
    · split at h
      · rename_i hn
        split at h
        · rename_i sa sb h1 h2
          cases h
          exact ⟨(fun z => nomatch z), fun C X Wx g t => okP g (idx_pe g hn (ih h1 C X Wx g t).pe (ih h2 C X Wx g t).pe) (by intro _; rfl) (.inl rfl) (fun _ _ _ z => nomatch z)⟩
        · cases h
      · cases h
  case Name x pos =>
    have vis : ∀ {kd : NameKind}, Γ.sc.names.lookup x = some kd → (kd = .local ∨ kd = .cell ∨ kd = .free) → ∀ C X, Gd C F G XX k Γ X → Vis X.env.scope x := fun {kd} e hk C X g => by
      rcases hk with rfl | rfl | rfl
      · exact .inl (by rw [g.esc]; exact e)
      · exact .inr (.inl (by rw [g.esc]; exact e))
      · exact .inr (.inr (by rw [g.esc]; exact e))
    have go : ∀ {kd : NameKind}, Γ.sc.names.lookup x = some kd → (kd = .local ∨ kd = .cell ∨ kd = .free) → (if okName x = true then (ixOf x Γ.N).map SE.var else none) = some se → se ≠ .nop ∧ ∀ C X Wx, Gd C F G XX k Γ X → Takes X Wx → OkE C F G XX k X Wx (.Name x pos) se := by
      intro kd e hk h
      split at h
      · rename_i ho
        obtain ⟨i, hi, rfl⟩ := map_some h
        exact ⟨(fun z => nomatch z), fun C X Wx g t => okP g (var_pe g (vis e hk C X g) ho hi) (by intro _; rfl) (.inl (var_evT i)) (fun _ _ _ z => nomatch z)⟩
      · cases h
    split at h
    · rename_i e
      split at h
      · rename_i hb
        rw [Bool.and_eq_true] at hb
        cases h
        have hgl : isGl Γ x = true := by unfold isGl; rw [e]; exact hb.1
        exact ⟨(fun z => nomatch z), fun C X Wx g t => okP g (glob_pe g hgl hb.2) (by intro _; rfl) (.inr rfl) (fun _ _ _ z => nomatch z)⟩
      · cases h
    · rename_i e; exact go e (.inl rfl) h
    · rename_i e; exact go e (.inr (.inl rfl)) h
    · rename_i e; exact go e (.inr (.inr rfl)) h
    · cases h
  case List es pos =>
    split at h
    · rename_i hl
      obtain ⟨ses, h1, rfl⟩ := map_some h
      obtain ⟨a1, a2, a3⟩ := M.2.1 _ _ _ h1
      exact ⟨(fun z => nomatch z), fun C X Wx g t => okP g (lst_pe (by omega) (a3 C X Wx g t).1) (by intro _; rfl) (.inr rfl) (fun _ _ _ z => nomatch z)⟩
    · cases h
  case Tuple es j pos =>
    split at h
    · rename_i hl
      obtain ⟨ses, h1, rfl⟩ := map_some h
      obtain ⟨a1, a2, a3⟩ := M.2.1 _ _ _ h1
      exact ⟨(fun z => nomatch z), fun C X Wx g t => okP g (tup_pe (by omega) (a3 C X Wx g t).1) (by intro _; rfl) (.inr rfl) (fun _ _ _ z => nomatch z)⟩
    · cases h
theorem main_all : ∀ n, Main F G XX k n
  | 0 => main_zero
  | n + 1 => ⟨fun _ _ _ _ h => main_E (main_all n) h, fun _ _ _ h => main_A (main_all n) h, fun _ _ _ h => main_O (main_all n) h, fun _ _ _ h => main_I (main_all n) h⟩
end
end Sim
set_option maxHeartbeats 2000000
namespace Sim
open PySem PySem.Spec PyProof.Rows L2
/-! ### statements -/
def RSt (C : Cxt) (Wx : WX) (r : RS) (ρ : List Addr) (H : Hp) (D : Ends) : Prop := match r with
  | .nx e m => ∀ ρ' σ' H', Ext ρ H ρ' H' → HR C ρ' H' m → ER C ρ' H' σ' e → D.nx σ' H'
  | .rt w m => ∀ ρ' v H', Ext ρ H ρ' H' → HR C ρ' H' m → WR C ρ' H' v w → D.rt v H'
  | .bk e m => ∀ ρ' σ' H', Ext ρ H ρ' H' → HR C ρ' H' m → ER C ρ' H' σ' e → D.bk σ' H'
  | .ct e m => ∀ ρ' σ' H', Ext ρ H ρ' H' → HR C ρ' H' m → ER C ρ' H' σ' e → D.ct σ' H'
  | .exc c fs e m => ∀ ρ' σ' H', Ext ρ H ρ' H' → HR C ρ' H' m → ER C ρ' H' σ' e → XE C ρ' c fs H' (WE Wx σ')
  | .bad => False
def tS (C : Cxt) (Wx : WX) (f : Env → MH → RS) : TS := fun D σ H => ∃ ρ e m, HR C ρ H m ∧ ER C ρ H σ e ∧ RSt C Wx (f e m) ρ H D
section
variable {C : Cxt} {Wx : WX} {ρ ρ' : List Addr} {H H' : Hp} {r : RS} {D' : Ends} {σ : St} {m : MH}
theorem RSt.base (h : RSt C Wx r ρ H D') (x : Ext ρ H ρ' H') : RSt C Wx r ρ' H' D' := by
  cases r with
  | nx e m => exact fun ρ2 b H2 y => h ρ2 b H2 (x.trans y)
  | rt e m => exact fun ρ2 b H2 y => h ρ2 b H2 (x.trans y)
  | bk e m => exact fun ρ2 b H2 y => h ρ2 b H2 (x.trans y)
  | ct e m => exact fun ρ2 b H2 y => h ρ2 b H2 (x.trans y)
  | exc c fs e m => exact fun ρ2 b H2 y => h ρ2 b H2 (x.trans y)
  | bad => exact h
theorem RSt.off (h : RSt C Wx .bad ρ H D') {P : Prop} : P := (show False from h).elim
theorem RSt.nxt {e : Env} (h : RSt C Wx (.nx e m) ρ H D') (hr : HR C ρ H m) (er : ER C ρ H σ e) : D'.nx σ H := h ρ σ H Ext.refl hr er
theorem RSt.thn {α β : Type} {rel : List Addr → Hp → β → α → Prop} {x : R α} {e : Env} {f : α → MH → RS} (er : ER C ρ H σ e) (h : RSt C Wx (x.thn e f) ρ H D') :
    RG C rel (WE Wx σ) x ρ H fun b H1 => ∃ ρ1 a m1, Ext ρ H ρ1 H1 ∧ HR C ρ1 H1 m1 ∧ ER C ρ1 H1 σ e ∧ rel ρ1 H1 b a ∧ RSt C Wx (f a m1) ρ1 H1 D' := by
  cases x with
  | ok a m => exact fun ρ2 b H2 y z w => ⟨ρ2, a, m, y, z, er.ext y, w, h.base y⟩
  | exc c fs m => exact fun ρ2 H2 y z => h ρ2 σ H2 y z (er.ext y)
  | bad => exact h
theorem tS.thn {α β : Type} {rel : List Addr → Hp → β → α → Prop} {f : Env → MH → R α} {g : Env → α → MH → RS} (h : tS C Wx (fun e m => (f e m).thn e (g e)) D' σ H) :
    tG C Wx rel f σ H fun b H1 => ∃ ρ e a m, HR C ρ H1 m ∧ ER C ρ H1 σ e ∧ rel ρ H1 b a ∧ RSt C Wx (g e a m) ρ H1 D' := by
  obtain ⟨ρ, e, m, hr, er, q⟩ := h
  exact ⟨ρ, e, m, hr, er, (RSt.thn (rel := rel) er q).mono fun b H1 ⟨ρ1, a, m1, x, z, er1, w, q1⟩ => ⟨ρ1, e, a, m1, z, er1, w, q1⟩⟩
end
theorem _root_.L2.PS.imp {X : Cx} {s : Stmt} {t t' : TS} (h : PS X s t) (i : ∀ D σ H, t' D σ H → t D σ H) : PS X s t' := ⟨fun pins s σ H D I q => h.run pins s σ H D I (i D σ H q)⟩
theorem _root_.L2.PSs.imp {X : Cx} {s : List Stmt} {t t' : TS} (h : PSs X s t) (i : ∀ D σ H, t' D σ H → t D σ H) : PSs X s t' := ⟨fun pins s σ H D I q => h.run pins s σ H D I (i D σ H q)⟩

structure GdS (C : Cxt) (F : List Fn) (G : Str → Option D) (XX : Str → Str → Bool) (k : Nat) (Γ : Gam) (X : Cx) : Prop where
  gd : Gd C F G XX k Γ X
  pass : PassesOwn (model X.prog X.w) X.A X.env X.xe
  stk : X.stack = X.env :: X.outer
  frm : X.env.frame = some X.env.locals
  kind : X.env.scope.kind = .function
  errs : ∀ c, Γ.E.contains c = true → ∃ a, C.cls c = some a ∧ X.mg c = some (.ref a) ∧ PySem.W.keepIn X.K (.ref a) = true ∧ PySem.W.excIn X.K a HandSPX.veTail "ValueError.__new__" = true ∧ Raises X (.ref a)
  exm : ∀ c k a a', C.cls c = some a → C.cls k = some a' → PySem.W.exmOne X.K (.ref a) (.ref a') = some (XX c k)
  exk : ∀ c k, XX c k = true → ∃ a, C.cls c = some a
section
variable {C : Cxt} {F : List Fn} {G : Str → Option D} {XX : Str → Str → Bool} {k : Nat} {Γ : Gam} {X : Cx} {Wx : WX} {C' : CallS}
/-- a value that is no comprehension -/
def noComp : Expr → Bool
  | .ListComp .. => false
  | .SetComp .. => false
  | .DictComp .. => false
  | _ => true
theorem noComp_sw {e : Expr} (h : noComp e = true) (tg : Option Expr) (l : Nat) (env : PySem.Env) : swapsWith e tg l env = pure false := by
  cases e <;> first | rfl | cases h
theorem noComp_sole {e : Expr} (h : noComp e = true) (tg : Expr) (l : Nat) (env : PySem.Env) : swapsWithSole [tg] e l env = pure false := by
  show swapsWith e (some tg) l env = pure false
  exact noComp_sw h _ _ _
theorem slot_full (g : Gd C F G XX k Γ X) {x : Str} {i : Nat} (h : slot Γ x = some i) : X.N[i]? = some x ∧ Loc X.env.scope x ∧ (X.fn x = true ∨ X.env.scope.names.lookup x = some .local) := by
  obtain ⟨h1, h2⟩ := slot_ok h
  rcases h1 with h1 | ⟨h1, h3⟩
  · exact ⟨by rw [g.eN]; exact h2, .inl (by rw [g.esc]; exact h1), .inr (by rw [g.esc]; exact h1)⟩
  · exact ⟨by rw [g.eN]; exact h2, .inr (by rw [g.esc]; exact h1), .inl (g.fnA h3 x)⟩
theorem asg_ps (g : Gd C F G XX k Γ X) {x : Str} {i : Nat} {e : Expr} {se : SE} {px pos : Pos} (hi : slot Γ x = some i) (hc : noComp e = true) (he : PE X e (tE C Wx (evE C' G se))) : PS X (.Assign [.Name x px] e pos) (tS C Wx (evS C' G XX (.asg i se))) := by
  obtain ⟨h1, h2, h3⟩ := slot_full g hi
  refine (ps_set (pos' := px) g.nd h1 h2 he (noComp_sw hc _ _ _) h3).imp fun D' σ H q => ?_
  exact (tS.thn (rel := relW C) q).mono fun y H1 ⟨ρ, e, w, m, hr, er, r, q1⟩ => q1.nxt hr (ER.set r i er)
theorem asgT_ps (g : Gd C F G XX k Γ X) {ts : List Expr} {is : List Nat} {e : Expr} {se : SE} {j : Nat} {pt pos : Pos} (hs : Slots X ts is) (hc : noComp e = true) (hw : swappedStores [.Tuple ts j pt] e X.env = pure none) (he : PE X e (tE C Wx (evE C' G se))) :
    PS X (.Assign [.Tuple ts j pt] e pos) (tS C Wx (evS C' G XX (.asgT is se))) := by
  refine (ps_asg (tg := .Tuple ts j pt) (pos := pos) he (tup_pg (C := C) (j := j) (p := pt) g.eK g.nd g.calm hs) (noComp_sole hc _ _ _) hw rfl).imp fun D' σ H q => ?_
  refine (tS.thn (rel := relW C) q).mono fun y H1 => ?_
  rintro ⟨ρ, e, w, m, hr, er, r, q1⟩
  cases w with
  | r i => exact q1.off
  | s i => exact q1.off
  | d d =>
    simp only at q1
    cases ha : asgTg is true d e with
    | none => simp only [ha] at q1; exact q1.off
    | some e' =>
      simp only [ha] at q1
      exact ⟨ρ, e, d, e', er, r, ha, fun σ' er' _ => q1.nxt hr er'⟩
theorem expr_ps {e : Expr} {se : SE} {pos : Pos} (hc : noComp e = true) (he : PE X e (tE C Wx (evE C' G se))) : PS X (.Expr e pos) (tS C Wx (evS C' G XX (.expr se))) := by
  refine (ps_expr he (noComp_sw hc _ _ _)).imp fun D' σ H q => ?_
  exact (tS.thn (rel := relW C) q).mono fun y H1 ⟨ρ, e, w, m, hr, er, r, q1⟩ => q1.nxt hr er
theorem ret_ps {e : Expr} {se : SE} {pos : Pos} (he : PE X e (tE C Wx (evE C' G se))) : PS X (.Return (some e) pos) (tS C Wx (evS C' G XX (.ret se))) := by
  refine (ps_ret he).imp fun D' σ H q => ?_
  exact (tS.thn (rel := relW C) q).mono fun y H1 ⟨ρ, e, w, m, hr, er, r, q1⟩ => q1 ρ y H1 Ext.refl hr r
theorem retN_ps {pos : Pos} : PS X (.Return none pos) (tS C Wx (evS C' G XX .retN)) := by
  refine ps_retN.imp fun D' σ H q => ?_
  obtain ⟨ρ, e, m, hr, er, q⟩ := q
  exact q ρ .non H Ext.refl hr .non
theorem pass_ps {pos : Pos} : PS X (.Pass pos) (tS C Wx (evS C' G XX .pass)) := by
  refine ps_pass.imp fun D' σ H q => ?_
  obtain ⟨ρ, e, m, hr, er, q⟩ := q
  exact q.nxt hr er
theorem brk_ps {pos : Pos} : PS X (.Break pos) (tS C Wx (evS C' G XX .brk)) := by
  refine ps_break.imp fun D' σ H q => ?_
  obtain ⟨ρ, e, m, hr, er, q⟩ := q
  exact q ρ σ H Ext.refl hr er
theorem cont_ps {pos : Pos} : PS X (.Continue pos) (tS C Wx (evS C' G XX .cont)) := by
  refine ps_continue.imp fun D' σ H q => ?_
  obtain ⟨ρ, e, m, hr, er, q⟩ := q
  exact q ρ σ H Ext.refl hr er
theorem nil_pss : PSs X [] (tS C Wx (evSs C' G XX .nil)) := by
  refine pss_nil.imp fun D' σ H q => ?_
  obtain ⟨ρ, e, m, hr, er, q⟩ := q
  exact q.nxt hr er
theorem cons_pss {s : Stmt} {ss : List Stmt} {a : SS} {b : SSs} (h1 : PS X s (tS C Wx (evS C' G XX a))) (h2 : PSs X ss (tS C Wx (evSs C' G XX b))) : PSs X (s :: ss) (tS C Wx (evSs C' G XX (.cons a b))) := by
  refine (pss_cons h1 h2).imp fun D' σ H q => ?_
  obtain ⟨ρ, e, m, hr, er, q⟩ := q
  refine ⟨ρ, e, m, hr, er, ?_⟩
  have q : RSt C Wx ((evS C' G XX a e m).thn fun e m => evSs C' G XX b e m) ρ H D' := q
  cases h : evS C' G XX a e m with
  | nx e1 m1 =>
    rw [h] at q
    exact fun ρ1 σ1 H1 x1 hr1 er1 => ⟨ρ1, e1, m1, hr1, er1, RSt.base q x1⟩
  | rt w m1 => rw [h] at q; exact q
  | bk w m1 => rw [h] at q; exact q
  | ct w m1 => rw [h] at q; exact q
  | exc c fs e1 m1 => rw [h] at q; exact q
  | bad => rw [h] at q; exact q.off
theorem ite_ps {c : Expr} {a b : List Stmt} {sc : SE} {sa sb : SSs} {pos : Pos} (hc : PT X c (tT C Wx (evT C' G sc))) (ha : PSs X a (tS C Wx (evSs C' G XX sa))) (hb : PSs X b (tS C Wx (evSs C' G XX sb))) : PS X (.If c a b pos) (tS C Wx (evS C' G XX (.ite sc sa sb))) := by
  refine (ps_if hc ha hb).imp fun D' σ H q => ?_
  refine (tS.thn (rel := relB) q).mono fun x H1 => ?_
  rintro ⟨ρ, e, a, m, hr, er, rfl, q1⟩
  cases x with
  | true => rw [if_pos rfl] at q1 ⊢; exact ⟨ρ, e, m, hr, er, q1⟩
  | false => rw [if_neg Bool.false_ne_true] at q1 ⊢; exact ⟨ρ, e, m, hr, er, q1⟩
theorem plainAsg_sub {o i : Expr} {p : Pos} {env : PySem.Env} (h : noSlice i = true) (v : Value) : assign (.Subscript o i p) env v = (do
      let ov ← holding [v] (eval o env)
      let iv ← holding [v, ov] (eval i env)
      standAt p
      holding [v, ov, iv] (setItem ov iv v)
      release [v, ov, iv] []) := by
  cases i <;> first | rfl | cases h
theorem sub_sole (e o i : Expr) (p : Pos) (l : Nat) (env : PySem.Env) : swapsWithSole [.Subscript o i p] e l env = pure false := by cases e <;> rfl
theorem sub_ps (g : Gd C F G XX k Γ X) {o i e : Expr} {so si se : SE} {p pos : Pos} (hn : noSlice i = true) (ho : PE X o (tE C Wx (evE C' G so))) (hi : PE X i (tE C Wx (evE C' G si))) (he : PE X e (tE C Wx (evE C' G se))) :
    PS X (.Assign [.Subscript o i p] e pos) (tS C Wx (evS C' G XX (.sub so si se))) := by
  refine (ps_asg (tg := .Subscript o i p) (pos := pos) he (pg_sub ho hi (sub_store_ok (C := C) g.eK g.ew g.units) (plainAsg_sub hn)) (sub_sole _ _ _ _ _ _) rfl rfl).imp fun D' σ H q => ?_
  refine (tS.thn (rel := relW C) q).mono fun v H1 => ?_
  rintro ⟨ρ, e, wv, m, hr, er, r, q1⟩
  refine ⟨ρ, e, m, hr, er, (RSt.thn (rel := relW C) er q1).mono fun x H2 => ?_⟩
  rintro ⟨ρ2, wo, m2, x2, hr2, er2, r2, q2⟩
  refine ⟨ρ2, e, m2, hr2, er2, (RSt.thn (rel := relW C) er2 q2).mono fun y H3 => ?_⟩
  rintro ⟨ρ3, wi, m3, x3, hr3, er3, r3, q3⟩
  exact ⟨ρ3, wo, wi, wv, m3, WE Wx σ, hr3, WR.ext x3 r2, r3, WR.ext x3 (WR.ext x2 r), (RSt.thn (rel := fun _ _ (_ : Unit) (_ : Unit) => True) er3 q3).mono fun _ H4 ⟨ρ4, _, m4, x4, hr4, er4, _, q4⟩ => q4.nxt hr4 er4⟩
end
end Sim
set_option maxHeartbeats 2000000
namespace Sim
open PySem PySem.Spec PyProof.Rows L2
section
variable {C : Cxt} {F : List Fn} {G : Str → Option D} {XX : Str → Str → Bool} {k : Nat} {Γ : Gam} {X : Cx} {Wx : WX} {C' : CallS}
/-- what a loop's body leads to, one turn -/
theorem RSt.turn {ρ : List Addr} {H : Hp} {D' : Ends} {r : RS} {go : Env → MH → RS} {N : St → Hp → Prop}
    (q : RSt C Wx (match r with | .nx e m => go e m | .ct e m => go e m | .bk e m => .nx e m | x => x) ρ H D')
    (hN : ∀ ρ' σ' H' e m, Ext ρ H ρ' H' → HR C ρ' H' m → ER C ρ' H' σ' e → RSt C Wx (go e m) ρ' H' D' → N σ' H') : RSt C Wx r ρ H { D' with nx := N, ct := N, bk := D'.nx } := by
  cases r with
  | nx e m => exact fun ρ' σ' H' x hr er => hN ρ' σ' H' e m x hr er (RSt.base q x)
  | ct e m => exact fun ρ' σ' H' x hr er => hN ρ' σ' H' e m x hr er (RSt.base q x)
  | bk e m => exact q
  | rt w m => exact q
  | exc c fs e m => exact q
  | bad => exact q
theorem for_ps (g : GdS C F G XX k Γ X) {tg iter : Expr} {body : List Stmt} {is : List Nat} {tt : Bool} {src : SI} {sb : SSs} {pos : Pos} (hns : noSet iter = true)
    (hi : PI X tg iter (tJ C X.K Wx (evI C' G src))) (hg : PG X tg (gT C is tt)) (hb : PSs X body (tS C Wx (evSs C' G XX sb))) : PS X (.For tg iter body [] pos) (tS C Wx (evS C' G XX (.for_ is tt src sb))) := by
  have hs : ∀ x, foldedSetIterable iter X.env x = pure x := by
    intro x
    cases iter <;> first | rfl | cases hns
  refine (ps_for g.pass g.gd.calm hi hg hb hs).imp fun D' σ H q => ?_
  obtain ⟨ρ, e, m, hr, er, q⟩ := q
  refine ⟨ρ, e, m, hr, er, (RSt.thn (rel := fun ρ H J s => RJ C X.K ρ H J s) er q).mono fun J H1 => ?_⟩
  rintro ⟨ρ1, sr, m1, x1, hr1, er1, rj, q1⟩
  cases sr with
  | vals ds =>
    have wk : Walks C ρ1 H1 J ds := rj
    refine ⟨fun i n σ2 H2 => n = ds.length - i ∧ i ≤ ds.length ∧ ∃ ρ2 e2 m2, Ext ρ1 H1 ρ2 H2 ∧ HR C ρ2 H2 m2 ∧ ER C ρ2 H2 σ2 e2 ∧ RSt C Wx (forV (asgTg is tt) (evSs C' G XX sb) (ds.drop i) e2 m2) ρ2 H2 D',
      ⟨ds.length, by simp, Nat.zero_le _, ρ1, e, m1, Ext.refl, hr1, er1, q1⟩, ?_⟩
    rintro i n σ2 H2 ⟨rfl, hi, ρ2, e2, m2, x2, hr2, er2, q2⟩
    by_cases hlt : i < ds.length
    · have hd : ds[i]? = some ds[i] := List.getElem?_eq_getElem hlt
      refine .inr ⟨wk.go x2 hd, fun σ4 H4 => i + 1 ≤ ds.length ∧ ∃ ρ2 e2 m2, Ext ρ1 H1 ρ2 H4 ∧ HR C ρ2 H4 m2 ∧ ER C ρ2 H4 σ4 e2 ∧ RSt C Wx (forV (asgTg is tt) (evSs C' G XX sb) (ds.drop (i + 1)) e2 m2) ρ2 H4 D',
        fun σ4 H4 h4 => ⟨ds.length - (i + 1), by omega, rfl, h4⟩, fun x H3 hy => ?_⟩
      obtain ⟨e23, hr3, dx⟩ := wk.yld Cext.refl x2 hr2 hd hy
      rw [List.drop_eq_getElem_cons hlt] at q2
      simp only [forV] at q2
      cases ha : asgTg is tt ds[i] e2 with
      | none => simp only [ha] at q2; exact q2.off
      | some e' =>
        simp only [ha] at q2
        refine ⟨ρ2, e2, ds[i], e', er2.ext e23, dx, ha, fun σ4 er4 _ => ⟨ρ2, e', m2, hr3, er4, ?_⟩⟩
        refine RSt.turn (go := fun e m => forV (asgTg is tt) (evSs C' G XX sb) (ds.drop (i + 1)) e m) (RSt.base q2 e23) fun ρ5 σ5 H5 e5 m5 x5 hr5 er5 q5 => ⟨hlt, ρ5, e5, m5, (x2.trans e23).trans x5, hr5, er5, q5⟩
    · have e : i = ds.length := by omega
      subst e
      rw [List.drop_length] at q2
      exact .inl ⟨wk.stop x2 (Nat.le_refl _), RSt.nxt q2 hr2 er2⟩
  | dyn p =>
    obtain ⟨a, xs0, hpa, rfl, hl0⟩ := rj
    refine ⟨fun i n σ2 H2 => ∃ ρ2 e2 m2, Ext ρ1 H1 ρ2 H2 ∧ HR C ρ2 H2 m2 ∧ ER C ρ2 H2 σ2 e2 ∧ RSt C Wx (forP (asgTg is tt) (evSs C' G XX sb) p n i e2 m2) ρ2 H2 D',
      ⟨lenAt m1 p, ρ1, e, m1, Ext.refl, hr1, er1, q1⟩, ?_⟩
    rintro i n σ2 H2 ⟨ρ2, e2, m2, x2, hr2, er2, q2⟩
    have hp2 := x2.pget hpa
    cases hm : m2[p]? with
    | none => cases n <;> simp only [forP, hm] at q2 <;> exact q2.off
    | some o =>
      cases o with
      | dct kvs => cases n <;> simp only [forP, hm] at q2 <;> exact q2.off
      | lst ds =>
        obtain ⟨a', ha', ys, hly, zy, qy⟩ := hr2.at hm
        rw [hp2] at ha'; cases ha'
        have sq : SqL X.K H2 a ys := .inl (.inl hly)
        cases n with
        | zero =>
          simp only [forP, hm] at q2
          split at q2
          · rename_i hle; exact .inl ⟨⟨ys, sq, by rw [qy.length]; exact hle⟩, RSt.nxt q2 hr2 er2⟩
          · exact q2.off
        | succ n =>
          simp only [forP, hm] at q2
          cases hd : ds[i]? with
          | none =>
            simp only [hd] at q2
            exact .inl ⟨⟨ys, sq, by rw [qy.length]; exact List.getElem?_eq_none_iff.mp hd⟩, RSt.nxt q2 hr2 er2⟩
          | some d =>
            simp only [hd] at q2
            obtain ⟨v, h1, h2⟩ := qy.get hd
            refine .inr ⟨⟨ys, v, sq, h1⟩, fun σ4 H4 => ∃ ρ2 e2 m2, Ext ρ1 H1 ρ2 H4 ∧ HR C ρ2 H4 m2 ∧ ER C ρ2 H4 σ4 e2 ∧ RSt C Wx (forP (asgTg is tt) (evSs C' G XX sb) p n (i + 1) e2 m2) ρ2 H4 D', fun σ4 H4 h4 => ⟨n, Nat.lt_succ_self _, h4⟩, fun x H3 hy => ?_⟩
            obtain ⟨rfl, hy⟩ := hy
            have := hy ys sq
            rw [h1] at this
            cases this
            cases ha : asgTg is tt d e2 with
            | none => simp only [ha] at q2; exact q2.off
            | some e' =>
              simp only [ha] at q2
              refine ⟨ρ2, e2, d, e', er2, h2, ha, fun σ4 er4 _ => ⟨ρ2, e', m2, hr2, er4, ?_⟩⟩
              exact RSt.turn (go := fun e m => forP (asgTg is tt) (evSs C' G XX sb) p n (i + 1) e m) q2 fun ρ5 σ5 H5 e5 m5 x5 hr5 er5 q5 => ⟨ρ5, e5, m5, x2.trans x5, hr5, er5, q5⟩
theorem whl_ps (g : GdS C F G XX k Γ X) {c : Expr} {body : List Stmt} {sc : SE} {sb : SSs} {pos : Pos} (hc : PT X c (tT C Wx (evT C' G sc))) (hb : PSs X body (tS C Wx (evSs C' G XX sb))) : PS X (.While c body [] pos) (tS C Wx (evS C' G XX (.whl sc sb))) := by
  refine (ps_while g.pass hc hb).imp fun D' σ H q => ?_
  obtain ⟨ρ, e, m, hr, er, q⟩ := q
  refine ⟨fun n σ2 H2 => ∃ ρ2 e2 m2, HR C ρ2 H2 m2 ∧ ER C ρ2 H2 σ2 e2 ∧ RSt C Wx (whileF (evT C' G sc) (evSs C' G XX sb) n e2 m2) ρ2 H2 D', ⟨whileMost, ρ, e, m, hr, er, q⟩, ?_⟩
  rintro n σ2 H2 ⟨ρ2, e2, m2, hr2, er2, q2⟩
  cases n with
  | zero => exact q2.off
  | succ n =>
    simp only [whileF] at q2
    refine ⟨ρ2, e2, m2, hr2, er2, (RSt.thn (rel := relB) er2 q2).mono fun b H3 => ?_⟩
    rintro ⟨ρ3, b', m3, x3, hr3, er3, rfl, q3⟩
    cases b with
    | false => rw [if_neg Bool.false_ne_true] at q3 ⊢; exact RSt.nxt q3 hr3 er3
    | true =>
      rw [if_pos rfl] at q3 ⊢
      exact ⟨fun σ4 H4 => ∃ ρ2 e2 m2, HR C ρ2 H4 m2 ∧ ER C ρ2 H4 σ4 e2 ∧ RSt C Wx (whileF (evT C' G sc) (evSs C' G XX sb) n e2 m2) ρ2 H4 D', fun σ4 H4 h4 => ⟨n, Nat.lt_succ_self _, h4⟩, ρ3, e2, m3, hr3, er3,
        RSt.turn (go := fun e m => whileF (evT C' G sc) (evSs C' G XX sb) n e m) q3 fun ρ5 σ5 H5 e5 m5 x5 hr5 er5 q5 => ⟨ρ5, e5, m5, hr5, er5, q5⟩⟩
theorem raise_ps (g : GdS C F G XX k Γ X) (tk : Takes X Wx) {c s : Str} {j : Nat} {p p2 p3 pos : Pos} (hg : isGl Γ c = true) (he : Γ.E.contains c = true) : PS X (.Raise (some (.Call (.Name c p) [.Constant (.str s) j p2] [] p3)) none pos) (tS C Wx (evS C' G XX (.raise c))) := by
  obtain ⟨a, h1, h2, h3, h4, h5⟩ := g.errs c he
  refine (ps_raise g.gd.calm tk (pmk_own PySem.F.excBase_ValueError h4 h2 h3 h5 (g.gd.glo hg) (okName_ne (isGl_ok hg).2).1)).imp fun D' σ H q => ?_
  obtain ⟨ρ, e, m, hr, er, q⟩ := q
  have q : RSt C Wx (.exc c [] e m) ρ H D' := q
  obtain ⟨a', e1, q2⟩ := q ρ σ H Ext.refl hr er
  rw [h1] at e1; cases e1
  rcases q2 with ⟨_, q2⟩ | ⟨q2, _⟩
  · exact q2
  · exact absurd rfl q2
/-! a try -/
inductive Hds (C : Cxt) (Γ : Gam) (X : Cx) (C' : CallS) (G : Str → Option D) (XX : Str → Str → Bool) : List ExceptHandler → SHs → Prop
  | nil : Hds C Γ X C' G XX [] .nil
  | cons {c : Str} {b0 : Stmt} {suite : List Stmt} {np pos' : Pos} {hds : List ExceptHandler} {sb : SSs} {hs : SHs} : isGl Γ c = true → Γ.E.contains c = true → (∀ e m c fs e' m', evSs C' G XX sb e m ≠ .exc c fs e' m') →
      (∀ (a : Addr) (oe : Obj) (pn : List (Addr × Obj)), PSs (X.suite a ((a, oe) :: pn)) (b0 :: suite) (tS C Wf (evSs C' G XX sb))) → Hds C Γ X C' G XX hds hs →
      Hds C Γ X C' G XX (.ExceptHandler (some (.Name c np)) none (b0 :: suite) pos' :: hds) (.cons c sb hs)
def hdsL (C : Cxt) (C' : CallS) (G : Str → Option D) (XX : Str → Str → Bool) : SHs → List (Value × (Addr → Value → Option Addr → TS))
  | .nil => []
  | .cons c sb hs => (match C.cls c with | some a => .ref a | none => .none, fun _ _ _ => tS C Wf (evSs C' G XX sb)) :: hdsL C C' G XX hs
theorem hds_ok (g : GdS C F G XX k Γ X) : ∀ {hds : List ExceptHandler} {hs : SHs}, Hds C Γ X C' G XX hds hs → HdsOk X hds (hdsL C C' G XX hs)
  | _, _, .nil => .nil
  | _, _, .cons (c := c) h1 h2 hn h3 r => by
    obtain ⟨a, e1, e2, _⟩ := g.errs c h2
    refine .cons ⟨g.gd.glo h1, (okName_ne (isGl_ok h1).2).1, .inl ?_⟩ (fun a oe cls d pn _ _ => h3 a oe pn) (hds_ok g r)
    rw [e1]
    exact e2
theorem hds_many (g : GdS C F G XX k Γ X) {D' : Ends} : ∀ {hds : List ExceptHandler} {hs : SHs}, Hds C Γ X C' G XX hds hs → ∀ {c : Str} {fs : List (Str × Sim.D)} {e : Env} {m : MH} {ρ : List Addr} {σ : St} {H : Hp}, HR C ρ H m → ER C ρ H σ e →
    RSt C Wx (evHs C' G XX hs c fs e m) ρ H D' → ∃ a, C.cls c = some a ∧ ((fs = [] ∧ wMany X.K Wx D' (hdsL C C' G XX hs) (.ref a) none σ H) ∨ (fs ≠ [] ∧ ∀ (dd : Addr) (xs : List (Str × V)), H dd = some (.xd xs) → xs.map (·.1) = fs.map (·.1) → DRs C ρ H (xs.map (·.2)) (fs.map (·.2)) → dd ∉ ρ → wMany X.K Wx D' (hdsL C C' G XX hs) (.ref a) (some dd) σ H))
  | _, _, .nil, c, fs, e, m, ρ, σ, H, hr, er, q => by
    have q : RSt C Wx (.exc c fs e m) ρ H D' := q
    exact q ρ σ H Ext.refl hr er
  | _, _, .cons (c := k') (sb := sb) (hs := hs) h1 h2 hn h3 r, c, fs, e, m, ρ, σ, H, hr, er, q => by
    obtain ⟨a', e1, e2, _⟩ := g.errs k' h2
    simp only [evHs] at q
    cases hx : XX c k' with
    | true =>
      rw [hx, if_pos rfl] at q
      obtain ⟨a, ea⟩ := g.exk c k' hx
      have he := g.exm c k' a a' ea e1
      rw [hx] at he
      have suite : ∀ (d : Option Addr), wMany X.K Wx D' (hdsL C C' G XX (.cons k' sb hs)) (.ref a) d σ H := fun d => by
        unfold hdsL
        rw [e1]
        refine ⟨true, he, fun _ a _ => ⟨ρ, e, m, hr, er, ?_⟩, fun z => by cases z⟩
        cases hr' : evSs C' G XX sb e m with
        | exc c fs e' m' => exact absurd hr' (hn e m c fs e' m')
        | nx e m => rw [hr'] at q; exact q
        | rt e m => rw [hr'] at q; exact q
        | bk e m => rw [hr'] at q; exact q
        | ct e m => rw [hr'] at q; exact q
        | bad => rw [hr'] at q; exact q
      refine ⟨a, ea, ?_⟩
      by_cases hfs : fs = []
      · exact .inl ⟨hfs, suite _⟩
      · exact .inr ⟨hfs, fun dd xs _ _ _ _ => suite _⟩
    | false =>
      rw [hx, if_neg Bool.false_ne_true] at q
      obtain ⟨a, ea, q2⟩ := hds_many g r hr er q
      have he := g.exm c k' a a' ea e1
      rw [hx] at he
      refine ⟨a, ea, ?_⟩
      rcases q2 with ⟨z, q2⟩ | ⟨z, q2⟩
      · refine .inl ⟨z, ?_⟩
        unfold hdsL
        rw [e1]
        exact ⟨false, he, (fun z => by cases z), fun _ => q2⟩
      · refine .inr ⟨z, fun dd xs a1 a2 a3 a4 => ?_⟩
        unfold hdsL
        rw [e1]
        exact ⟨false, he, (fun z => by cases z), fun _ => q2 dd xs a1 a2 a3 a4⟩
theorem GdS.tr (g : GdS C F G XX k Γ X) {pn : List (Addr × Obj)} {xe : Value → Shared → Prop} (p : PassesOwn (model X.prog X.w) X.A X.env xe) : GdS C F G XX k Γ (X.tr pn xe) :=
  ⟨⟨g.gd.eK, g.gd.ew, g.gd.eN, g.gd.esc, g.gd.nd, g.gd.calm, g.gd.room, g.gd.fns, g.gd.blts, g.gd.globs, g.gd.fnA⟩, p, g.stk, g.frm, g.kind, g.errs, g.exm, g.exk⟩
theorem try_ps (g : GdS C F G XX k Γ X) (tk : Takes X Wx) {body : List Stmt} {h₀ : ExceptHandler} {hds : List ExceptHandler} {sb : SSs} {hs : SHs} {pos : Pos}
    (hb : ∀ (X' : Cx) (W : WX), GdS C F G XX k Γ X' → Takes X' W → PSs X' body (tS C W (evSs C' G XX sb))) (hh : Hds C Γ X C' G XX (h₀ :: hds) hs) : PS X (.Try body (h₀ :: hds) [] [] pos) (tS C Wx (evS C' G XX (.try_ sb hs))) := by
  refine (ps_try_many (tb := fun W => tS C W (evSs C' G XX sb)) g.stk g.frm tk (fun W pn xe t p => hb _ W (g.tr p) t) (hds_ok g hh)).imp fun D' σ H q => ?_
  obtain ⟨ρ, e, m, hr, er, q⟩ := q
  refine ⟨ρ, e, m, hr, er, ?_⟩
  simp only [evS] at q
  cases hr' : evSs C' G XX sb e m with
  | exc c fs e' m' =>
    rw [hr'] at q
    exact fun ρ' σ' H' x hr er => hds_many g hh hr er (RSt.base q x)
  | nx e m => rw [hr'] at q; exact q
  | rt e m => rw [hr'] at q; exact q
  | bk e m => rw [hr'] at q; exact q
  | ct e m => rw [hr'] at q; exact q
  | bad => rw [hr'] at q; exact q
/-- an except suite's context: names and constants alone -/
theorem var_pe0 {C' : CallS} {x : Str} {i : Nat} {pos : Pos} (eN : X.N = Γ.N) (hv : Vis X.env.scope x) (ho : okName x = true) (hi : ixOf x Γ.N = some i) : PE X (.Name x pos) (tE C Wx (evE C' G (.var i))) := by
  refine (pe_var (i := i) (by rw [eN]; exact ixOf_get hi) hv (okName_ne ho).1 (okName_ne ho).2.1).imp fun σ H Q h => ?_
  obtain ⟨ρ, e, m, hr, er, q⟩ := h
  simp only [evE] at q
  split at q
  · rename_i w he
    obtain ⟨v, h1, h2⟩ := er.get he
    exact ⟨v, h1, q ρ v H Ext.refl hr h2⟩
  · exact (show False from q).elim
end
end Sim
set_option maxHeartbeats 2000000
namespace Sim
open PySem PySem.Spec PyProof.Rows L2
theorem blockKind_fn {env : PySem.Env} (h : env.scope.kind = .function) : env.blockKind = .function := by unfold Env.blockKind; rw [h]; rfl
theorem swp_eq {ts vs : List Expr} {env : PySem.Env} {kt k2 : Nat} {pt p2 : Pos} : swappedStores [.Tuple ts kt pt] (.Tuple vs k2 p2) env =
    (if !(ts.length == 2 || ts.length == 3) || vs.length != ts.length || env.blockKind != .function then pure none else if vs.any isStar then pure none else
      if (ts.filterMap (nameOn env.scope ((ts.head?.map (·.pos.line)).getD 0))).length != ts.length || (ts.filterMap (nameOn env.scope ((ts.head?.map (·.pos.line)).getD 0))).eraseDups.length != (ts.filterMap (nameOn env.scope ((ts.head?.map (·.pos.line)).getD 0))).length then pure none
      else if vs.all (foldedForSure 8) then pure none
      else if vs.all (constantsAlone 8) then (do unsupported "assign.tuple-of-constant-expressions:order-of-the-stores"; pure (some (ts.filterMap (nameOn env.scope ((ts.head?.map (·.pos.line)).getD 0))))) else pure (some (ts.filterMap (nameOn env.scope ((ts.head?.map (·.pos.line)).getD 0))))) := rfl
theorem swp_ok {sc : Scope} {ts vs : List Expr} {r : Option (List Str)} {env : PySem.Env} {kt k2 : Nat} {pt p2 : Pos} (hsc : env.scope = sc) (hk : env.scope.kind = .function) (h : swp sc ts vs = some r) :
    swappedStores [.Tuple ts kt pt] (.Tuple vs k2 p2) env = pure r := by
  have hb : (env.blockKind != .function) = false := by rw [blockKind_fn hk]; decide
  rw [swp_eq, hsc, hb, Bool.or_false]
  unfold swp at h
  simp only at h
  split at h
  · rename_i c1; cases h; rw [if_pos c1]
  rename_i c1
  rw [if_neg c1]
  split at h
  · rename_i c1; cases h; rw [if_pos c1]
  rename_i c1
  rw [if_neg c1]
  split at h
  · rename_i c1; cases h; rw [if_pos c1]
  rename_i c1
  rw [if_neg c1]
  split at h
  · rename_i c1; cases h; rw [if_pos c1]
  rename_i c1
  rw [if_neg c1]
  split at h
  · cases h
  rename_i c1
  cases h
  rw [if_neg c1]
/-- the names that are stored the other way round -/
theorem swp_names {sc : Scope} {ts vs : List Expr} {xs : List Str} (h : swp sc ts vs = some (some xs)) :
    (∃ x y p q, ts = [.Name x p, .Name y q] ∧ xs = [x, y] ∧ vs.length = 2 ∧ sc.names.lookup x = some .local ∧ sc.names.lookup y = some .local) ∨
    (∃ x y z p q r, ts = [.Name x p, .Name y q, .Name z r] ∧ xs = [x, y, z] ∧ vs.length = 3 ∧ sc.names.lookup x = some .local ∧ sc.names.lookup y = some .local ∧ sc.names.lookup z = some .local) := by
  have nm : ∀ {line : Nat} {e : Expr} {x : Str}, nameOn sc line e = some x → ∃ p, e = .Name x p ∧ sc.names.lookup x = some .local := by
    intro line e x h
    cases e <;> simp only [nameOn] at h <;> first | cases h | skip
    rename_i y p
    split at h
    · rename_i c
      cases h
      rw [Bool.and_eq_true] at c
      refine ⟨p, rfl, ?_⟩
      have c1 := c.1
      revert c1
      cases sc.names.lookup x with
      | none => intro c1; cases c1
      | some kd => cases kd <;> intro c1 <;> first | rfl | cases c1
    · cases h
  unfold swp at h
  split at h
  · cases h
  · rename_i c1
    split at h
    · cases h
    · simp only at h
      split at h
      · cases h
      · rename_i c3
        split at h
        · cases h
        · split at h
          · cases h
          · injection h with h
            injection h with h
            generalize hline : (ts.head?.map (·.pos.line)).getD 0 = line at h c3
            simp only [Bool.or_eq_true, Bool.not_eq_true', bne_iff_ne, ne_eq, not_or, Decidable.not_not, Bool.not_eq_false] at c1
            simp only [Bool.or_eq_true, bne_iff_ne, ne_eq, not_or, Decidable.not_not] at c3
            obtain ⟨c1, c2⟩ := c1
            rw [h] at c3
            have hl := c3.1
            match ts, h, hl, c1, c2 with
            | [a, b], h, hl, _, c2 =>
              cases ha : nameOn sc line a with
              | none =>
                simp only [List.filterMap, ha] at h
                cases hb : nameOn sc line b <;> rw [hb] at h <;> subst h <;> cases hl
              | some x =>
                cases hb : nameOn sc line b with
                | none => simp only [List.filterMap, ha, hb] at h; subst h; cases hl
                | some y =>
                  simp only [List.filterMap, ha, hb] at h
                  obtain ⟨p, rfl, hx⟩ := nm ha
                  obtain ⟨q, rfl, hy⟩ := nm hb
                  exact .inl ⟨x, y, p, q, rfl, h.symm, c2, hx, hy⟩
            | [a, b, c], h, hl, _, c2 =>
              cases ha : nameOn sc line a with
              | none => exfalso; simp only [List.filterMap, ha] at h; cases hb : nameOn sc line b <;> cases hc : nameOn sc line c <;> simp only [hb, hc] at h <;> subst h <;> cases hl
              | some x =>
                cases hb : nameOn sc line b with
                | none => exfalso; simp only [List.filterMap, ha, hb] at h; cases hc : nameOn sc line c <;> simp only [hc] at h <;> subst h <;> cases hl
                | some y =>
                  cases hc : nameOn sc line c with
                  | none => exfalso; simp only [List.filterMap, ha, hb, hc] at h; subst h; cases hl
                  | some z =>
                    simp only [List.filterMap, ha, hb, hc] at h
                    obtain ⟨p, rfl, hx⟩ := nm ha
                    obtain ⟨q, rfl, hy⟩ := nm hb
                    obtain ⟨r, rfl, hz⟩ := nm hc
                    exact .inr ⟨x, y, z, p, q, r, rfl, h.symm, c2, hx, hy, hz⟩
            | [], _, _, c1, _ => simp at c1
            | [a], _, _, c1, _ => simp at c1
            | a :: b :: c :: d :: r, _, _, c1, _ => simp at c1
section
variable {C : Cxt} {F : List Fn} {G : Str → Option D} {XX : Str → Str → Bool} {k : Nat} {Γ : Gam} {X : Cx} {Wx : WX}
theorem loc_full (g : Gd C F G XX k Γ X) {x : Str} {i : Nat} (h : slot Γ x = some i) (hl : Γ.sc.names.lookup x = some .local) : X.N[i]? = some x ∧ X.env.scope.names.lookup x = some .local :=
  ⟨(slot_full g h).1, by rw [g.esc]; exact hl⟩
theorem par2_ps (g : GdS C F G XX k Γ X) {C' : CallS} {x y : Str} {px py : Pos} {a b : Expr} {sa sb : SE} {i j kt k2 : Nat} {pt p2 pos : Pos} (hw : swp Γ.sc [.Name x px, .Name y py] [a, b] = some (some [x, y]))
    (hx : Γ.sc.names.lookup x = some .local) (hy : Γ.sc.names.lookup y = some .local) (hi : slot Γ x = some i) (hj : slot Γ y = some j) (hij : i ≠ j) (h : PA X [a, b] (tW C Wx (evW C' G (.cons sa (.cons sb .nil))))) :
    PS X (.Assign [.Tuple [.Name x px, .Name y py] kt pt] (.Tuple [a, b] k2 p2) pos) (tS C Wx (evS C' G XX (.par [i, j] (.cons sa (.cons sb .nil))))) := by
  obtain ⟨a1, a2⟩ := loc_full g.gd hi hx
  obtain ⟨b1, b2⟩ := loc_full g.gd hj hy
  refine (ps_par g.gd.calm g.gd.nd a1 b1 hij a2 b2 h (swp_ok g.gd.esc g.kind hw)).imp fun D' σ H q => ?_
  refine (tS.thn (rel := relWs C) q).mono fun vs H1 => ?_
  rintro ⟨ρ, e, ws, m, hr, er, r, q1⟩
  split at q1
  · rename_i hl
    match ws, hl, r, q1 with
    | [w1, w2], _, r, q1 =>
      cases r with | cons r1 r => cases r with | cons r2 r =>
      cases r
      exact ⟨_, _, rfl, q1.nxt hr ((er.set r1 i).set r2 j)⟩
  · exact q1.off
theorem par3_ps (g : GdS C F G XX k Γ X) {C' : CallS} {x y z : Str} {px py pz : Pos} {a b c : Expr} {sa sb sc : SE} {i j l kt k2 : Nat} {pt p2 pos : Pos} (hw : swp Γ.sc [.Name x px, .Name y py, .Name z pz] [a, b, c] = some (some [x, y, z]))
    (hx : Γ.sc.names.lookup x = some .local) (hy : Γ.sc.names.lookup y = some .local) (hz : Γ.sc.names.lookup z = some .local) (hi : slot Γ x = some i) (hj : slot Γ y = some j) (hl : slot Γ z = some l) (hij : i ≠ j) (hil : i ≠ l) (hjl : j ≠ l)
    (h : PA X [a, b, c] (tW C Wx (evW C' G (.cons sa (.cons sb (.cons sc .nil)))))) :
    PS X (.Assign [.Tuple [.Name x px, .Name y py, .Name z pz] kt pt] (.Tuple [a, b, c] k2 p2) pos) (tS C Wx (evS C' G XX (.par [i, j, l] (.cons sa (.cons sb (.cons sc .nil)))))) := by
  obtain ⟨a1, a2⟩ := loc_full g.gd hi hx
  obtain ⟨b1, b2⟩ := loc_full g.gd hj hy
  obtain ⟨c1, c2⟩ := loc_full g.gd hl hz
  refine (ps_par3 g.gd.calm g.gd.nd a1 b1 c1 hij hil hjl a2 b2 c2 h (swp_ok g.gd.esc g.kind hw)).imp fun D' σ H q => ?_
  refine (tS.thn (rel := relWs C) q).mono fun vs H1 => ?_
  rintro ⟨ρ, e, ws, m, hr, er, r, q1⟩
  split at q1
  · rename_i hl
    match ws, hl, r, q1 with
    | [w1, w2, w3], _, r, q1 =>
      cases r with | cons r1 r => cases r with | cons r2 r => cases r with | cons r3 r =>
      cases r
      exact ⟨_, _, _, rfl, q1.nxt hr (((er.set r1 i).set r2 j).set r3 l)⟩
  · exact q1.off
theorem setLc_ps (g : GdS C F G XX k Γ X) {x : Str} {i : Nat} {px pos pe : Pos} {elt tg iter : Expr} {ifs : List Expr} {scope : Scope} {own : List (Str × Nat)} {is : List Nat} {tt mu : Bool} {src : SI} {cond selt : SE} (hi : slot Γ x = some i)
    (p : LcP C F G XX k X Wx elt tg iter ifs scope own is tt src cond selt) :
    PS X (.Assign [.Name x px] (.ListComp elt [⟨tg, iter, ifs, 0⟩] scope pe) pos) (tS C Wx (evS (run F G XX k) G XX (.asg i (.comp mu selt is tt src cond (own.map (·.2)))))) := by
  have hs : ∀ x, foldedSetIterable iter X.env x = pure x := by
    have := p.ns
    intro x
    cases iter <;> first | rfl | cases this
  obtain ⟨h1, h2, h3⟩ := slot_full g.gd hi
  have fin : ∀ D' σ H, tS C Wx (evS (run F G XX k) G XX (.asg i (.comp mu selt is tt src cond (own.map (·.2))))) D' σ H →
      tE C Wx (evE (run F G XX k) G (.comp mu selt is tt src cond (own.map (·.2)))) σ H fun y H1 => D'.nx (σ.set i (some y)) H1 := fun D' σ H q =>
    (tS.thn (rel := relW C) q).mono fun y H1 ⟨ρ, e, w, m, hr, er, r, q1⟩ => q1.nxt hr (ER.set r i er)
  cases hsw : (X.env.blockKind == .function && X.env.kindOf x == some .local && px.line == pe.line && !(scope.names.any fun (n, k) => n == x && (k == .local || k == .cell))) with
  | true =>
    simp only [Bool.and_eq_true, Bool.not_eq_true'] at hsw
    obtain ⟨⟨⟨_, c1⟩, c2⟩, c3⟩ := hsw
    have hl : X.env.scope.names.lookup x = some .local := by
      have c1 : (X.env.scope.names.lookup x == some .local) = true := c1
      revert c1
      cases X.env.scope.names.lookup x with
      | none => intro c1; cases c1
      | some kd => cases kd <;> intro c1 <;> first | rfl | cases c1
    exact (ps_setLc (py := px) g.gd.calm g.gd.nd h1 hl (sw_true g.kind hl c2 c3) p.it p.ok (fun s H c cl fp => PG.any fun l => p.tg l s H c cl fp) (fun s H c cl fp => PTs.any fun l => p.ts l s H c cl fp) (fun s H c cl fp => PE.any fun l => p.el l s H c cl fp) hs).imp
      fun D' σ H q => comp_rd p.own (fin D' σ H q)
  | false =>
    have hw : swapsWith (.ListComp elt [⟨tg, iter, ifs, 0⟩] scope pe) (some (.Name x px)) pos.line X.env = pure false := by
      unfold swapsWith
      simp only [Expr.pos, hsw]
    exact (ps_set (pos' := px) g.gd.nd h1 h2 (comp_pe g.gd p.it p.ok p.own p.ns p.tg p.ts p.el) hw h3).imp fin
end
end Sim
set_option maxHeartbeats 4000000
namespace Sim
open PySem PySem.Spec PyProof.Rows L2
section
variable {F : List Fn} {G : Str → Option D} {XX : Str → Str → Bool} {k : Nat}
def MainS (F : List Fn) (G : Str → Option D) (XX : Str → Str → Bool) (k : Nat) (n : Nat) : Prop :=
  (∀ Γ s ss, cS n Γ s = some ss → ∀ C X Wx, GdS C F G XX k Γ X → Takes X Wx → PS X s (tS C Wx (evS (run F G XX k) G XX ss))) ∧
  (∀ Γ l ss, cSs n Γ l = some ss → ∀ C X Wx, GdS C F G XX k Γ X → Takes X Wx → PSs X l (tS C Wx (evSs (run F G XX k) G XX ss)))
theorem slots_all {C : Cxt} {Γ : Gam} {X : Cx} (g : GdS C F G XX k Γ X) {ts : List Expr} {xs : List Str} {is : List Nat} (h1 : tgNames ts = some xs) (h2 : allSome (xs.map (slot Γ)) = some is) : Slots X ts is := by
  obtain ⟨ps, hl, rfl⟩ := tgNames_ok h1
  exact slots_of (fun x i h => slot_full g.gd h) hl h2
theorem cSu_ok {C : Cxt} {Γ : Gam} {X : Cx} {C' : CallS} {b : Stmt} {suite : List Stmt} {sb : SSs} (h : cSu Γ (b :: suite) = some sb) :
    (∀ e m c fs e' m', evSs C' G XX sb e m ≠ .exc c fs e' m') ∧ PSs X (b :: suite) (tS C Wf (evSs C' G XX sb)) := by
  have hr : ∀ {d : D} {e' : Expr} {p : Pos}, PE X e' (tE C Wf (evE C' G (.dat d))) → (∀ e m c fs e2 m2, evSs C' G XX (.cons (.ret (.dat d)) .nil) e m ≠ .exc c fs e2 m2) ∧ PSs X [.Return (some e') p] (tS C Wf (evSs C' G XX (.cons (.ret (.dat d)) .nil))) := fun {d e' p} q =>
    ⟨fun e m c fs e2 m2 z => by simp [evSs, evS, evE, R.thn, RS.thn] at z, cons_pss (ret_ps q) nil_pss⟩
  unfold cSu at h
  split at h
  · rename_i heq; cases heq; cases h; exact hr (dat_pe pe_bl fun _ _ => .bl _)
  · rename_i heq
    split at h
    · rename_i hl; cases heq; cases h; exact hr (dat_pe pe_str fun _ _ => .str _ (by rw [sizeLine_eq]; omega))
    · cases h
  · rename_i heq; cases heq; cases h; exact hr (dat_pe pe_non fun _ _ => .non)
  · rename_i heq; cases heq; cases h; exact ⟨fun e m c fs e2 m2 z => by simp [evSs, evS, RS.thn] at z, cons_pss cont_ps nil_pss⟩
  · rename_i heq; cases heq; cases h; exact ⟨fun e m c fs e2 m2 z => by simp [evSs, evS, RS.thn] at z, cons_pss pass_ps nil_pss⟩
  · cases h
theorem cHs_ok {C : Cxt} {Γ : Gam} {X : Cx} {C' : CallS} : ∀ {hds : List ExceptHandler} {hs : SHs}, cHs Γ hds = some hs → Hds C Γ X C' G XX hds hs
  | [], hs, h => by cases h; exact .nil
  | .ExceptHandler ty nm body pos :: hds, hs, h => by
    unfold cHs at h
    split at h
    · rename_i heq; cases heq
    · rename_i heq
      injection heq with e1 e2
      injection e1 with e3 e4 e5 e6
      subst e2; subst e3; subst e4; subst e5
      split at h
      · rename_i hb
        rw [Bool.and_eq_true] at hb
        split at h
        · rename_i s hs' h1 h2
          cases h
          exact .cons hb.1 hb.2 (cSu_ok (X := X) (C := C) h1).1 (fun a oe pn => (cSu_ok h1).2) (cHs_ok h2)
        · cases h
      · cases h
    · cases h
section
variable {n : Nat}
theorem main_Ss (M : MainS F G XX k n) {Γ : Gam} {l : List Stmt} {ss : SSs} (h : cSs (n + 1) Γ l = some ss) : ∀ C X Wx, GdS C F G XX k Γ X → Takes X Wx → PSs X l (tS C Wx (evSs (run F G XX k) G XX ss)) := by
  cases l with
  | nil => simp only [cSs] at h; cases h; exact fun C X Wx g t => nil_pss
  | cons s l =>
    simp only [cSs] at h
    split at h
    · rename_i a b h1 h2
      cases h
      exact fun C X Wx g t => cons_pss (M.1 _ _ _ h1 C X Wx g t) (M.2 _ _ _ h2 C X Wx g t)
    · cases h
theorem par_all (M : MainS F G XX k n) {Γ : Gam} {ts vs : List Expr} {j j2 : Nat} {pt p2 pos : Pos} {xs : List Str} {is : List Nat} {es : SEs} (h1 : swp Γ.sc ts vs = some (some xs)) (h2 : allSome (xs.map (slot Γ)) = some is) (h3 : cPar (cE n Γ) Γ.mutn xs vs = some es) (h4 : distinct is = true) :
    ∀ C X Wx, GdS C F G XX k Γ X → Takes X Wx → PS X (.Assign [.Tuple ts j pt] (.Tuple vs j2 p2) pos) (tS C Wx (evS (run F G XX k) G XX (.par is es))) := by
  intro C X Wx g t
  have E := (main_all (F := F) (G := G) (XX := XX) (k := k) n).1
  rcases swp_names h1 with ⟨x, y, p, q, rfl, rfl, hl, hx, hy⟩ | ⟨x, y, z, p, q, r, rfl, rfl, hl, hx, hy, hz⟩
  · match vs, hl with
    | [a, b], _ =>
      simp only [List.map_cons, List.map_nil] at h2
      cases ei : slot Γ x with
      | none => rw [ei] at h2; cases h2
      | some i =>
        cases ej : slot Γ y with
        | none => rw [ei, ej] at h2; cases h2
        | some j =>
          rw [ei, ej] at h2
          cases h2
          simp only [cPar] at h3
          split at h3
          · rename_i n1
            split at h3
            · rename_i sa es1 e1 e2
              cases h3
              split at e2
              · rename_i n2
                split at e2
                · rename_i sb es2 e3 e4
                  cases e2; cases e4
                  refine par2_ps g h1 hx hy ei ej ?_ (cons_pw n1 ((E _ _ _ _ e1).2 C X Wx g.gd t).pe (cons_pw n2 ((E _ _ _ _ e3).2 C X Wx g.gd t).pe nil_pw))
                  intro z; subst z; simp [distinct] at h4
                · cases e2
              · cases e2
            · cases h3
          · cases h3
  · match vs, hl with
    | [a, b, c], _ =>
      simp only [List.map_cons, List.map_nil] at h2
      cases ei : slot Γ x with
      | none => rw [ei] at h2; cases h2
      | some i =>
        cases ej : slot Γ y with
        | none => rw [ei, ej] at h2; cases h2
        | some j =>
          cases ek : slot Γ z with
          | none => rw [ei, ej, ek] at h2; cases h2
          | some l =>
            rw [ei, ej, ek] at h2
            cases h2
            simp only [cPar] at h3
            split at h3
            · rename_i n1
              split at h3
              · rename_i sa es1 e1 e2
                cases h3
                split at e2
                · rename_i n2
                  split at e2
                  · rename_i sb es2 e3 e4
                    cases e2
                    split at e4
                    · rename_i n3
                      split at e4
                      · rename_i sc es3 e5 e6
                        cases e4; cases e6
                        simp only [distinct, Bool.and_eq_true, Bool.not_eq_true', List.contains_cons, List.contains_nil, Bool.or_false, Bool.or_eq_false_iff, beq_eq_false_iff_ne, ne_eq] at h4
                        exact par3_ps g h1 hx hy hz ei ej ek h4.1.1 h4.1.2 h4.2.1 (cons_pw n1 ((E _ _ _ _ e1).2 C X Wx g.gd t).pe (cons_pw n2 ((E _ _ _ _ e3).2 C X Wx g.gd t).pe (cons_pw n3 ((E _ _ _ _ e5).2 C X Wx g.gd t).pe nil_pw)))
                      · cases e4
                    · cases e4
                  · cases e2
                · cases e2
              · cases h3
            · cases h3
theorem asg_name {Γ : Gam} {e : Expr} {i : Nat} {x : Str} {px pos : Pos} {mu : Bool} {se : SE} (hi : slot Γ x = some i) (h : cE n Γ mu e = some se) : ∀ C X Wx, GdS C F G XX k Γ X → Takes X Wx → PS X (.Assign [.Name x px] e pos) (tS C Wx (evS (run F G XX k) G XX (.asg i se))) := by
  intro C X Wx g t
  by_cases hc : noComp e = true
  · exact asg_ps g.gd hi hc ((main_all n).1 _ _ _ _ h |>.2 C X Wx g.gd t).pe
  · match n, h with
    | 0, h => simp [cE] at h
    | n + 1, h =>
      cases e <;> first | (exact absurd rfl hc) | skip
      · rename_i elt gens scope pe
        obtain ⟨tg, iter, ifs, own, is, tt, src, cond, selt, rfl, rfl, p⟩ := main_LC (main_all n) h
        exact setLc_ps g hi (p C X Wx g.gd t)
      · simp [cE] at h
      · simp [cE] at h
theorem main_S (M : MainS F G XX k n) {Γ : Gam} {s : Stmt} {ss : SS} (h : cS (n + 1) Γ s = some ss) : ∀ C X Wx, GdS C F G XX k Γ X → Takes X Wx → PS X s (tS C Wx (evS (run F G XX k) G XX ss)) := by
  have E := (main_all (F := F) (G := G) (XX := XX) (k := k) n).1
  have T : ∀ {Γ e se mu}, cE n Γ mu e = some se → ∀ C X Wx, Gd C F G XX k Γ X → Takes X Wx → PT X e (tT C Wx (evT (run F G XX k) G se)) := fun {Γ e se mu} h C X Wx g t => ((E Γ mu e se h).2 C X Wx g t).pt
  have P : ∀ {Γ e se mu}, cE n Γ mu e = some se → ∀ C X Wx, Gd C F G XX k Γ X → Takes X Wx → PE X e (tE C Wx (evE (run F G XX k) G se)) := fun {Γ e se mu} h C X Wx g t => ((E Γ mu e se h).2 C X Wx g t).pe
  simp only [cS] at h
  split at h
  · obtain ⟨se, h1, rfl⟩ := map_some h
    exact fun C X Wx g t => ret_ps (P h1 C X Wx g.gd t)
  · cases h; exact fun C X Wx g t => retN_ps
  · cases h; exact fun C X Wx g t => pass_ps
  · cases h; exact fun C X Wx g t => brk_ps
  · cases h; exact fun C X Wx g t => cont_ps
  · split at h
    · obtain ⟨se, h1, rfl⟩ := map_some h
      exact fun C X Wx g t => expr_ps rfl (P h1 C X Wx g.gd t)
    · cases h
  · split at h
    · rename_i sc sa sb h1 h2 h3
      cases h
      exact fun C X Wx g t => ite_ps (T h1 C X Wx g.gd t) (M.2 _ _ _ h2 C X Wx g t) (M.2 _ _ _ h3 C X Wx g t)
    · cases h
  · split at h
    · rename_i sc sb h1 h2
      cases h
      exact fun C X Wx g t => whl_ps g (T h1 C X Wx g.gd t) (M.2 _ _ _ h2 C X Wx g t)
    · cases h
  · split at h
    · rename_i hns
      split at h
      · rename_i is tt src sb h1 h2 h3
        split at h
        · rename_i hp
          cases h
          intro C X Wx g t
          rename_i tgx iterx bx posx _ _ _
          have hg : PG X tgx (gT C is tt) ∧ (tt = true → ∃ es j p, tgx = Expr.Tuple es j p) := by
            split at h1
            · rename_i x p
              obtain ⟨i, hi, e⟩ := map_some h1
              cases e
              obtain ⟨a1, a2, a3⟩ := slot_full g.gd hi
              exact ⟨name_pg g.gd.nd a1 a2 a3, fun z => nomatch z⟩
            · rename_i es j p
              cases e1 : tgNames es with
              | none => rw [e1] at h1; cases h1
              | some xs =>
                rw [e1] at h1
                obtain ⟨js, hj, e⟩ := map_some h1
                cases e
                exact ⟨tup_pg g.gd.eK g.gd.nd g.gd.calm (slots_all g e1 hj), fun _ => ⟨_, _, _, rfl⟩⟩
            · cases h1
          refine for_ps g hns (((main_all n).2.2.2 _ _ _ h2).2 _ C X Wx ?_ g.gd t) hg.1 (M.2 _ _ _ h3 C X Wx g t)
          intro hq
          rw [hq, Bool.not_true, Bool.false_or] at hp
          exact hg.2 hp
        · cases h
      · cases h
    · cases h
  · rename_i tg0 e0 pos0
    split at h
    · rename_i x px
      split at h
      · rename_i i hi
        split at h
        · cases h
        · cases h
        · obtain ⟨se, h1, rfl⟩ := map_some h
          exact asg_name hi h1
      · cases h
    · rename_i ts j pt
      split at h
      · rename_i vs j2 p2
        split at h
        · rename_i hw
          split at h
          · rename_i hl
            cases e1 : tgNames ts with
            | none => rw [e1] at h; cases h
            | some xs =>
              rw [e1] at h
              simp only [Option.bind_some] at h
              split at h
              · rename_i is es h2 h3
                cases h
                intro C X Wx g t
                obtain ⟨a1, a2, a3⟩ := (main_all n).2.1 _ _ _ h3
                exact asgT_ps g.gd (slots_all g e1 h2) rfl (swp_ok g.gd.esc g.kind hw) (tup_pe (by omega) (a3 C X Wx g.gd t).1)
              · cases h
          · cases h
        · rename_i xs hw
          split at h
          · rename_i is es h2 h3
            split at h
            · rename_i hd
              cases h
              exact par_all M hw h2 h3 hd
            · cases h
          · cases h
        · cases h
      · cases h
      · cases h
      · cases h
      · rename_i _ n1 n2 n3 n4
        have hc : noComp e0 = true := by cases e0 <;> first | rfl | (exact (n2 _ _ _ _ rfl).elim) | (exact (n3 _ _ _ _ rfl).elim) | (exact (n4 _ _ _ _ _ rfl).elim)
        have hw : ∀ env, swappedStores [.Tuple ts j pt] e0 env = pure none := by
          intro env
          cases e0 <;> first | rfl | (exact (n1 _ _ _ rfl).elim)
        cases e1 : tgNames ts with
        | none => rw [e1] at h; cases h
        | some xs =>
          rw [e1] at h
          simp only [Option.bind_some] at h
          split at h
          · rename_i is se h2 h3
            cases h
            exact fun C X Wx g t => asgT_ps g.gd (slots_all g e1 h2) hc (hw _) (P h3 C X Wx g.gd t)
          · cases h
    · rename_i o i p
      split at h
      · rename_i hn
        split at h
        · rename_i so si se h1 h2 h3
          cases h
          exact fun C X Wx g t => sub_ps g.gd hn (P h1 C X Wx g.gd t) (P h2 C X Wx g.gd t) (P h3 C X Wx g.gd t)
        · cases h
      · cases h
    · cases h
  · split at h
    · rename_i sb hs h1 h2
      cases h
      exact fun C X Wx g t => try_ps g t (fun X' W g' t' => M.2 _ _ _ h1 C X' W g' t') (cHs_ok h2)
    · cases h
  · split at h
    · rename_i hb
      rw [Bool.and_eq_true] at hb
      cases h
      exact fun C X Wx g t => raise_ps g t hb.1 hb.2
    · cases h
  · cases h
theorem main_stmts : ∀ n, MainS F G XX k n
  | 0 => ⟨fun _ _ _ h => (by simp [cS] at h), fun _ _ _ h => (by simp [cSs] at h)⟩
  | n + 1 => ⟨fun _ _ _ h => main_S (main_stmts n) h, fun _ _ _ h => main_Ss (main_stmts n) h⟩
end
end
end Sim
set_option maxHeartbeats 4000000
namespace Sim
open PySem PySem.Spec PyProof.Rows L2
/-! ### a call's end -/
section
variable {C : Cxt} {ρ ρ' : List Addr} {H H' : Hp} {m m' : MH}
theorem MO.lessOR {a : Addr} {o : MO} (h : OR C ρ H a o) (x : ∀ a, a ∈ ρ' → a ∈ ρ) : OR C ρ' H a o := by
  cases o with
  | lst ds => obtain ⟨xs, e, z, q⟩ := h; exact ⟨xs, e, z, DRs.less x ds _ q⟩
  | dct kvs => obtain ⟨es, ep, e, y, z, nd, q⟩ := h; exact ⟨es, ep, e, y, z, nd, DRe.less x kvs _ q⟩
theorem HR.trunc (h : HR C ρ' H' m') (x : Ext ρ H ρ' H') (hm : HR C ρ H m) : HR C ρ H' (m'.take m.length) ∧ Ext ρ H ρ H' := by
  obtain ⟨m2, rfl⟩ := x.pre
  have sub : ∀ a, a ∈ ρ → a ∈ ρ ++ m2 := fun a h => List.mem_append_left _ h
  have hl := h.len
  rw [List.length_append] at hl
  refine ⟨⟨?_, (List.nodup_append.mp h.nd).1, fun a ha => ⟨fun z => (h.hid a ha).1 (sub a z), (h.hid a ha).2⟩, fun i a o e1 e2 => ?_⟩, ⟨⟨[], by simp⟩, fun a h n => absurd h n, x.keep, x.there⟩⟩
  · rw [List.length_take, ← hm.len]; omega
  · have hi : i < ρ.length := (List.getElem?_eq_some_iff.mp e1).1
    rw [List.getElem?_take_of_lt (by rw [← hm.len]; exact hi)] at e2
    exact MO.lessOR (h.obj i a o (by rw [List.getElem?_append_left hi]; exact e1) e2) sub
theorem end_ok {E : XK} {Q : VK} {keep : Bool} {w : W} {v : V} (hm : HR C ρ H m) (q : RG C (relW C) E (endCall keep m.length w m') ρ H Q) (x : Ext ρ H ρ' H') (hr : HR C ρ' H' m') (r : WR C ρ' H' v w) : Q v H' := by
  obtain ⟨ht, xt⟩ := hr.trunc x hm
  have sub : ∀ a, a ∈ ρ → a ∈ ρ' := fun a h => x.sub h
  cases keep with
  | true => exact q ρ' v H' x hr r
  | false =>
    cases w with
    | d d => exact q ρ v H' xt ht (DR.less sub d v r)
    | s ns =>
      obtain ⟨a, e, s⟩ := r
      exact q ρ v H' xt ht ⟨a, e, s.less sub⟩
    | r i =>
      simp only [endCall, Bool.false_eq_true, if_false] at q
      obtain ⟨a, ha, rfl⟩ := r
      split at q
      · rename_i hi
        refine q ρ _ H' xt ht ⟨a, ?_, rfl⟩
        obtain ⟨m2, rfl⟩ := x.pre
        rw [List.getElem?_append_left (by rw [hm.len]; exact hi)] at ha
        exact ha
      · rename_i hi
        have na : a ∉ ρ := fun z => by
          obtain ⟨j, hj, e⟩ := List.mem_iff_getElem.mp z
          obtain ⟨m2, rfl⟩ := x.pre
          have : j = i := nodup_get hr.nd (a := a) (by rw [List.getElem?_append_left hj, List.getElem?_eq_getElem hj, e]) ha
          rw [hm.len] at hj
          omega
        have fr : Fre C ρ a := ⟨na, fun z => (hr.hid a z).1 (List.mem_of_getElem? ha)⟩
        simp only [rd] at q
        cases hmi : m'[i]? with
        | none => rw [hmi] at q; exact (show False from q).elim
        | some o =>
          rw [hmi] at q
          have ho := MO.lessOR (hr.obj i a o ha hmi) sub
          cases o with
          | lst ds =>
            obtain ⟨xs, e, z, qs⟩ := ho
            exact q ρ _ H' xt ht (.lst e fr z qs)
          | dct kvs =>
            obtain ⟨es, ep, e, y, z, nd, qs⟩ := ho
            exact q ρ _ H' xt ht (.dct e fr y z nd qs)
end
/-! ### the text -/
structure DefOk (C : Cxt) (mg : Str → Option Value) (F : List Fn) (TF : List (Str × Nat)) (TB TG TE : List Str) (f : Str) (n : Nat) (a : Addr) (fd : FuncData) (ps : List Str) : Prop where
  mgf : mg f = some (.ref a)
  bi : Binds C.K fd ps []
  len : ps.length = n
  ex : ∃ (st : Stmt) (fn : Fn) (mutn : List Str) (retm : Bool) (fuel : Nat), Fun C.K f f st a fd ∧ FnScope fn.N ps (defScope st) ∧ F.find? (fun g => decide (g.name = f)) = some fn ∧ fn.np = n ∧ cSs fuel ⟨fn.N, defScope st, TF, TB, TG, TE, mutn, retm, true⟩ (defBody st) = some fn.body
structure Txt (C : Cxt) (mg : Str → Option Value) (F : List Fn) (G : Str → Option D) (XX : Str → Str → Bool) (TF : List (Str × Nat)) (TB TG TE : List Str) : Prop where
  defs : ∀ f n, TF.lookup f = some n → ∃ a fd ps, DefOk C mg F TF TB TG TE f n a fd ps
  blts : ∀ x, TB.contains x = true → mg x = none
  globs : ∀ x, TG.contains x = true → ∃ v u d, G x = some d ∧ mg x = some u ∧ RelV v u ∧ ∀ h ρ H, DR { C with hid := h } ρ H v d
  errs : ∀ c, TE.contains c = true → ∃ a, C.cls c = some a ∧ mg c = some (.ref a) ∧ PySem.W.keepIn C.K (.ref a) = true ∧ PySem.W.excIn C.K a HandSPX.veTail "ValueError.__new__" = true ∧
    PySem.W.subIn C.K (.ref a) (.type "BaseException") = some true ∧ PySem.W.typeIn C.K (.ref a) = some (.type "type")
  exm : ∀ c k a a', C.cls c = some a → C.cls k = some a' → PySem.W.exmOne C.K (.ref a) (.ref a') = some (XX c k)
  exk : ∀ c k, XX c k = true → ∃ a, C.cls c = some a
section
variable {C : Cxt} {mg : Str → Option Value} {F : List Fn} {G : Str → Option D} {XX : Str → Str → Bool} {TF : List (Str × Nat)} {TB TG TE : List Str} {P : Program} {base : Heap}
theorem DefOk.hide {f : Str} {n : Nat} {a : Addr} {fd : FuncData} {ps : List Str} (d : DefOk C mg F TF TB TG TE f n a fd ps) (h : List Addr) : DefOk { C with hid := h } mg F TF TB TG TE f n a fd ps := ⟨d.mgf, d.bi, d.len, d.ex⟩
theorem fn_ok (T : Txt C mg F G XX TF TB TG TE) : ∀ (k : Nat) (f : Str) (n : Nat) (a : Addr) (fd : FuncData) (ps : List Str), DefOk C mg F TF TB TG TE f n a fd ps → ∀ h : List Addr, FnOk P C.w C.K mg base (L2.CX P C.w) k a fd ps (spOf { C with hid := h } F G XX k f n)
  | 0, f, n, a, fd, ps, d, h => by
    refine ⟨fun vs H Q E sp => sp.1.trans d.len.symm, fun A outer s H args us vs Q E hr e0 hb r sp => ?_⟩
    obtain ⟨_, ρ, ws, m, hr, wr, q⟩ := sp
    exact (show False from q).elim
  | k + 1, f, n, a, fd, ps, d, h => by
    obtain ⟨st, fn, mutn, retm, fuel, hF, S, hfind, hnp, hc⟩ := d.ex
    obtain ⟨st', fn', hF', _⟩ := (⟨st, fn, hF, trivial⟩ : ∃ st fn, Fun C.K f f st a fd ∧ True)
    refine hF.okX (P := P) (w := C.w) (mg := mg) (base := base) (k := k) S (fun vs H Q E sp => sp.1.trans d.len.symm) fun cdv A outer s H vs Q E hr sp => ?_
    obtain ⟨hlen, ρ, ws, m, hm, wr, q⟩ := sp
    have g : GdS { C with hid := h } F G XX k ⟨fn.N, defScope st, TF, TB, TG, TE, mutn, retm, true⟩ (cxOf (L2.CX P C.w) P C.w C.K mg base fn.N f (defScope st) a cdv A outer s H E) :=
      { gd := { eK := rfl, ew := rfl, eN := rfl, esc := rfl, nd := S.nd, calm := rfl, room := hr
                fns := fun f' n' hl => by
                  obtain ⟨a', fd', ps', d'⟩ := T.defs f' n' hl
                  obtain ⟨_, _, _, _, _, hF2, _⟩ := d'.ex
                  exact ⟨a', fd', ps', d'.mgf, hF2.kp, d'.bi, fun h' => fn_ok T k f' n' a' fd' ps' d' h'⟩
                blts := T.blts
                globs := fun x hx => by
                  obtain ⟨v, u, d, e1, e2, e3, e4⟩ := T.globs x hx
                  exact ⟨v, u, d, e1, e2, e3, fun h' => e4 h'⟩
                fnA := fun _ _ => rfl }
        pass := passes_of rfl
        stk := rfl
        frm := rfl
        kind := S.kind
        errs := fun c hc => by
          obtain ⟨a', e1, e2, e3, e4, e5, e6⟩ := T.errs c hc
          exact ⟨a', e1, e2, e3, e4, raises_own e5 e6⟩
        exm := T.exm
        exk := T.exk }
    have tk : Takes (cxOf (L2.CX P C.w) P C.w C.K mg base fn.N f (defScope st) a cdv A outer s H E) (fun cls d _ H => E cls d H) := takes_of (E := E) rfl rfl rfl rfl
    refine ⟨_, (main_stmts fuel).2 _ _ _ hc { C with hid := h } _ _ g tk, ρ, startE fn.N.length ws, m, hm, ER.start wr, ?_⟩
    have hwl : ws.length = fn.np := by rw [← wr.length, hnp, hlen]
    simp only [run, hfind, hwl, if_true] at q
    cases hb : evSs (run F G XX k) G XX fn.body (startE fn.N.length ws) m with
    | nx e m' => rw [hb] at q; exact fun ρ' σ' H' x hr er => end_ok hm q x hr .non
    | rt w m' => rw [hb] at q; exact fun ρ' v H' x hr r => end_ok hm q x hr r
    | bk e m' => rw [hb] at q; exact (show False from q).elim
    | ct e m' => rw [hb] at q; exact (show False from q).elim
    | bad => rw [hb] at q; exact (show False from q).elim
    | exc c fs e m' =>
      rw [hb] at q
      intro ρ' σ' H' x hr er
      obtain ⟨ht, xt⟩ := hr.trunc x hm
      obtain ⟨a, ea, q2⟩ := q ρ H' xt ht
      refine ⟨a, ea, ?_⟩
      rcases q2 with q2 | ⟨z, q2⟩
      · exact .inl q2
      · exact .inr ⟨z, fun dd xs h1 h2 h3 h4 => q2 dd xs h1 h2 (DRs.less (fun a h => x.sub h) _ _ h3) fun z => h4 (x.sub z)⟩
/-- the law: the script is walked, the answer is True -/
theorem law_sp {n : Nat} {k : Nat} {x : Str} {H : Hp} {a : Addr} {ns : List Int} (hid : C.hid = []) (hS : SqL C.K H a (ns.map V.int)) (hrun : ∃ m', run F G XX k x [.s ns] [] = .ok (.d (.bool true)) m') : spOf { C with hid := [] } F G XX k x 1 [.ref a] H (fun v _ => v = .bl true) fun _ _ _ => False := by
  obtain ⟨m', e⟩ := hrun
  refine ⟨rfl, [], [.s ns], [], ⟨rfl, List.nodup_nil, (fun a ha => nomatch ha), (fun i a o e1 => by cases i <;> cases e1)⟩, .cons ⟨a, rfl, ?_⟩ .nil, ?_⟩
  · rcases hS with r | ⟨o, its, m, h1, h2, h3, h4, h5, h6⟩
    · exact .inl ⟨r, ⟨(fun z => nomatch z), (fun z => nomatch z)⟩⟩
    · exact .inr ⟨o, its, m, h1, h2, h3, h4, h5, h6⟩
  · rw [e]
    intro ρ' v H' _ _ r
    cases r
    rfl
end
end Sim
set_option maxHeartbeats 4000000
namespace Sim
open PySem PySem.Spec PyProof.Rows L2
/-! ### when two texts of the small language are the same -/
mutual
def qE : SE → SE → Bool
  | .var i, .var j => decide (i = j)
  | .dat d, .dat e => qD d e
  | .glob x, .glob y => decide (x = y)
  | .neg a, .neg b => qE a b
  | .not a, .not b => qE a b
  | .and a b, .and c d => qE a c && qE b d
  | .or a b, .or c d => qE a c && qE b d
  | .bin m o a b, .bin n p c d => (m == n) && decide (o = p) && qE a c && qE b d
  | .cmp o a b, .cmp p c d => decide (o = p) && qE a c && qE b d
  | .chain o1 o2 a b c, .chain p1 p2 d e f => decide (o1 = p1) && decide (o2 = p2) && qE a d && qE b e && qE c f
  | .ite a b c, .ite d e f => qE a d && qE b e && qE c f
  | .tup a, .tup b => qEs a b
  | .lst m a, .lst n b => (m == n) && qEs a b
  | .call f a, .call g b => decide (f = g) && qEs a b
  | .callN f a, .callN g b => decide (f = g) && qEs a b
  | .blt m f a, .blt n g b => (m == n) && decide (f = g) && qEs a b
  | .isin T a, .isin U b => decide (T = U) && qE a b
  | .idx a b, .idx c d => qE a c && qE b d
  | .slc m a b c, .slc n d e f => (m == n) && qE a d && qE b e && qE c f
  | .nop, .nop => true
  | .comp m a tg tt s c own, .comp n b tg' tt' s' c' own' => (m == n) && qE a b && decide (tg = tg') && (tt == tt') && qI s s' && qE c c' && decide (own = own')
  | .meth m f a es, .meth n g b fs => (m == n) && decide (f = g) && qE a b && qEs es fs
  | .dct0 m, .dct0 n => m == n
  | .dct1 m a b, .dct1 n c d => (m == n) && qE a c && qE b d
  | _, _ => false
def qEs : SEs → SEs → Bool
  | .nil, .nil => true
  | .cons a b, .cons c d => qE a c && qEs b d
  | _, _ => false
def qI : SI → SI → Bool
  | .val a, .val b => qE a b
  | .rng1 a, .rng1 b => qE a b
  | .rng2 a b, .rng2 c d => qE a c && qE b d
  | .enum a, .enum b => qE a b
  | .zip a b, .zip c d => qE a c && qE b d
  | .items a, .items b => qE a b
  | .values a, .values b => qE a b
  | _, _ => false
end
mutual
theorem qE_ok : ∀ a b : SE, qE a b = true → a = b := by
  intro a b h
  cases a <;> cases b <;> simp only [qE, Bool.and_eq_true, decide_eq_true_eq, beq_iff_eq, Bool.false_eq_true] at h
  all_goals first
    | exact congrArg _ h
    | exact congrArg _ (qD_ok _ _ h)
    | exact congrArg _ (qE_ok _ _ h)
    | exact congrArg _ (qEs_ok _ _ h)
    | rfl
    | (obtain ⟨h1, h2⟩ := h; first
        | (rw [qE_ok _ _ h1, qE_ok _ _ h2])
        | (rw [h1, qEs_ok _ _ h2])
        | (rw [h1, qE_ok _ _ h2])
        | (obtain ⟨h1, h3⟩ := h1; first
            | (rw [h1, h3, qEs_ok _ _ h2])
            | (rw [h1, qE_ok _ _ h3, qE_ok _ _ h2])
            | (rw [qE_ok _ _ h1, qE_ok _ _ h3, qE_ok _ _ h2])
            | (obtain ⟨h1, h4⟩ := h1; first
                | (rw [h1, h4, qE_ok _ _ h3, qE_ok _ _ h2])
                | (rw [h1, h4, qE_ok _ _ h3, qEs_ok _ _ h2])
                | (rw [h1, qE_ok _ _ h4, qE_ok _ _ h3, qE_ok _ _ h2])
                | (obtain ⟨h1, h5⟩ := h1; first
                    | (rw [h1, h5, qE_ok _ _ h4, qE_ok _ _ h3, qE_ok _ _ h2])
                    | (obtain ⟨h1, h6⟩ := h1
                       obtain ⟨h1, h7⟩ := h1
                       rw [h1, qE_ok _ _ h7, h6, h5, qI_ok _ _ h4, qE_ok _ _ h3, h2])))))
theorem qEs_ok : ∀ a b : SEs, qEs a b = true → a = b := by
  intro a b h
  cases a <;> cases b <;> simp only [qEs, Bool.and_eq_true, Bool.false_eq_true] at h
  · rfl
  · rw [qE_ok _ _ h.1, qEs_ok _ _ h.2]
theorem qI_ok : ∀ a b : SI, qI a b = true → a = b := by
  intro a b h
  cases a <;> cases b <;> simp only [qI, Bool.and_eq_true, Bool.false_eq_true] at h
  all_goals first
    | exact congrArg _ (qE_ok _ _ h)
    | (rw [qE_ok _ _ h.1, qE_ok _ _ h.2])
end
mutual
def qS : SS → SS → Bool
  | .asg i a, .asg j b => decide (i = j) && qE a b
  | .asgT i a, .asgT j b => decide (i = j) && qE a b
  | .par i a, .par j b => decide (i = j) && qEs a b
  | .sub a b c, .sub d e f => qE a d && qE b e && qE c f
  | .expr a, .expr b => qE a b
  | .ret a, .ret b => qE a b
  | .retN, .retN => true
  | .ite a b c, .ite d e f => qE a d && qSs b e && qSs c f
  | .for_ i t s b, .for_ j u r c => decide (i = j) && (t == u) && qI s r && qSs b c
  | .whl a b, .whl c d => qE a c && qSs b d
  | .raise c, .raise d => decide (c = d)
  | .try_ b h, .try_ c k => qSs b c && qHs h k
  | .pass, .pass => true
  | .brk, .brk => true
  | .cont, .cont => true
  | _, _ => false
def qSs : SSs → SSs → Bool
  | .nil, .nil => true
  | .cons a b, .cons c d => qS a c && qSs b d
  | _, _ => false
def qHs : SHs → SHs → Bool
  | .nil, .nil => true
  | .cons c a b, .cons d e f => decide (c = d) && qSs a e && qHs b f
  | _, _ => false
end
mutual
theorem qS_ok : ∀ a b : SS, qS a b = true → a = b := by
  intro a b h
  cases a <;> cases b <;> simp only [qS, Bool.and_eq_true, decide_eq_true_eq, beq_iff_eq, Bool.false_eq_true] at h
  all_goals first
    | exact congrArg _ h
    | exact congrArg _ (qE_ok _ _ h)
    | rfl
    | (obtain ⟨h1, h2⟩ := h; first
        | (rw [h1, qE_ok _ _ h2])
        | (rw [h1, qEs_ok _ _ h2])
        | (rw [qE_ok _ _ h1, qSs_ok _ _ h2])
        | (rw [qSs_ok _ _ h1, qHs_ok _ _ h2])
        | (obtain ⟨h1, h3⟩ := h1; first
            | (rw [qE_ok _ _ h1, qE_ok _ _ h3, qE_ok _ _ h2])
            | (rw [qE_ok _ _ h1, qSs_ok _ _ h3, qSs_ok _ _ h2])
            | (obtain ⟨h1, h4⟩ := h1; rw [h1, h4, qI_ok _ _ h3, qSs_ok _ _ h2])))
theorem qSs_ok : ∀ a b : SSs, qSs a b = true → a = b := by
  intro a b h
  cases a <;> cases b <;> simp only [qSs, Bool.and_eq_true, Bool.false_eq_true] at h
  · rfl
  · rw [qS_ok _ _ h.1, qSs_ok _ _ h.2]
theorem qHs_ok : ∀ a b : SHs, qHs a b = true → a = b := by
  intro a b h
  cases a <;> cases b <;> simp only [qHs, Bool.and_eq_true, decide_eq_true_eq, Bool.false_eq_true] at h
  · rfl
  · rw [h.1.1, qSs_ok _ _ h.1.2, qHs_ok _ _ h.2]
end
/-- what the compiler makes of a text, checked -/
def qO : Option SSs → SSs → Bool
  | some a, b => qSs a b
  | none, _ => false
theorem qO_ok {a : Option SSs} {b : SSs} (h : qO a b = true) : a = some b := by
  cases a with
  | none => cases h
  | some a => exact congrArg _ (qSs_ok _ _ h)

/-! ### a call of a def -/
def fin (keep : Bool) (n : Nat) : RS → R W
  | .nx _ m' => endCall keep n (.d .none) m'
  | .rt w m' => endCall keep n w m'
  | .exc c fs _ m' => .exc c fs (m'.take n)
  | .bk _ _ => .bad
  | .ct _ _ => .bad
  | .bad => .bad
def callFn (C : CallS) (G : Str → Option D) (X : Str → Str → Bool) (fn : Fn) (ws : List W) (m : MH) : R W := if ws.length = fn.np then fin fn.keep m.length (evSs C G X fn.body (startE fn.N.length ws) m) else .bad
theorem find_at {fn : Fn} : ∀ {F : List Fn} (i : Nat), (F.map Fn.name).Nodup → F[i]? = some fn → F.find? (fun g => decide (g.name = fn.name)) = some fn
  | [], i, _, h => by simp at h
  | f :: F, 0, _, h => by simp at h; subst h; simp
  | f :: F, i + 1, nd, h => by
    rw [List.map_cons, List.nodup_cons] at nd
    have h : F[i]? = some fn := by simpa using h
    have ne : f.name ≠ fn.name := fun z => nd.1 (z ▸ List.mem_map.mpr ⟨fn, List.mem_of_getElem? h, rfl⟩)
    rw [List.find?_cons_of_neg (by simpa using ne)]
    exact find_at i nd.2 h
theorem run_at {F : List Fn} {G : Str → Option D} {X : Str → Str → Bool} {fn : Fn} (i : Nat) (nd : (F.map Fn.name).Nodup) (h : F[i]? = some fn) (k : Nat) (ws : List W) (m : MH) : run F G X (k + 1) fn.name ws m = callFn (run F G X k) G X fn ws m := by
  simp only [run, find_at i nd h, callFn]
  split
  · cases evSs (run F G X k) G X fn.body (startE fn.N.length ws) m <;> rfl
  · rfl
end Sim
set_option maxHeartbeats 4000000
namespace Sim
open PySem PySem.Spec PyProof.Rows L2
/-! ### words for evaluating -/
/-- a comprehension's turn, folded -/
def tst (C : CallS) (G : Str → Option D) (cond : SE) : Env → MH → R Bool := fun e' m => condOf cond m (evT C G cond e' m)
def cmpE (C : CallS) (G : Str → Option D) (tg : List Nat) (tt : Bool) (own : List Nat) (e : Env) (cond elt : SE) : D → MH → R (Option D) := compF tg tt own e (tst C G cond) (evE C G elt)
theorem bind_c {α β : Type} {x x' : R α} {f : α → MH → R β} (h : x = x') : x.bind f = x'.bind f := h ▸ rfl
theorem thn_c {α : Type} {x x' : R α} {e : Env} {f : α → MH → RS} (h : x = x') : x.thn e f = x'.thn e f := h ▸ rfl
theorem sthn_c {x x' : RS} {f : Env → MH → RS} (h : x = x') : x.thn f = x'.thn f := h ▸ rfl
@[simp] theorem tst_nop (C : CallS) (G : Str → Option D) (e : Env) (m : MH) : tst C G .nop e m = .ok true m := Eq.trans rfl rfl
@[simp] theorem part_nop (m : MH) (r : R W) : partOf .nop m r = .ok none m := Eq.trans rfl rfl
@[simp] theorem part_var (i : Nat) (m m' : MH) (j : Int) : partOf (.var i) m (.ok (.d (.int j)) m') = .ok (some j) m' := Eq.trans rfl rfl
@[simp] theorem part_dat (d : D) (m m' : MH) (j : Int) : partOf (.dat d) m (.ok (.d (.int j)) m') = .ok (some j) m' := Eq.trans rfl rfl
@[simp] theorem part_neg (a : SE) (m m' : MH) (j : Int) : partOf (.neg a) m (.ok (.d (.int j)) m') = .ok (some j) m' := Eq.trans rfl rfl
@[simp] theorem part_bin (mu : Bool) (o : BOp) (a b : SE) (m m' : MH) (j : Int) : partOf (.bin mu o a b) m (.ok (.d (.int j)) m') = .ok (some j) m' := Eq.trans rfl rfl
@[simp] theorem part_call (f : Str) (es : SEs) (m m' : MH) (j : Int) : partOf (.call f es) m (.ok (.d (.int j)) m') = .ok (some j) m' := Eq.trans rfl rfl
@[simp] theorem part_blt (mu : Bool) (f : Str) (es : SEs) (m m' : MH) (j : Int) : partOf (.blt mu f es) m (.ok (.d (.int j)) m') = .ok (some j) m' := Eq.trans rfl rfl
@[simp] theorem part_idx (a b : SE) (m m' : MH) (j : Int) : partOf (.idx a b) m (.ok (.d (.int j)) m') = .ok (some j) m' := Eq.trans rfl rfl
@[simp] theorem part_ite (a b c : SE) (m m' : MH) (j : Int) : partOf (.ite a b c) m (.ok (.d (.int j)) m') = .ok (some j) m' := Eq.trans rfl rfl
@[simp] theorem evE_1 (C : CallS) (G : Str → Option D) : evE C G (.var i) e m = match e[i]? with
    | some (some w) => .ok w m
    | _ => .bad := by simp only [evE] <;> rfl
@[simp] theorem evE_2 (C : CallS) (G : Str → Option D) : evE C G (.dat d) e m = .ok (.d d) m := by simp only [evE] <;> rfl
@[simp] theorem evE_3 (C : CallS) (G : Str → Option D) : evE C G (.glob x) e m = match G x with
    | some d => .ok (.d d) m
    | none => .bad := by simp only [evE] <;> rfl
@[simp] theorem evE_4 (C : CallS) (G : Str → Option D) : evE C G (.neg a) e m = (evE C G a e m).bind fun x m => match x with
    | .d (.int i) => .ok (.d (.int (-i))) m
    | _ => .bad := by simp only [evE] <;> rfl
@[simp] theorem evE_5 (C : CallS) (G : Str → Option D) : evE C G (.not a) e m = (evE C G a e m).bind fun x m => (truW x m).bind fun b m => .ok (.d (.bool (!b))) m := by simp only [evE] <;> rfl
@[simp] theorem evE_6 (C : CallS) (G : Str → Option D) : evE C G (.and a b) e m = (evE C G a e m).bind fun x m => (truW x m).bind fun c m => if c then evE C G b e m else .ok x m := by simp only [evE] <;> rfl
@[simp] theorem evE_7 (C : CallS) (G : Str → Option D) : evE C G (.or a b) e m = (evE C G a e m).bind fun x m => (truW x m).bind fun c m => if c then .ok x m else evE C G b e m := by simp only [evE] <;> rfl
@[simp] theorem evE_8 (C : CallS) (G : Str → Option D) : evE C G (.bin mu op a b) e m = (evE C G a e m).bind fun x m => (evE C G b e m).bind fun y m => binW mu op x y m := by simp only [evE] <;> rfl
@[simp] theorem evE_9 (C : CallS) (G : Str → Option D) : evE C G (.cmp op a b) e m = (evE C G a e m).bind fun x m => (evE C G b e m).bind fun y m => (cmpW op x y m).bind fun c m => .ok (.d (.bool c)) m := by simp only [evE] <;> rfl
@[simp] theorem evE_10 (C : CallS) (G : Str → Option D) : evE C G (.chain o1 o2 a b c) e m = (evE C G a e m).bind fun x m => (evE C G b e m).bind fun y m => (cmpW o1 x y m).bind fun k m =>
      if k then (evE C G c e m).bind fun z m => (cmpW o2 y z m).bind fun k m => .ok (.d (.bool k)) m else .ok (.d (.bool false)) m := by simp only [evE] <;> rfl
@[simp] theorem evE_11 (C : CallS) (G : Str → Option D) : evE C G (.ite c a b) e m = (evT C G c e m).bind fun k m => if k then evE C G a e m else evE C G b e m := by simp only [evE] <;> rfl
@[simp] theorem evE_12 (C : CallS) (G : Str → Option D) : evE C G (.tup es) e m = (evA C G es e m).bind fun ds m => .ok (.d (.tuple ds)) m := by simp only [evE] <;> rfl
@[simp] theorem evE_13 (C : CallS) (G : Str → Option D) : evE C G (.lst mu es) e m = (evA C G es e m).bind fun ds m => newL mu ds m := by simp only [evE] <;> rfl
@[simp] theorem evE_14 (C : CallS) (G : Str → Option D) : evE C G (.call f es) e m = (evW C G es e m).bind fun ws m => C f ws m := by simp only [evE] <;> rfl
@[simp] theorem evE_14N (C : CallS) (G : Str → Option D) : evE C G (.callN f es) e m = (evW C G es e m).bind fun ws m => callN C f ws m := by simp only [evE] <;> rfl
@[simp] theorem evE_15 (C : CallS) (G : Str → Option D) : evE C G (.blt mu f es) e m = (evW C G es e m).bind fun ws m => bltW mu f ws m := by simp only [evE] <;> rfl
@[simp] theorem evE_16 (C : CallS) (G : Str → Option D) : evE C G (.isin T a) e m = (evE C G a e m).bind fun x m => match (rd m x).bind (isinD T) with
    | some c => .ok (.d (.bool c)) m
    | none => .bad := by simp only [evE] <;> rfl
@[simp] theorem evE_17 (C : CallS) (G : Str → Option D) : evE C G (.idx a b) e m = (evE C G a e m).bind fun x m => (evE C G b e m).bind fun y m => idxW x y m := by simp only [evE] <;> rfl
@[simp] theorem evE_18 (lo hi : SE) (C : CallS) (G : Str → Option D) : evE C G (.slc mu a lo hi) e m = (evE C G a e m).bind fun x m => (partOf lo m (evE C G lo e m)).bind fun l m => (partOf hi m (evE C G hi e m)).bind fun h m => slcW mu x l h m := by simp only [evE] <;> rfl
@[simp] theorem evE_19 (C : CallS) (G : Str → Option D) : evE C G (.nop) e m = .bad := by simp only [evE] <;> rfl
@[simp] theorem evE_20 (cond : SE) (C : CallS) (G : Str → Option D) : evE C G (.comp mu elt tg tt src cond own) e m = (evI C G src e m).bind fun s m => (match s with
    | .vals ds => compV (cmpE C G tg tt own e cond elt) ds [] m
    | .dyn p => compP (cmpE C G tg tt own e cond elt) p (lenAt m p) 0 [] m).bind fun ys m => newL mu ys m := by simp only [evE] <;> rfl
@[simp] theorem evE_21 (C : CallS) (G : Str → Option D) : evE C G (.meth mu f a es) e m = (evE C G a e m).bind fun x m => if preMeth f x m then (evW C G es e m).bind fun ws m => methW mu f x ws m else .bad := by simp only [evE] <;> rfl
@[simp] theorem evE_22 (C : CallS) (G : Str → Option D) : evE C G (.dct0 mu) e m = newD mu [] m := by simp only [evE] <;> rfl
@[simp] theorem evE_23 (C : CallS) (G : Str → Option D) : evE C G (.dct1 mu a b) e m = (evE C G a e m).nox.bind fun x m => (evE C G b e m).nox.bind fun y m => match x, y with
    | .d k, .d v => match keyT k with
      | some _ => newD mu [(k, v)] m
      | none => .bad
    | _, _ => .bad := by simp only [evE] <;> rfl
@[simp] theorem evT_1 (C : CallS) (G : Str → Option D) : evT C G (.not a) e m = (evT C G a e m).bind fun b m => .ok (!b) m := by simp only [evT] <;> rfl
@[simp] theorem evT_2 (C : CallS) (G : Str → Option D) : evT C G (.and a b) e m = (evT C G a e m).bind fun c m => if c then evT C G b e m else .ok false m := by simp only [evT] <;> rfl
@[simp] theorem evT_3 (C : CallS) (G : Str → Option D) : evT C G (.or a b) e m = (evT C G a e m).bind fun c m => if c then .ok true m else evT C G b e m := by simp only [evT] <;> rfl
@[simp] theorem evT_4 (C : CallS) (G : Str → Option D) : evT C G (.cmp op a b) e m = (evE C G a e m).bind fun x m => (evE C G b e m).bind fun y m => cmpW op x y m := by simp only [evT] <;> rfl
@[simp] theorem evT_5 (C : CallS) (G : Str → Option D) : evT C G (.chain o1 o2 a b c) e m = (evE C G a e m).bind fun x m => (evE C G b e m).bind fun y m => (cmpW o1 x y m).bind fun k m =>
      if k then (evE C G c e m).bind fun z m => cmpW o2 y z m else .ok false m := by simp only [evT] <;> rfl
@[simp] theorem evT_6 (C : CallS) (G : Str → Option D) : evT C G (.ite c a b) e m = (evT C G c e m).bind fun k m => if k then evT C G a e m else evT C G b e m := by simp only [evT] <;> rfl
@[simp] theorem evT_7 (C : CallS) (G : Str → Option D) : evT C G (.isin T a) e m = (evE C G a e m).bind fun x m => match (rd m x).bind (isinD T) with
    | some c => .ok c m
    | none => .bad := by simp only [evT] <;> rfl
@[simp] theorem evT_8 (C : CallS) (G : Str → Option D) : evT C G (.call f es) e m = ((evW C G es e m).bind fun ws m => C f ws m).bind truW := by simp only [evT] <;> rfl
@[simp] theorem evT_9 (C : CallS) (G : Str → Option D) : evT C G (.blt mu f es) e m = ((evW C G es e m).bind fun ws m => bltW mu f ws m).bind truW := by simp only [evT] <;> rfl
@[simp] theorem evT_10 (C : CallS) (G : Str → Option D) : evT C G (.var i) e m = match e[i]? with
    | some (some w) => truW w m
    | _ => .bad := by simp only [evT] <;> rfl
@[simp] theorem evT_11 (C : CallS) (G : Str → Option D) : evT C G (.idx a b) e m = ((evE C G a e m).bind fun x m => (evE C G b e m).bind fun y m => idxW x y m).bind truW := by simp only [evT] <;> rfl
@[simp] theorem evA_1 (C : CallS) (G : Str → Option D) : evA C G (.nil) e m = .ok [] m := by simp only [evA] <;> rfl
@[simp] theorem evA_2 (C : CallS) (G : Str → Option D) : evA C G (.cons a es) e m = (evE C G a e m).bind fun x m => match x with
    | .d d => (evA C G es e m).bind fun ds m => .ok (d :: ds) m
    | _ => .bad := by simp only [evA] <;> rfl
@[simp] theorem evW_1 (C : CallS) (G : Str → Option D) : evW C G (.nil) e m = .ok [] m := by simp only [evW] <;> rfl
@[simp] theorem evW_2 (C : CallS) (G : Str → Option D) : evW C G (.cons a es) e m = (evE C G a e m).bind fun x m => (evW C G es e m).bind fun ds m => .ok (x :: ds) m := by simp only [evW] <;> rfl
@[simp] theorem evI_1 (C : CallS) (G : Str → Option D) : evI C G (.val a) e m = (evE C G a e m).bind fun x m => match srcOf x m with
    | some s => .ok s m
    | none => .bad := by simp only [evI] <;> rfl
@[simp] theorem evI_2 (C : CallS) (G : Str → Option D) : evI C G (.rng1 a) e m = (evE C G a e m).bind fun x m => match x with
    | .d (.int j) => if decide (-(2 ^ 62) ≤ j) && decide (j ≤ 16777216) then .ok (.vals (rangeD 0 j.toNat)) m else .bad
    | _ => .bad := by simp only [evI] <;> rfl
@[simp] theorem evI_3 (C : CallS) (G : Str → Option D) : evI C G (.rng2 a b) e m = (evE C G a e m).bind fun x m => (evE C G b e m).bind fun y m => match x, y with
    | .d (.int i), .d (.int j) => if decide (-(2 ^ 61) ≤ i) && decide (i < 2 ^ 61) && decide (-(2 ^ 61) ≤ j) && decide (j < 2 ^ 61) && decide (j - i ≤ 16777216) then .ok (.vals (rangeD i (j - i).toNat)) m else .bad
    | _, _ => .bad := by simp only [evI] <;> rfl
@[simp] theorem evI_4 (C : CallS) (G : Str → Option D) : evI C G (.enum a) e m = (evE C G a e m).bind fun x m => match x with
    | .d (.list ds) => .ok (.vals (enumD 0 ds)) m
    | .d (.tuple ds) => .ok (.vals (enumD 0 ds)) m
    | _ => .bad := by simp only [evI] <;> rfl
@[simp] theorem evI_5 (C : CallS) (G : Str → Option D) : evI C G (.zip a b) e m = (evE C G a e m).bind fun x m => (evE C G b e m).bind fun y m => match x, y with
    | .d (.list xs), .d (.list ys) => .ok (.vals (zipD xs ys)) m
    | _, _ => .bad := by simp only [evI] <;> rfl
@[simp] theorem evI_6 (C : CallS) (G : Str → Option D) : evI C G (.items a) e m = (evE C G a e m).bind fun x m => match x with
    | .d (.dict kvs) => .ok (.vals (kvs.map fun p => .tuple [p.1, p.2])) m
    | _ => .bad := by simp only [evI] <;> rfl
@[simp] theorem evI_7 (C : CallS) (G : Str → Option D) : evI C G (.values a) e m = .bad := by simp only [evI] <;> rfl
@[simp] theorem evS_1 (C : CallS) (G : Str → Option D) (X : Str → Str → Bool) : evS C G X (.asg i a) e m = (evE C G a e m).thn e fun x m => .nx (e.set i (some x)) m := by simp only [evS] <;> rfl
@[simp] theorem evS_2 (C : CallS) (G : Str → Option D) (X : Str → Str → Bool) : evS C G X (.asgT is a) e m = (evE C G a e m).thn e fun x m => match x with
    | .d d => match asgTg is true d e with
      | some e => .nx e m
      | none => .bad
    | _ => .bad := by simp only [evS] <;> rfl
@[simp] theorem evS_3 (C : CallS) (G : Str → Option D) (X : Str → Str → Bool) : evS C G X (.par is es) e m = (evW C G es e m).thn e fun ws m => if ws.length = is.length then .nx (setAll is ws e) m else .bad := by simp only [evS] <;> rfl
@[simp] theorem evS_4 (C : CallS) (G : Str → Option D) (X : Str → Str → Bool) : evS C G X (.sub o i a) e m = (evE C G a e m).thn e fun v m => (evE C G o e m).thn e fun x m => (evE C G i e m).thn e fun k m => (subW x k v m).thn e fun _ m => .nx e m := by simp only [evS] <;> rfl
@[simp] theorem evS_5 (C : CallS) (G : Str → Option D) (X : Str → Str → Bool) : evS C G X (.expr a) e m = (evE C G a e m).thn e fun _ m => .nx e m := by simp only [evS] <;> rfl
@[simp] theorem evS_6 (C : CallS) (G : Str → Option D) (X : Str → Str → Bool) : evS C G X (.ret a) e m = (evE C G a e m).thn e fun x m => .rt x m := by simp only [evS] <;> rfl
@[simp] theorem evS_7 (C : CallS) (G : Str → Option D) (X : Str → Str → Bool) : evS C G X (.retN) e m = .rt (.d .none) m := by simp only [evS] <;> rfl
@[simp] theorem evS_8 (C : CallS) (G : Str → Option D) (X : Str → Str → Bool) : evS C G X (.ite c a b) e m = (evT C G c e m).thn e fun k m => if k then evSs C G X a e m else evSs C G X b e m := by simp only [evS] <;> rfl
@[simp] theorem evS_9 (C : CallS) (G : Str → Option D) (X : Str → Str → Bool) : evS C G X (.for_ tg tt src b) e m = (evI C G src e m).thn e fun s m => match s with
    | .vals ds => forV (asgTg tg tt) (evSs C G X b) ds e m
    | .dyn p => forP (asgTg tg tt) (evSs C G X b) p (lenAt m p) 0 e m := by simp only [evS] <;> rfl
@[simp] theorem evS_10 (C : CallS) (G : Str → Option D) (X : Str → Str → Bool) : evS C G X (.whl c b) e m = whileF (evT C G c) (evSs C G X b) whileMost e m := by simp only [evS] <;> rfl
@[simp] theorem evS_11 (C : CallS) (G : Str → Option D) (X : Str → Str → Bool) : evS C G X (.raise c) e m = .exc c [] e m := by simp only [evS] <;> rfl
@[simp] theorem evS_12 (C : CallS) (G : Str → Option D) (X : Str → Str → Bool) : evS C G X (.try_ b hs) e m = match evSs C G X b e m with
    | .exc c fs e m => evHs C G X hs c fs e m
    | x => x := by simp only [evS] <;> rfl
@[simp] theorem evS_13 (C : CallS) (G : Str → Option D) (X : Str → Str → Bool) : evS C G X (.pass) e m = .nx e m := by simp only [evS] <;> rfl
@[simp] theorem evS_14 (C : CallS) (G : Str → Option D) (X : Str → Str → Bool) : evS C G X (.brk) e m = .bk e m := by simp only [evS] <;> rfl
@[simp] theorem evS_15 (C : CallS) (G : Str → Option D) (X : Str → Str → Bool) : evS C G X (.cont) e m = .ct e m := by simp only [evS] <;> rfl
@[simp] theorem evSs_1 (C : CallS) (G : Str → Option D) (X : Str → Str → Bool) : evSs C G X (.nil) e m = .nx e m := by simp only [evSs] <;> rfl
@[simp] theorem evSs_2 (C : CallS) (G : Str → Option D) (X : Str → Str → Bool) : evSs C G X (.cons s ss) e m = (evS C G X s e m).thn fun e m => evSs C G X ss e m := by simp only [evSs] <;> rfl
theorem ofString_inj {a b : String} : (Str.ofString a = Str.ofString b) = (a = b) := by
  refine propext ⟨fun h => ?_, fun h => by rw [h]⟩
  rw [Str.ofString_eq_toList, Str.ofString_eq_toList] at h
  injection h with h
  have h : a.toList.map Char.toNat = b.toList.map Char.toNat := by
    have := congrArg Array.toList h
    simpa using this
  have inj : ∀ {l l' : List Char}, l.map Char.toNat = l'.map Char.toNat → l = l' := by
    intro l
    induction l with
    | nil => intro l' h; cases l' with | nil => rfl | cons _ _ => simp at h
    | cons c l ih =>
      intro l' h
      cases l' with
      | nil => simp at h
      | cons d l' =>
        rw [List.map_cons, List.map_cons] at h
        injection h with h1 h2
        rw [ih h2, show c = d from Char.toNat_inj.mp h1]
  exact String.toList_inj.mp (inj h)
section
variable {α β : Type} {p : Prop} [Decidable p] {m : MH} {e : Env}
@[simp] theorem bind_ite (x y : R α) (f : α → MH → R β) : (if p then x else y).bind f = if p then x.bind f else y.bind f := by split <;> rfl
@[simp] theorem thn_ite (x y : R α) (f : α → MH → RS) : (if p then x else y).thn e f = if p then x.thn e f else y.thn e f := by split <;> rfl
@[simp] theorem sthn_ite (x y : RS) (f : Env → MH → RS) : (if p then x else y).thn f = if p then x.thn f else y.thn f := by split <;> rfl
@[simp] theorem fin_ite (k : Bool) (n : Nat) (x y : RS) : fin k n (if p then x else y) = if p then fin k n x else fin k n y := by split <;> rfl
@[simp] theorem nox_ite (x y : R α) : (if p then x else y).nox = if p then x.nox else y.nox := by split <;> rfl
@[simp] theorem and_b (b : Bool) : (if p then R.ok b m else R.ok false m) = R.ok (decide p && b) m := by split <;> simp [*]
@[simp] theorem or_b (b : Bool) : (if p then R.ok true m else R.ok b m) = R.ok (decide p || b) m := by split <;> simp [*]
@[simp] theorem and_w (b : Bool) : (if p then R.ok (W.d (.bool b)) m else R.ok (W.d (.bool false)) m) = R.ok (W.d (.bool (decide p && b))) m := by split <;> simp [*]
@[simp] theorem or_w (b : Bool) : (if p then R.ok (W.d (.bool true)) m else R.ok (W.d (.bool b)) m) = R.ok (W.d (.bool (decide p || b))) m := by split <;> simp [*]
@[simp] theorem and_w' (b c : Bool) : (if b = true then R.ok (W.d (.bool c)) m else R.ok (W.d (.bool b)) m) = R.ok (W.d (.bool (b && c))) m := by cases b <;> simp
@[simp] theorem or_w' (b c : Bool) : (if b = true then R.ok (W.d (.bool b)) m else R.ok (W.d (.bool c)) m) = R.ok (W.d (.bool (b || c))) m := by cases b <;> simp
@[simp] theorem fin_nx (k : Bool) (n : Nat) : fin k n (.nx e m) = endCall k n (.d .none) m := Eq.trans rfl rfl
@[simp] theorem fin_rt (k : Bool) (n : Nat) (w : W) : fin k n (.rt w m) = endCall k n w m := Eq.trans rfl rfl
@[simp] theorem fin_exc (k : Bool) (n : Nat) (c : Str) (fs : List (Str × D)) : fin k n (.exc c fs e m) = .exc c fs (m.take n) := Eq.trans rfl rfl
@[simp] theorem end_d (n : Nat) (d : D) : endCall false n (.d d) m = .ok (.d d) (m.take n) := Eq.trans rfl rfl
@[simp] theorem end_keep (n : Nat) (w : W) : endCall true n w m = .ok w m := Eq.trans rfl rfl
@[simp] theorem end_r (n i : Nat) : endCall false n (.r i) m = if i < n then .ok (.r i) (m.take n) else match rd m (.r i) with | some d => .ok (.d d) (m.take n) | none => .bad := Eq.trans rfl rfl
@[simp] theorem rd_d (d : D) : rd m (.d d) = some d := Eq.trans rfl rfl
@[simp] theorem truW_bool (b : Bool) : truW (.d (.bool b)) m = .ok b m := Eq.trans rfl rfl
@[simp] theorem truW_int (i : Int) : truW (.d (.int i)) m = .ok (i != 0) m := Eq.trans rfl rfl
@[simp] theorem startE_nil (n : Nat) : startE n [] = List.replicate n none := by simp [startE]
@[simp] theorem set_take (p : Nat) (x : MO) : (m.set p x).take m.length = m.set p x := by
  conv => lhs; rw [← List.length_set (as := m) (i := p) (a := x)]
  rw [List.take_length]
@[simp] theorem app_take (x : List MO) : (m ++ x).take m.length = m := by simp
end
/-! built-ins -/
section
variable {mu : Bool} {ws : List W} {m : MH} {ds es : List D} {i j : Int} {x : D}
@[simp] theorem blt_len : bltW mu "len" ws m = bLen ws m := by simp [bltW, ofString_inj]
@[simp] theorem blt_all : bltW mu "all" ws m = bAll ws m := by simp [bltW, ofString_inj]
@[simp] theorem blt_any : bltW mu "any" ws m = bAny ws m := by simp [bltW, ofString_inj]
@[simp] theorem blt_list : bltW mu "list" ws m = bList mu ws m := by simp [bltW, ofString_inj]
@[simp] theorem blt_tuple : bltW mu "tuple" ws m = bTuple ws m := by simp [bltW, ofString_inj]
@[simp] theorem blt_int : bltW mu "int" ws m = bInt ws m := by simp [bltW, ofString_inj]
@[simp] theorem blt_max : bltW mu "max" ws m = bMax ws m := by simp [bltW, ofString_inj]
@[simp] theorem blt_min : bltW mu "min" ws m = bMin ws m := by simp [bltW, ofString_inj]
@[simp] theorem blt_ss : bltW mu "sorted set!" ws m = bSortedSet mu ws m := by simp [bltW, ofString_inj]
@[simp] theorem blt_lr : bltW mu "list range!" ws m = bListRange mu ws m := by simp [bltW, ofString_inj]
@[simp] theorem blt_rev : bltW mu "reversed!" ws m = bRev mu ws m := by simp [bltW, ofString_inj]
@[simp] theorem blt_sd : bltW mu "sorted" ws m = bSorted mu ws m := by simp [bltW, ofString_inj]
@[simp] theorem blt_lv : bltW mu "list values!" ws m = bValues mu ws m := by simp [bltW, ofString_inj]
@[simp] theorem blt_dc : bltW mu "dict" ws m = bDict mu ws m := by simp [bltW, ofString_inj]
@[simp] theorem newD_f {kvs : List (D × D)} : newD false kvs m = .ok (.d (.dict kvs)) m := Eq.trans rfl rfl
@[simp] theorem newD_t {kvs : List (D × D)} : newD true kvs m = .ok (.r m.length) (m ++ [.dct kvs]) := Eq.trans rfl rfl
@[simp] theorem meth_get {f : W} : methW mu "get" f ws m = mGet f ws m := by simp [methW, ofString_inj]
@[simp] theorem len_d {kvs : List (D × D)} : bLen [.d (.dict kvs)] m = .ok (.d (.int kvs.length)) m := Eq.trans rfl rfl
@[simp] theorem list_d {kvs : List (D × D)} : bList mu [.d (.dict kvs)] m = newL mu (kvs.map (·.1)) m := Eq.trans rfl rfl
@[simp] theorem src_d {kvs : List (D × D)} : srcOf (.d (.dict kvs)) m = some (.vals (kvs.map (·.1))) := Eq.trans rfl rfl
@[simp] theorem meth_app {f : W} : methW mu "append" f ws m = mAppend f ws m := by simp [methW]
@[simp] theorem len_l : bLen [.d (.list ds)] m = .ok (.d (.int ds.length)) m := Eq.trans rfl rfl
@[simp] theorem len_t : bLen [.d (.tuple ds)] m = .ok (.d (.int ds.length)) m := Eq.trans rfl rfl
@[simp] theorem len_s {ns : List Int} : bLen [.s ns] m = .ok (.d (.int ns.length)) m := Eq.trans rfl rfl
@[simp] theorem list_l : bList mu [.d (.list ds)] m = newL mu ds m := Eq.trans rfl rfl
@[simp] theorem list_t : bList mu [.d (.tuple ds)] m = newL mu ds m := Eq.trans rfl rfl
@[simp] theorem tuple_l : bTuple [.d (.list ds)] m = .ok (.d (.tuple ds)) m := Eq.trans rfl rfl
@[simp] theorem tuple_t : bTuple [.d (.tuple ds)] m = .ok (.d (.tuple ds)) m := Eq.trans rfl rfl
@[simp] theorem int_i : bInt [.d (.int i)] m = .ok (.d (.int i)) m := Eq.trans rfl rfl
@[simp] theorem newL_f : newL false ds m = .ok (.d (.list ds)) m := Eq.trans rfl rfl
@[simp] theorem newL_t : newL true ds m = .ok (.r m.length) (m ++ [.lst ds]) := Eq.trans rfl rfl
@[simp] theorem cmp_eq_i : cmpW .eq (.d (.int i)) (.d (.int j)) m = .ok (decide (i = j)) m := Eq.trans rfl rfl
@[simp] theorem cmp_ne_i : cmpW .ne (.d (.int i)) (.d (.int j)) m = .ok (!decide (i = j)) m := Eq.trans rfl rfl
@[simp] theorem cmp_lt_i : cmpW .lt (.d (.int i)) (.d (.int j)) m = .ok (decide (i < j)) m := Eq.trans rfl rfl
@[simp] theorem cmp_le_i : cmpW .le (.d (.int i)) (.d (.int j)) m = .ok (decide (i ≤ j)) m := Eq.trans rfl rfl
@[simp] theorem cmp_gt_i : cmpW .gt (.d (.int i)) (.d (.int j)) m = .ok (decide (j < i)) m := Eq.trans rfl rfl
@[simp] theorem cmp_ge_i : cmpW .ge (.d (.int i)) (.d (.int j)) m = .ok (decide (j ≤ i)) m := Eq.trans rfl rfl
@[simp] theorem cmp_eq_s {a b : Str} : cmpW .eq (.d (.str a)) (.d (.str b)) m = .ok (decide (a = b)) m := Eq.trans rfl rfl
@[simp] theorem cmp_ne_s {a b : Str} : cmpW .ne (.d (.str a)) (.d (.str b)) m = .ok (!decide (a = b)) m := Eq.trans rfl rfl
@[simp] theorem cmp_eq_b {a b : Bool} : cmpW .eq (.d (.bool a)) (.d (.bool b)) m = .ok (decide (a = b)) m := Eq.trans rfl rfl
@[simp] theorem bin_add_i : binW mu .add (.d (.int i)) (.d (.int j)) m = .ok (.d (.int (i + j))) m := Eq.trans rfl rfl
@[simp] theorem bin_sub_i : binW mu .sub (.d (.int i)) (.d (.int j)) m = .ok (.d (.int (i - j))) m := Eq.trans rfl rfl
theorem okMul_r {k : Int} (h : decide (-(2 ^ 64) < k) && decide (k < 2 ^ 64) = true) : okMul i k = true := by
  have h : (decide (-(2 ^ 64) < k) && decide (k < 2 ^ 64)) = true := by simpa using h
  simp only [okMul, h, Bool.or_true]
@[simp] theorem bin_mod_i : binW mu .mod (.d (.int i)) (.d (.int j)) m = if 0 < j then .ok (.d (.int (i % j))) m else .bad := Eq.trans rfl rfl
@[simp] theorem bin_mul_i : binW mu .mul (.d (.int i)) (.d (.int j)) m = if okMul i j = true then .ok (.d (.int (i * j))) m else .bad := Eq.trans rfl rfl
@[simp] theorem bin_add_l : binW mu .add (.d (.list ds)) (.d (.list es)) m = if ds.length + es.length ≤ sizeLine then newL mu (ds ++ es) m else .bad := Eq.trans rfl rfl
@[simp] theorem bin_add_t : binW mu .add (.d (.tuple ds)) (.d (.tuple es)) m = if ds.length + es.length ≤ sizeLine then .ok (.d (.tuple (ds ++ es))) m else .bad := Eq.trans rfl rfl
@[simp] theorem idx_l : idxW (.d (.list ds)) (.d (.int i)) m = match atI ds i with | some d => .ok (.d d) m | none => .bad := by
  simp only [idxW, rd_d, idxD] <;> cases atI ds i <;> rfl
@[simp] theorem idx_t : idxW (.d (.tuple ds)) (.d (.int i)) m = match atI ds i with | some d => .ok (.d d) m | none => .bad := by
  simp only [idxW, rd_d, idxD] <;> cases atI ds i <;> rfl
@[simp] theorem src_l : srcOf (.d (.list ds)) m = some (.vals ds) := Eq.trans rfl rfl
@[simp] theorem src_t : srcOf (.d (.tuple ds)) m = some (.vals ds) := Eq.trans rfl rfl
@[simp] theorem slc_l {lo hi : Option Int} : slcW mu (.d (.list ds)) lo hi m = newL mu (cutL ds lo hi) m := Eq.trans rfl rfl
@[simp] theorem slc_t {lo hi : Option Int} : slcW mu (.d (.tuple ds)) lo hi m = .ok (.d (.tuple (cutL ds lo hi))) m := Eq.trans rfl rfl
end
/-! kinds -/
def isB : D → Bool
  | .bool _ => true
  | _ => false
def isI : D → Bool
  | .bool _ => true
  | .int _ => true
  | _ => false
def isS : D → Bool
  | .str _ => true
  | _ => false
def isT : D → Bool
  | .tuple _ => true
  | _ => false
def isL : D → Bool
  | .list _ => true
  | _ => false
def noD : D → Bool
  | .dict _ => false
  | _ => true
@[simp] theorem isB_b (b : Bool) : isB (.bool b) = true := Eq.trans rfl rfl
@[simp] theorem isB_n : isB .none = false := Eq.trans rfl rfl
@[simp] theorem isB_i (i : Int) : isB (.int i) = false := Eq.trans rfl rfl
@[simp] theorem isB_s (x : Str) : isB (.str x) = false := Eq.trans rfl rfl
@[simp] theorem isB_l (x : List D) : isB (.list x) = false := Eq.trans rfl rfl
@[simp] theorem isB_t (x : List D) : isB (.tuple x) = false := Eq.trans rfl rfl
@[simp] theorem isI_b (b : Bool) : isI (.bool b) = true := Eq.trans rfl rfl
@[simp] theorem isI_n : isI .none = false := Eq.trans rfl rfl
@[simp] theorem isI_i (i : Int) : isI (.int i) = true := Eq.trans rfl rfl
@[simp] theorem isI_s (x : Str) : isI (.str x) = false := Eq.trans rfl rfl
@[simp] theorem isI_l (x : List D) : isI (.list x) = false := Eq.trans rfl rfl
@[simp] theorem isI_t (x : List D) : isI (.tuple x) = false := Eq.trans rfl rfl
@[simp] theorem isS_b (b : Bool) : isS (.bool b) = false := Eq.trans rfl rfl
@[simp] theorem isS_n : isS .none = false := Eq.trans rfl rfl
@[simp] theorem isS_i (i : Int) : isS (.int i) = false := Eq.trans rfl rfl
@[simp] theorem isS_s (x : Str) : isS (.str x) = true := Eq.trans rfl rfl
@[simp] theorem isS_l (x : List D) : isS (.list x) = false := Eq.trans rfl rfl
@[simp] theorem isS_t (x : List D) : isS (.tuple x) = false := Eq.trans rfl rfl
@[simp] theorem isT_b (b : Bool) : isT (.bool b) = false := Eq.trans rfl rfl
@[simp] theorem isT_n : isT .none = false := Eq.trans rfl rfl
@[simp] theorem isT_i (i : Int) : isT (.int i) = false := Eq.trans rfl rfl
@[simp] theorem isT_s (x : Str) : isT (.str x) = false := Eq.trans rfl rfl
@[simp] theorem isT_l (x : List D) : isT (.list x) = false := Eq.trans rfl rfl
@[simp] theorem isT_t (x : List D) : isT (.tuple x) = true := Eq.trans rfl rfl
@[simp] theorem isL_b (b : Bool) : isL (.bool b) = false := Eq.trans rfl rfl
@[simp] theorem isL_n : isL .none = false := Eq.trans rfl rfl
@[simp] theorem isL_i (i : Int) : isL (.int i) = false := Eq.trans rfl rfl
@[simp] theorem isL_s (x : Str) : isL (.str x) = false := Eq.trans rfl rfl
@[simp] theorem isL_l (x : List D) : isL (.list x) = true := Eq.trans rfl rfl
@[simp] theorem isL_t (x : List D) : isL (.tuple x) = false := Eq.trans rfl rfl
@[simp] theorem isB_d (x : List (D × D)) : isB (.dict x) = false := Eq.trans rfl rfl
@[simp] theorem isI_d (x : List (D × D)) : isI (.dict x) = false := Eq.trans rfl rfl
@[simp] theorem isS_d (x : List (D × D)) : isS (.dict x) = false := Eq.trans rfl rfl
@[simp] theorem isT_d (x : List (D × D)) : isT (.dict x) = false := Eq.trans rfl rfl
@[simp] theorem isL_d (x : List (D × D)) : isL (.dict x) = false := Eq.trans rfl rfl
@[simp] theorem noD_b (b : Bool) : noD (.bool b) = true := by simp only [noD]
@[simp] theorem noD_n : noD .none = true := by simp only [noD]
@[simp] theorem noD_i (i : Int) : noD (.int i) = true := by simp only [noD]
@[simp] theorem noD_s (x : Str) : noD (.str x) = true := by simp only [noD]
@[simp] theorem noD_l (x : List D) : noD (.list x) = true := by simp only [noD]
@[simp] theorem noD_t (x : List D) : noD (.tuple x) = true := by simp only [noD]
@[simp] theorem noD_d (x : List (D × D)) : noD (.dict x) = false := by simp only [noD]
@[simp] theorem isin_b {v : D} (h : noD v = true) : isinD "bool" v = some (isB v) := by cases v <;> simp [isinD, tyD, ofString_inj] at h ⊢
@[simp] theorem isin_i {v : D} (h : noD v = true) : isinD "int" v = some (isI v) := by cases v <;> simp [isinD, tyD, ofString_inj] at h ⊢
@[simp] theorem isin_s {v : D} (h : noD v = true) : isinD "str" v = some (isS v) := by cases v <;> simp [isinD, tyD, ofString_inj] at h ⊢
@[simp] theorem isin_t {v : D} (h : noD v = true) : isinD "tuple" v = some (isT v) := by cases v <;> simp [isinD, tyD, ofString_inj] at h ⊢
@[simp] theorem isin_l {v : D} (h : noD v = true) : isinD "list" v = some (isL v) := by cases v <;> simp [isinD, tyD, ofString_inj] at h ⊢
/-! loops -/
section
variable {asg : D → Env → Option Env} {body : Env → MH → RS}
theorem forV_gen {P : List D → Env → MH → Prop} {Z : RS → Prop} (step : ∀ d ds e m, P (d :: ds) e m → ∃ e1, asg d e = some e1 ∧ (match body e1 m with | .nx e2 m2 => P ds e2 m2 | .ct e2 m2 => P ds e2 m2 | .bk e2 m2 => Z (.nx e2 m2) | r => Z r))
    (fin : ∀ e m, P [] e m → Z (.nx e m)) : ∀ (ds : List D) (e : Env) (m : MH), P ds e m → Z (forV asg body ds e m)
  | [], e, m, h => fin e m h
  | d :: ds, e, m, h => by
    obtain ⟨e1, h1, h2⟩ := step d ds e m h
    simp only [forV, h1]
    cases hb : body e1 m with
    | nx e2 m2 => rw [hb] at h2; exact forV_gen step fin ds e2 m2 h2
    | ct e2 m2 => rw [hb] at h2; exact forV_gen step fin ds e2 m2 h2
    | bk e2 m2 => rw [hb] at h2; exact h2
    | rt w m2 => rw [hb] at h2; exact h2
    | exc c fs e2 m2 => rw [hb] at h2; exact h2
    | bad => rw [hb] at h2; exact h2
theorem forV_cons {d : D} {ds : List D} {e e1 e2 : Env} {m m2 : MH} (h1 : asg d e = some e1) (h2 : body e1 m = .nx e2 m2) : forV asg body (d :: ds) e m = forV asg body ds e2 m2 := by simp only [forV, h1, h2]
theorem forV_nx {P : List D → Env → MH → Prop} (step : ∀ d ds e m, P (d :: ds) e m → ∃ e1 e2 m2, asg d e = some e1 ∧ body e1 m = .nx e2 m2 ∧ P ds e2 m2) (ds : List D) (e : Env) (m : MH) (h : P ds e m) : ∃ e' m', forV asg body ds e m = .nx e' m' ∧ P [] e' m' :=
  forV_gen (Z := fun r => ∃ e' m', r = .nx e' m' ∧ P [] e' m') (fun d ds e m h => by
    obtain ⟨e1, e2, m2, h1, h2, h3⟩ := step d ds e m h
    refine ⟨e1, h1, ?_⟩
    rw [h2]
    exact h3) (fun e m h => ⟨e, m, rfl, h⟩) ds e m h
variable {f : D → MH → R (Option D)}
theorem compV_pure {m : MH} {g : D → Option D} : ∀ (ds acc : List D), (∀ d ∈ ds, f d m = .ok (g d) m) → compV f ds acc m = .ok (acc ++ ds.filterMap g) m
  | [], acc, _ => by simp [compV]
  | d :: ds, acc, h => by
    simp only [compV, h d List.mem_cons_self, R.bind_ok]
    rw [compV_pure ds _ fun x hx => h x (List.mem_cons_of_mem _ hx)]
    cases hg : g d <;> simp [hg]
theorem compV_map {m : MH} {g : D → D} (ds acc : List D) (h : ∀ d ∈ ds, f d m = .ok (some (g d)) m) : compV f ds acc m = .ok (acc ++ ds.map g) m := by
  rw [compV_pure (g := fun d => some (g d)) ds acc h]
  simp
theorem compV_inv {P : MH → Prop} {Q : D → Prop} : ∀ (ds acc : List D) (m : MH), P m → (∀ d ∈ ds, ∀ m, P m → ∃ y m', f d m = .ok (some y) m' ∧ P m' ∧ Q y) → ∃ ys m', compV f ds acc m = .ok (acc ++ ys) m' ∧ P m' ∧ ys.length = ds.length ∧ ∀ y ∈ ys, Q y
  | [], acc, m, hp, _ => ⟨[], m, by simp [compV], hp, rfl, fun _ h => by cases h⟩
  | d :: ds, acc, m, hp, h => by
    obtain ⟨y, m1, e1, p1, q1⟩ := h d List.mem_cons_self m hp
    obtain ⟨ys, m2, e2, p2, hl, q2⟩ := compV_inv ds (acc ++ [y]) m1 p1 fun x hx => h x (List.mem_cons_of_mem _ hx)
    refine ⟨y :: ys, m2, ?_, p2, by simp [hl], fun z hz => ?_⟩
    · simp only [compV, e1, R.bind_ok, e2]
      simp
    · rcases List.mem_cons.mp hz with rfl | hz
      · exact q1
      · exact q2 z hz
/-- .. some of them, as many as like -/
theorem compV_some {P : MH → Prop} {Q : D → Prop} : ∀ (ds acc : List D) (m : MH), P m → (∀ d ∈ ds, ∀ m, P m → ∃ y m', f d m = .ok y m' ∧ P m' ∧ ∀ z, y = some z → Q z) → ∃ ys m', compV f ds acc m = .ok (acc ++ ys) m' ∧ P m' ∧ ys.length ≤ ds.length ∧ ∀ y ∈ ys, Q y
  | [], acc, m, hp, _ => ⟨[], m, by simp [compV], hp, Nat.le_refl _, fun _ h => by cases h⟩
  | d :: ds, acc, m, hp, h => by
    obtain ⟨y, m1, e1, p1, q1⟩ := h d List.mem_cons_self m hp
    cases y with
    | none =>
      obtain ⟨ys, m2, e2, p2, hl, q2⟩ := compV_some ds acc m1 p1 fun x hx => h x (List.mem_cons_of_mem _ hx)
      exact ⟨ys, m2, by simp only [compV, e1, R.bind_ok, e2], p2, by simp; omega, q2⟩
    | some y =>
      obtain ⟨ys, m2, e2, p2, hl, q2⟩ := compV_some ds (acc ++ [y]) m1 p1 fun x hx => h x (List.mem_cons_of_mem _ hx)
      refine ⟨y :: ys, m2, ?_, p2, by simp; omega, fun z hz => ?_⟩
      · simp only [compV, e1, R.bind_ok, e2]
        simp
      · rcases List.mem_cons.mp hz with rfl | hz
        · exact q1 _ rfl
        · exact q2 z hz
end
/-! ### data of a bounded shape: no dict, at most w items a list, at most n deep -/
def fit (w : Nat) : Nat → D → Bool
  | 0, d => match d with
    | .str x => PyData.strOk x && decide (x.length ≤ 1000)
    | .list _ => false
    | .tuple _ => false
    | .dict _ => false
    | _ => true
  | n + 1, d => match d with
    | .str x => PyData.strOk x && decide (x.length ≤ 1000)
    | .list ds => decide (ds.length ≤ w) && ds.all (fit w n)
    | .tuple ds => decide (ds.length ≤ w) && ds.all (fit w n)
    | .dict _ => false
    | _ => true
theorem fit_lay {w : Nat} : ∀ (n : Nat) (d : D), fit w n d = true → d.canLay0 = true ∧ d.depth ≤ n
  | 0, d, h => by cases d <;> simp [fit, PyData.canLay0, PyData.depth] at h ⊢; exact h.1
  | n + 1, d, h => by
    have all : ∀ ds : List D, ds.all (fit w n) = true → PyData.canLayAll0 ds = true ∧ PyData.depthAll ds ≤ n := by
      intro ds
      induction ds with
      | nil => intro _; exact ⟨rfl, Nat.zero_le _⟩
      | cons d ds ih =>
        intro h
        simp only [List.all_cons, Bool.and_eq_true] at h
        obtain ⟨h1, h2⟩ := fit_lay n d h.1
        obtain ⟨h3, h4⟩ := ih h.2
        exact ⟨by simp [PyData.canLayAll0, h1, h3], by simp only [PyData.depthAll]; omega⟩
    cases d <;> simp only [fit, Bool.and_eq_true, Bool.false_eq_true] at h
    · exact ⟨rfl, Nat.zero_le _⟩
    · exact ⟨rfl, Nat.zero_le _⟩
    · exact ⟨rfl, Nat.zero_le _⟩
    · exact ⟨h.1, Nat.zero_le _⟩
    · obtain ⟨a, b⟩ := all _ h.2
      exact ⟨a, by simp only [PyData.depth]; omega⟩
    · obtain ⟨a, b⟩ := all _ h.2
      exact ⟨a, by simp only [PyData.depth]; omega⟩
theorem fit_noD {w n : Nat} {d : D} (h : fit w n d = true) : noD d = true := by cases n <;> cases d <;> simp [fit, noD] at h ⊢
theorem fit_mono {w w' : Nat} (hw : w ≤ w') : ∀ {n n' : Nat} {d : D}, n ≤ n' → fit w n d = true → fit w' n' d = true
  | 0, 0, d, _, h => by cases d <;> simp [fit] at h ⊢; exact h
  | 0, n' + 1, d, _, h => by cases d <;> simp [fit] at h ⊢; exact h
  | n + 1, 0, d, hn, h => by omega
  | n + 1, n' + 1, d, hn, h => by
    have all : ∀ ds : List D, ds.all (fit w n) = true → ds.all (fit w' n') = true := fun ds h => by
      rw [List.all_eq_true] at h ⊢
      exact fun d hd => fit_mono hw (Nat.le_of_succ_le_succ hn) (h d hd)
    cases d <;> simp only [fit, Bool.and_eq_true, Bool.false_eq_true, decide_eq_true_eq] at h ⊢
    · exact h
    · exact ⟨Nat.le_trans h.1 hw, all _ h.2⟩
    · exact ⟨Nat.le_trans h.1 hw, all _ h.2⟩
theorem fit_t {w n : Nat} {ds : List D} (h : fit w (n + 1) (.tuple ds) = true) : ds.length ≤ w ∧ ∀ d ∈ ds, fit w n d = true := by
  simp only [fit, Bool.and_eq_true, decide_eq_true_eq, List.all_eq_true] at h
  exact h
theorem fit_l {w n : Nat} {ds : List D} (h : fit w (n + 1) (.list ds) = true) : ds.length ≤ w ∧ ∀ d ∈ ds, fit w n d = true := by
  simp only [fit, Bool.and_eq_true, decide_eq_true_eq, List.all_eq_true] at h
  exact h
theorem fit_mt {w n : Nat} {ds : List D} (h1 : ds.length ≤ w) (h2 : ∀ d ∈ ds, fit w n d = true) : fit w (n + 1) (.tuple ds) = true := by
  simp only [fit, Bool.and_eq_true, decide_eq_true_eq, List.all_eq_true]
  exact ⟨h1, h2⟩
theorem fit_ml {w n : Nat} {ds : List D} (h1 : ds.length ≤ w) (h2 : ∀ d ∈ ds, fit w n d = true) : fit w (n + 1) (.list ds) = true := by
  simp only [fit, Bool.and_eq_true, decide_eq_true_eq, List.all_eq_true]
  exact ⟨h1, h2⟩
theorem bools_map {g : D → Bool} : ∀ ds : List D, bools (ds.map fun d => .bool (g d)) = some (ds.map g)
  | [] => rfl
  | d :: ds => by simp [bools, bools_map ds]
theorem ints_map : ∀ ns : List Int, intsOf (ns.map PyData.int) = some ns
  | [] => rfl
  | d :: ds => by simp [intsOf, ints_map ds]
end Sim
set_option maxHeartbeats 4000000
namespace Sim
open PySem L2
/-! ### a drawn list of two numbers at place p -/
def put (p : Nat) (a b : Int) (m : MH) : MH := m.set p (.lst [.int a, .int b])
def Has (p : Nat) (m : MH) : Prop := ∃ a b : Int, m[p]? = some (.lst [.int a, .int b])
section
variable {p : Nat} {a b c d : Int} {m : MH} {x y : MO} {xs : List MO}
theorem Has.lt (h : Has p m) : p < m.length := by obtain ⟨a, b, e⟩ := h; exact (List.getElem?_eq_some_iff.mp e).1
@[simp] theorem put_put : put p a b (put p c d m) = put p a b m := by simp [put]
@[simp] theorem put_len : (put p a b m).length = m.length := by simp [put]
theorem put_has (h : p < m.length) : Has p (put p a b m) := ⟨a, b, by simp [put, List.getElem?_set_self h]⟩
theorem put_app (h : p < m.length) : put p a b (m ++ xs) = put p a b m ++ xs := by simp [put, List.set_append_left _ _ h]
theorem put_self (h : Has p m) : ∃ a b, put p a b m = m := by
  obtain ⟨a, b, e⟩ := h
  refine ⟨a, b, ?_⟩
  apply List.ext_getElem?
  intro i
  by_cases hi : i = p
  · subst hi
    rw [put, List.getElem?_set_self (Has.lt ⟨a, b, e⟩), e]
  · rw [put, List.getElem?_set_ne (Ne.symm hi)]
theorem Has.app (h : Has p m) : Has p (m ++ xs) := by
  obtain ⟨a, b, e⟩ := h
  exact ⟨a, b, by rw [List.getElem?_append_left (Has.lt ⟨a, b, e⟩)]; exact e⟩
@[simp] theorem put_take : (put p a b m).take m.length = put p a b m := by
  conv => lhs; rw [← put_len (p := p) (a := a) (b := b) (m := m)]
  rw [List.take_length]
@[simp] theorem put_app_take : (put p a b m ++ xs).take m.length = put p a b m := by
  have : m.length = (put p a b m).length := put_len.symm
  rw [this, List.take_left]
@[simp] theorem put_top : (put p a b m ++ x :: xs)[m.length]? = some x := by
  rw [List.getElem?_append_right (by simp)]
  simp
@[simp] theorem app_top : (m ++ x :: xs)[m.length]? = some x := by
  rw [List.getElem?_append_right (by simp)]
  simp
@[simp] theorem put_top_set : (put p a b m ++ x :: xs).set m.length y = put p a b m ++ y :: xs := by
  rw [List.set_append_right _ _ (by simp)]
  simp
@[simp] theorem app_top_set : (m ++ x :: xs).set m.length y = m ++ y :: xs := by
  rw [List.set_append_right _ _ (by simp)]
  simp
@[simp] theorem rd_top {ds : List D} : rd (put p a b m ++ .lst ds :: xs) (.r m.length) = some (.list ds) := by simp only [rd, put_top]
@[simp] theorem rd_top' {ds : List D} : rd (m ++ .lst ds :: xs) (.r m.length) = some (.list ds) := by simp only [rd, app_top]
@[simp] theorem len_top {ds : List D} : bLen [.r m.length] (put p a b m ++ .lst ds :: xs) = .ok (.d (.int ds.length)) (put p a b m ++ .lst ds :: xs) := by simp only [bLen, rd_top]
@[simp] theorem tuple_top {ds : List D} : bTuple [.r m.length] (put p a b m ++ .lst ds :: xs) = .ok (.d (.tuple ds)) (put p a b m ++ .lst ds :: xs) := by simp only [bTuple, rdS, rd_top]
@[simp] theorem slc_top {ds : List D} {mu : Bool} {lo hi : Option Int} : slcW mu (.r m.length) lo hi (put p a b m ++ .lst ds :: xs) = newL mu (cutL ds lo hi) (put p a b m ++ .lst ds :: xs) := by simp only [slcW, rd_top]
@[simp] theorem idx_top {ds : List D} {i : Int} : idxW (.r m.length) (.d (.int i)) (put p a b m ++ .lst ds :: xs) = match atI ds i with | some d => .ok (.d d) (put p a b m ++ .lst ds :: xs) | none => .bad := by
  simp only [idxW, rd_top, rd_d, idxD] <;> cases atI ds i <;> rfl
@[simp] theorem cmp_top {ds : List D} {o : COp} {y : D} : cmpW o (.r m.length) (.d y) (put p a b m ++ .lst ds :: xs) = cmpW o (.d (.list ds)) (.d y) (put p a b m ++ .lst ds :: xs) := by simp only [cmpW, rd_top, rd_d]
@[simp] theorem sub_top {ds : List D} {i : Int} {v : D} : subW (.r m.length) (.d (.int i)) (.d v) (put p a b m ++ .lst ds :: xs) = match ixN ds.length i with | some j => .ok () (put p a b m ++ .lst (ds.set j v) :: xs) | none => .bad := by
  simp only [subW, put_top, put_top_set] <;> cases ixN ds.length i <;> rfl
@[simp] theorem app_top_ {ds : List D} {v : D} : mAppend (.r m.length) [.d v] (put p a b m ++ .lst ds :: xs) = if ds.length < sizeLine then .ok (.d .none) (put p a b m ++ .lst (ds ++ [v]) :: xs) else .bad := by
  simp only [mAppend, put_top, put_top_set]
@[simp] theorem pre_top {ds : List D} : preMeth "append" (.r m.length) (put p a b m ++ .lst ds :: xs) = true := by
  simp only [preMeth, put_top, if_true]
@[simp] theorem add_top {ds es : List D} {mu : Bool} : binW mu .add (.r m.length) (.d (.list es)) (put p a b m ++ .lst ds :: xs) = if ds.length + es.length ≤ sizeLine then newL mu (ds ++ es) (put p a b m ++ .lst ds :: xs) else .bad := by
  simp only [binW, rd_top, rd_d, binD]
theorem put_app_has (h : p < m.length) : Has p (put p a b m ++ xs) := (put_has h).app
/-- a value is drawn: the list at p alone is changed -/
def Draw (p : Nat) (m : MH) (r : R W) (Q : D → Prop) : Prop := ∃ a b d, r = .ok (.d d) (put p a b m) ∧ Q d
theorem Draw.imp {r : R W} {Q Q' : D → Prop} (h : Draw p m r Q) (i : ∀ d, Q d → Q' d) : Draw p m r Q' := by
  obtain ⟨a, b, d, e, q⟩ := h
  exact ⟨a, b, d, e, i d q⟩
/-- on a heap that has drawn before, and bears more -/
theorem Draw.on {r : R W} {Q : D → Prop} (hp : p < m.length) (h : Draw p (put p a b m ++ xs) r Q) : ∃ a' b' d, r = .ok (.d d) (put p a' b' m ++ xs) ∧ Q d := by
  obtain ⟨a', b', d, e, q⟩ := h
  refine ⟨a', b', d, ?_, q⟩
  rw [e, put_app (by simpa using hp), put_put]
theorem Draw.on0 {r : R W} {Q : D → Prop} (h : Draw p (put p a b m) r Q) : ∃ a' b' d, r = .ok (.d d) (put p a' b' m) ∧ Q d := by
  obtain ⟨a', b', d, e, q⟩ := h
  exact ⟨a', b', d, by rw [e, put_put], q⟩
/-- a comprehension that draws -/
theorem comp_draw {f : D → MH → R (Option D)} {Q : D → Prop} {ds : List D} (hp : p < m.length) (h : ∀ d ∈ ds, ∀ a b, ∃ a' b' y, f d (put p a b m) = .ok (some y) (put p a' b' m) ∧ Q y) (a b : Int) :
    ∃ a' b' ys, compV f ds [] (put p a b m) = .ok ys (put p a' b' m) ∧ ys.length = ds.length ∧ ∀ y ∈ ys, Q y := by
  obtain ⟨ys, m', e, ⟨a', b', rfl⟩, hl, q⟩ := compV_inv (f := f) (P := fun m' => ∃ a b, m' = put p a b m) (Q := Q) ds [] _ ⟨a, b, rfl⟩ fun d hd m' ⟨a, b, e⟩ => by
    subst e
    obtain ⟨a', b', y, e, q⟩ := h d hd a b
    exact ⟨y, _, e, ⟨a', b', rfl⟩, q⟩
  exact ⟨a', b', ys, by simpa using e, hl, q⟩
theorem comp_draw_some {f : D → MH → R (Option D)} {Q : D → Prop} {ds : List D} (h : ∀ d ∈ ds, ∀ a b, ∃ a' b' y, f d (put p a b m) = .ok y (put p a' b' m) ∧ ∀ z, y = some z → Q z) (a b : Int) :
    ∃ a' b' ys, compV f ds [] (put p a b m) = .ok ys (put p a' b' m) ∧ ys.length ≤ ds.length ∧ ∀ y ∈ ys, Q y := by
  obtain ⟨ys, m', e, ⟨a', b', rfl⟩, hl, q⟩ := compV_some (f := f) (P := fun m' => ∃ a b, m' = put p a b m) (Q := Q) ds [] _ ⟨a, b, rfl⟩ fun d hd m' ⟨a, b, e⟩ => by
    subst e
    obtain ⟨a', b', y, e, q⟩ := h d hd a b
    exact ⟨y, _, e, ⟨a', b', rfl⟩, q⟩
  exact ⟨a', b', ys, by simpa using e, hl, q⟩
end
@[simp] theorem bin_fdiv_i {mu : Bool} {i j : Int} {m : MH} : binW mu .fdiv (.d (.int i)) (.d (.int j)) m = if decide (0 < j) && decide (j < 1073741824) then .ok (.d (.int (i / j))) m else .bad := Eq.trans rfl rfl
theorem bin_pow_i {mu : Bool} {i j : Int} {m : MH} : binW mu .pow (.d (.int i)) (.d (.int j)) m = if decide (0 ≤ j) && decide (j ≤ 1000) && decide (i.natAbs < 1000) then .ok (.d (.int (i ^ j.toNat))) m else .bad := rfl
theorem okr {i j : Int} (h0 : 0 ≤ j) (h1 : j < 18446744073709551616) : okMul i j = true := by
  simp only [okMul, Bool.or_eq_true, Bool.and_eq_true, decide_eq_true_eq]
  exact .inr ⟨by omega, by omega⟩
theorem okl {i j : Int} (h0 : 0 ≤ i) (h1 : i < 18446744073709551616) : okMul i j = true := by
  simp only [okMul, Bool.or_eq_true, Bool.and_eq_true, decide_eq_true_eq]
  exact .inl ⟨by omega, by omega⟩
theorem okmod {i x n : Int} (h0 : 0 < n) (h1 : n ≤ 18446744073709551616) : okMul i (x % n) = true :=
  okr (Int.emod_nonneg _ (by omega)) (Int.lt_of_lt_of_le (Int.emod_lt_of_pos _ h0) h1)
section
variable {p : Nat} {a b v : Int} {m : MH}
theorem put_get (h : p < m.length) : (put p a b m)[p]? = some (.lst [.int a, .int b]) := by simp [put, List.getElem?_set_self h]
theorem put_i0 (h : p < m.length) : idxW (.r p) (.d (.int 0)) (put p a b m) = .ok (.d (.int a)) (put p a b m) := by simp [idxW, rd, put_get h, idxD, atI, ixN]
theorem put_i1 (h : p < m.length) : idxW (.r p) (.d (.int 1)) (put p a b m) = .ok (.d (.int b)) (put p a b m) := by simp [idxW, rd, put_get h, idxD, atI, ixN]
theorem put_s0 (h : p < m.length) : subW (.r p) (.d (.int 0)) (.d (.int v)) (put p a b m) = .ok () (put p v b m) := by
  simp [subW, put_get h, ixN]
  simp [put]
theorem put_s1 (h : p < m.length) : subW (.r p) (.d (.int 1)) (.d (.int v)) (put p a b m) = .ok () (put p a v m) := by
  simp [subW, put_get h, ixN]
  simp [put]
def big18 : Int := 1000000000000000000
theorem bin_pow18 {mu : Bool} : binW mu .pow (.d (.int 10)) (.d (.int 18)) m = .ok (.d (.int big18)) m := by
  rw [bin_pow_i, if_pos (by decide)]
  rfl
end
theorem atI_in {ds : List D} {i : Int} (h0 : 0 ≤ i) (h1 : i < ds.length) : ∃ d, atI ds i = some d ∧ d ∈ ds := by
  have hi : i.toNat < ds.length := by omega
  refine ⟨ds[i.toNat], ?_, List.getElem_mem _⟩
  unfold atI ixN
  rw [if_pos h0, if_pos h1]
  simp [hi]
end Sim
set_option maxHeartbeats 4000000
namespace Sim
open PySem PySem.Spec PyProof.Rows L2
/-! ### what stands behind the top -/
structure RowD (K : PySem.W.Frag) (f : Str) (st : Stmt) : Prop where
  ex : ∃ (a : Addr) (oc : Value) (od : Option Addr) (osl : Array (Option Value)) (kV doc pm : Value) (an : Option Addr) (cd ct : Value), PySem.W.nsIn K mainGlobals f = some (some (.ref a)) ∧
    K.lookup a = some ⟨oc, od, .func (PySem.W.fnOf f f (defArgs st) (defBody st) (defScope st) .none kV doc pm an cd ct), osl⟩ ∧ PySem.W.codeIn K cd f = true ∧ PySem.W.keepIn K (.ref a) = true
theorem row_mk {K : PySem.W.Frag} {f : Str} {st : Stmt} {a : Addr} {oc : Value} {od : Option Addr} {osl : Array (Option Value)} {kV doc pm : Value} {an : Option Addr} {cd ct : Value} (h1 : PySem.W.nsIn K mainGlobals f = some (some (.ref a)))
    (h2 : K.lookup a = some ⟨oc, od, .func (PySem.W.fnOf f f (defArgs st) (defBody st) (defScope st) .none kV doc pm an cd ct), osl⟩) (h3 : PySem.W.codeIn K cd f = true) (h4 : PySem.W.keepIn K (.ref a) = true) : RowD K f st := ⟨⟨a, oc, od, osl, kV, doc, pm, an, cd, ct, h1, h2, h3, h4⟩⟩
def scOk (N P : List Str) (sc : Scope) : Bool :=
  (match sc.kind with | .function => true | _ => false) && !sc.isCoroutine && !sc.isGenerator && decide N.Nodup && decide (N.take P.length = P) && P.all (fun x => decide (sc.names.lookup x = some .local) || decide (sc.names.lookup x = some .cell)) && sc.names.all (fun y => !decide (y.2 = .free))
theorem scOk_ok {N P : List Str} {sc : Scope} (h : scOk N P sc = true) : FnScope N P sc := by
  unfold scOk at h
  simp only [Bool.and_eq_true, Bool.not_eq_true', decide_eq_true_eq, List.all_eq_true, Bool.or_eq_true, decide_eq_false_iff_not] at h
  obtain ⟨⟨⟨⟨⟨⟨h1, h2⟩, h3⟩, h4⟩, h5⟩, h6⟩, h7⟩ := h
  refine ⟨?_, h2, h3, h4, h5, h6, h7⟩
  cases e : sc.kind <;> rw [e] at h1 <;> first | rfl | cases h1
section
variable {C : Cxt} {mg : Str → Option Value} {F : List Fn} {G : Str → Option D} {XX : Str → Str → Bool} {TF : List (Str × Nat)} {TB TG TE : List Str} {h : Heap}
/-- how a def's arguments bind -/
def BindsAll (f : Str) (st : Stmt) (ps : List Str) : Prop := ∀ (kV doc pm : Value) (an : Option Addr) (cdv ct : Value) (us : List Value), us.length = ps.length → bindArgs (PySem.W.fnOf f f (defArgs st) (defBody st) (defScope st) .none kV doc pm an cdv ct) ⟨us, []⟩ = pure (ps.zip us)
theorem def_mk (X : C.K.In h) (N : h.Ns mainGlobals mg) {f : Str} {st : Stmt} (row : RowD C.K f st) {fn : Fn} {mutn : List Str} {retm : Bool} {fuel n : Nat} {ps : List Str} (hb : BindsAll f st ps) (hs : scOk fn.N ps (defScope st) = true)
    (hfind : F.find? (fun g => decide (g.name = f)) = some fn) (hnp : fn.np = n) (hps : ps.length = n) (hc : cSs fuel ⟨fn.N, defScope st, TF, TB, TG, TE, mutn, retm, true⟩ (defBody st) = some fn.body) :
    ∃ a fd ps, DefOk C mg F TF TB TG TE f n a fd ps := by
  obtain ⟨a, oc, od, osl, kV, doc, pm, an, cd, ct, h1, h2, h3, h4⟩ := row.ex
  have FF := fun_mk (st := st) h2 h3 h4
  exact ⟨a, _, ps, PySem.W.mg_of X N h1, FF.binds hb, hps, st, fn, mutn, retm, fuel, FF, scOk_ok hs, hfind, hnp, hc⟩
theorem law_F (T : Txt C mg F G XX TF TB TG TE) (X : C.K.In h) (N : h.Ns mainGlobals mg) {st : Stmt} (row : RowD C.K "law" st) {fn : Fn} {mutn : List Str} {retm : Bool} {fuel k : Nat} {x : Str} {P : Program} {fa : Addr} (hb : BindsAll "law" st [x]) (hs : scOk fn.N [x] (defScope st) = true)
    (hfind : F.find? (fun g => decide (g.name = ("law" : Str))) = some fn) (hnp : fn.np = 1) (hc : cSs fuel ⟨fn.N, defScope st, TF, TB, TG, TE, mutn, retm, true⟩ (defBody st) = some fn.body) (hfa : mg "law" = some (.ref fa)) :
    ∃ fd : FuncData, (∀ (s : Shared) (u : Value), BindsTo s fd ⟨[u], []⟩ [(x, u)]) ∧ ∀ base : Heap, C.K.In base → base.Ns mainGlobals mg → FnOk P C.w C.K mg base (L2.CX P C.w) k fa fd [x] (spOf { C with hid := [] } F G XX k "law" 1) := by
  obtain ⟨a, oc, od, osl, kV, doc, pm, an, cd, ct, h1, h2, h3, h4⟩ := row.ex
  have FF := fun_mk (st := st) h2 h3 h4
  have e := hfa.symm.trans (PySem.W.mg_of X N h1)
  cases e
  exact ⟨_, fun s u => .of_eq (hb kV doc pm an cd ct [u] rfl), fun base _ _ => fn_ok T k "law" 1 fa _ [x] ⟨PySem.W.mg_of X N h1, FF.binds hb, rfl, st, fn, mutn, retm, fuel, FF, scOk_ok hs, hfind, hnp, hc⟩ []⟩
theorem defs_nil : ∀ p ∈ ([] : List (Str × Nat)), ∃ a fd ps, DefOk C mg F TF TB TG TE p.1 p.2 a fd ps := fun _ h => nomatch h
theorem defs_cons {f : Str} {n : Nat} {l : List (Str × Nat)} (h1 : ∃ a fd ps, DefOk C mg F TF TB TG TE f n a fd ps) (h2 : ∀ p ∈ l, ∃ a fd ps, DefOk C mg F TF TB TG TE p.1 p.2 a fd ps) : ∀ p ∈ (f, n) :: l, ∃ a fd ps, DefOk C mg F TF TB TG TE p.1 p.2 a fd ps := fun p h => by
  rcases List.mem_cons.mp h with rfl | h
  · exact h1
  · exact h2 p h
theorem defs_of (h : ∀ p ∈ TF, ∃ a fd ps, DefOk C mg F TF TB TG TE p.1 p.2 a fd ps) : ∀ f n, TF.lookup f = some n → ∃ a fd ps, DefOk C mg F TF TB TG TE f n a fd ps := fun f n e => h (f, n) (PySem.mem_of_lookup e)
end
/-- an error class of the module's -/
structure RowE (K : PySem.W.Frag) (c : Str) : Prop where
  ex : ∃ a : Addr, PySem.W.nsIn K mainGlobals c = some (some (.ref a)) ∧ PySem.W.keepIn K (.ref a) = true ∧ PySem.W.excIn K a HandSPX.veTail "ValueError.__new__" = true ∧ PySem.W.subIn K (.ref a) (.type "BaseException") = some true ∧ PySem.W.typeIn K (.ref a) = some (.type "type")
theorem err_mk {K : PySem.W.Frag} {c : Str} {a : Addr} (h1 : PySem.W.nsIn K mainGlobals c = some (some (.ref a))) (h2 : PySem.W.keepIn K (.ref a) = true) (h3 : PySem.W.excIn K a [.type "ValueError", .type "Exception", .type "BaseException", .type "object"] "ValueError.__new__" = true) (h4 : PySem.W.subIn K (.ref a) (.type "BaseException") = some true) (h5 : PySem.W.typeIn K (.ref a) = some (.type "type")) : RowE K c := ⟨a, h1, h2, h3, h4, h5⟩
/-- how two error classes stand -/
def RowX (K : PySem.W.Frag) (c k : Str) (b : Bool) : Prop := ∃ a a' : Addr, PySem.W.nsIn K mainGlobals c = some (some (.ref a)) ∧ PySem.W.nsIn K mainGlobals k = some (some (.ref a')) ∧ PySem.W.exmOne K (.ref a) (.ref a') = some b
theorem exm_mk {K : PySem.W.Frag} {c k : Str} {b : Bool} {a a' : Addr} (h1 : PySem.W.nsIn K mainGlobals c = some (some (.ref a))) (h2 : PySem.W.nsIn K mainGlobals k = some (some (.ref a'))) (h3 : PySem.W.exmOne K (.ref a) (.ref a') = some b) : RowX K c k b := ⟨a, a', h1, h2, h3⟩
/-- a constant of the module's: a tuple -/
structure RowG (K : PySem.W.Frag) (x : Str) (ds : List D) : Prop where
  ex : ∃ (a : Addr) (its : Array Value) (n : Nat) (osl : Array (Option Value)), PySem.W.nsIn K mainGlobals x = some (some (.ref a)) ∧ K.lookup a = some ⟨.type "tuple", none, .seq its n, osl⟩ ∧ its.size ≤ sizeLine ∧ ∃ xs, Vals xs its.toList ∧ ∀ (C : Cxt) ρ H, DRs C ρ H xs ds
theorem tup_mk {K : PySem.W.Frag} {x : Str} {ds : List D} {a : Addr} {its : Array Value} {n : Nat} {osl : Array (Option Value)} (h1 : PySem.W.nsIn K mainGlobals x = some (some (.ref a))) (h2 : K.lookup a = some ⟨.type "tuple", none, .seq its n, osl⟩) (h6 : its.size ≤ sizeLine) (h3 : ∃ xs, Vals xs its.toList ∧ ∀ (C : Cxt) ρ H, DRs C ρ H xs ds) : RowG K x ds := ⟨a, its, n, osl, h1, h2, h6, h3⟩
/-- the error classes by their names -/
def clsOf (K : PySem.W.Frag) (TE : List Str) (c : Str) : Option Addr := if TE.contains c then (match PySem.W.nsIn K mainGlobals c with
  | some (some (.ref a)) => some a
  | _ => none) else none
theorem clsOf_row {K : PySem.W.Frag} {TE : List Str} {c : Str} {a : Addr} (h : TE.contains c = true) (e : PySem.W.nsIn K mainGlobals c = some (some (.ref a))) : clsOf K TE c = some a := by
  unfold clsOf
  rw [if_pos h, e]
/-- what is fixed, of the written part -/
def cxt (K : Params → PySem.W.Frag) (TE : List Str) (w : World) : Cxt := ⟨K w.params, w, clsOf (K w.params) TE, []⟩
/-- a constant that the module names -/
def GlobOk (K : PySem.W.Frag) (x : Str) (d : D) : Prop := match d with
  | .int i => ∃ t, PySem.W.nsIn K mainGlobals x = some (some (.int i t))
  | .tuple ds => RowG K x ds
  | _ => False
/-- strings as they are written -/
theorem strs_ok {C : Cxt} {ρ : List Addr} {H : Hp} : ∀ (xs : List Str), (xs.all fun x => decide (x.length ≤ 1000)) = true → DRs C ρ H (xs.map V.str) (xs.map PyData.str)
  | [], _ => .nil
  | x :: xs, h => by
    simp only [List.all_cons, Bool.and_eq_true, decide_eq_true_eq] at h
    exact .cons (.str x (Nat.le_trans h.1 (by rw [sizeLine_eq]; omega))) (strs_ok xs h.2)
theorem txt_mk {K : Params → PySem.W.Frag} {w : World} {mg : Str → Option Value} {h : Heap} {F : List Fn} {G : Str → Option D} {XX : Str → Str → Bool} {TF : List (Str × Nat)} {TB TG TE : List Str} (X : (cxt K TE w).K.In h) (N : h.Ns mainGlobals mg)
    (defs : ∀ p ∈ TF, ∃ a fd ps, DefOk (cxt K TE w) mg F TF TB TG TE p.1 p.2 a fd ps) (blts : ∀ x ∈ TB, PySem.W.nsIn (K w.params) mainGlobals x = some none)
    (globs : ∀ x ∈ TG, ∃ d, G x = some d ∧ GlobOk (K w.params) x d) (errs : ∀ c ∈ TE, RowE (K w.params) c) (exm : ∀ c ∈ TE, ∀ k ∈ TE, RowX (K w.params) c k (XX c k)) (exk : ∀ c k, XX c k = true → c ∈ TE) :
    Txt (cxt K TE w) mg F G XX TF TB TG TE where
  defs := defs_of defs
  blts := fun x hx => PySem.W.mg_none_of X N (blts x (by simpa using hx))
  globs := fun x hx => by
    obtain ⟨d, e, g⟩ := globs x (by simpa using hx)
    cases d <;> simp only [GlobOk] at g
    · rename_i i
      obtain ⟨t, g⟩ := g
      exact ⟨.int i, .int i t, _, e, PySem.W.mg_of X N g, ⟨t, rfl⟩, fun _ _ _ => .int i⟩
    · rename_i ds
      obtain ⟨a, its, n, osl, h1, h2, h6, xs, h3, h4⟩ := g.ex
      have hz : its.size ≤ sizeLine := h6
      exact ⟨.ref a, .ref a, _, e, PySem.W.mg_of X N h1, rfl, fun hh ρ H => .tup (xs := xs) (.inr ⟨_, its, n, h2, rfl, rfl, rfl, hz, h3⟩) (by rw [h3.length]; exact hz) (h4 _ _ _)⟩
  errs := fun c hc => by
    obtain ⟨a, h1, h2, h3, h4, h5⟩ := (errs c (by simpa using hc)).ex
    exact ⟨a, clsOf_row hc h1, PySem.W.mg_of X N h1, h2, h3, h4, h5⟩
  exm := fun c k a a' hc hk => by
    have m : ∀ {c : Str} {a : Addr}, clsOf (K w.params) TE c = some a → c ∈ TE ∧ PySem.W.nsIn (K w.params) mainGlobals c = some (some (.ref a)) := fun {c a} e => by
      unfold clsOf at e
      split at e
      · rename_i ht
        refine ⟨by simpa using ht, ?_⟩
        split at e
        · rename_i b hb
          cases e
          exact hb
        · cases e
      · cases e
    obtain ⟨c1, c2⟩ := m hc
    obtain ⟨k1, k2⟩ := m hk
    obtain ⟨b, b', e1, e2, e3⟩ := exm c c1 k k1
    rw [c2] at e1; rw [k2] at e2
    cases e1; cases e2
    exact e3
  exk := fun c k h => by
    have hc := exk c k h
    obtain ⟨a, h1, _⟩ := (errs c hc).ex
    exact ⟨a, clsOf_row (by simpa using hc) h1⟩
theorem law_walk {l : PySem.W.OpenLaw} {q : Program} {loose : List Str} {XP : (Str → Option Value) → Heap → Prop} {YP : World → Heap → Prop} {d : DefRec} {K : Params → PySem.W.Frag} {TE : List Str} {F : List Fn} {G : Str → Option D} {XX : Str → Str → Bool} {k : Nat} {x : Str}
    (hn : l.most = some 63) (hdf : d.params.defaults = []) (hr : Room k callerA) (hY : ∀ (w : World) (h : Heap), YP w h → (K w.params).In h) (hrun : ∀ ns : List Int, ns.length ≤ 63 → ∃ m', run F G XX k "law" [.s ns] [] = .ok (.d (.bool true)) m')
    (hF : ∀ (w : World) (mg : Str → Option Value) (fa : Addr) (h : Heap), (cxt K TE w).K.In h → h.Ns mainGlobals mg → mg d.name = some (.ref fa) →
      ∃ fd : FuncData, (∀ (s : Shared) (u : Value), BindsTo s fd ⟨[u], []⟩ [(x, u)]) ∧ ∀ base : Heap, (cxt K TE w).K.In base → base.Ns mainGlobals mg → FnOk l.prog (cxt K TE w).w (cxt K TE w).K mg base (L2.CX l.prog (cxt K TE w).w) k fa fd [x] (spOf { cxt K TE w with hid := [] } F G XX k "law" 1)) :
    PySem.W.WalkO q loose XP YP l.row.toRowW d [] (fun f vs => PySem.call f vs) :=
  L2.walk_of (n := 63) (k := k) (x := x) (CX := fun w => L2.CX l.prog w) (sp := fun w => spOf { cxt K TE w with hid := [] } F G XX k "law" 1) hn (by decide) hdf hr hY hF
    (fun w H a ns hl _ hS => law_sp (n := 0) (C := cxt K TE w) rfl hS (hrun ns hl)) (fun _ _ _ _ _ z => by
      obtain ⟨_, _, _, _, _, _, _, _, _, _, _, _, z⟩ := z
      exact z)
end Sim
set_option maxHeartbeats 4000000
namespace Sim
open PySem PySem.Spec PyProof.Rows L2
/-! ### for the head -/
theorem al_nil {α : Type} {P : α → Prop} : ∀ x ∈ ([] : List α), P x := fun _ h => nomatch h
theorem al_cons {α : Type} {P : α → Prop} {a : α} {l : List α} (h : P a) (t : ∀ x ∈ l, P x) : ∀ x ∈ a :: l, P x := fun x hx => by
  rcases List.mem_cons.mp hx with rfl | hx
  · exact h
  · exact t x hx
theorem glob_mk {K : PySem.W.Frag} {G : Str → Option D} {x : Str} {d : D} (e : G x = some d) (h : GlobOk K x d) : ∃ d, G x = some d ∧ GlobOk K x d := ⟨d, e, h⟩
theorem int_mk {K : PySem.W.Frag} {x : Str} {i : Int} {t : Tok} (h : PySem.W.nsIn K mainGlobals x = some (some (.int i t))) : GlobOk K x (.int i) := ⟨t, h⟩
theorem exk_of {XL : List (Str × Str)} {TE : List Str} (h : (XL.all fun p => TE.contains p.1) = true) : ∀ c k, (XL.any fun p => decide (p.1 = c) && decide (p.2 = k)) = true → c ∈ TE := fun c k e => by
  obtain ⟨p, hp, e⟩ := List.any_eq_true.mp e
  simp only [Bool.and_eq_true, decide_eq_true_eq] at e
  have := List.all_eq_true.mp h p hp
  rw [e.1] at this
  simpa using this
theorem exm_eq {K : PySem.W.Frag} {c k : Str} {b b' : Bool} (r : RowX K c k b) (h : b' = b) : RowX K c k b' := h ▸ r
theorem strs_row {K : PySem.W.Frag} {x : Str} (xs : List Str) {a : Addr} {its : Array Value} {n : Nat} {osl : Array (Option Value)} (h1 : PySem.W.nsIn K mainGlobals x = some (some (.ref a))) (h2 : K.lookup a = some ⟨.type "tuple", none, .seq its n, osl⟩) (h3 : Vals (xs.map V.str) its.toList)
    (h4 : its.size ≤ 1000) (h5 : (xs.all fun x => decide (x.length ≤ 1000)) = true) : RowG K x (xs.map PyData.str) :=
  tup_mk h1 h2 (Nat.le_trans h4 (by rw [sizeLine_eq]; omega)) ⟨_, h3, fun C ρ H => strs_ok xs h5⟩
end Sim
set_option maxHeartbeats 4000000
namespace Sim
open PySem L2
/-! ### equality of data -/
mutual
def norm : D → D
  | .bool b => .int (if b then 1 else 0)
  | .list ds => .list (norms ds)
  | .tuple ds => .tuple (norms ds)
  | .none => .none
  | .int i => .int i
  | .str x => .str x
  | .dict kvs => .dict kvs
def norms : List D → List D
  | [] => []
  | d :: ds => norm d :: norms ds
end
theorem norms_map (ds : List D) : norms ds = ds.map norm := by
  induction ds with
  | nil => simp [norms]
  | cons d ds ih => simp [norms, ih]
mutual
theorem eqv_norm : ∀ d e : D, d.canLay0 = true → e.canLay0 = true → (PyData.eqv d e = true ↔ norm d = norm e)
  | .none, e, h, g => by cases e <;> simp [PyData.eqv, norm]
  | .bool b, e, h, g => by cases e <;> simp [PyData.eqv, norm] <;> (rename_i c; try cases b <;> cases c <;> simp)
  | .int i, e, h, g => by cases e <;> simp [PyData.eqv, norm]
  | .str x, e, h, g => by cases e <;> simp [PyData.eqv, norm]
  | .list ds, e, h, g => by
    cases e <;> simp only [PyData.eqv, norm, reduceCtorEq, Bool.false_eq_true]
    rename_i es
    rw [eqv_norms ds es (by simpa [PyData.canLay0] using h) (by simpa [PyData.canLay0] using g), PyData.list.injEq]
  | .tuple ds, e, h, g => by
    cases e <;> simp only [PyData.eqv, norm, reduceCtorEq, Bool.false_eq_true]
    rename_i es
    rw [eqv_norms ds es (by simpa [PyData.canLay0] using h) (by simpa [PyData.canLay0] using g), PyData.tuple.injEq]
  | .dict kvs, e, h, g => by simp [PyData.canLay0] at h
theorem eqv_norms : ∀ ds es : List D, PyData.canLayAll0 ds = true → PyData.canLayAll0 es = true → (PyData.eqvAll ds es = true ↔ norms ds = norms es)
  | [], [], _, _ => by simp [PyData.eqvAll]
  | [], _ :: _, _, _ => by simp [PyData.eqvAll, norms]
  | _ :: _, [], _, _ => by simp [PyData.eqvAll, norms]
  | d :: ds, e :: es, h, g => by
    simp only [PyData.canLayAll0, Bool.and_eq_true] at h g
    simp only [PyData.eqvAll, Bool.and_eq_true, norms, List.cons.injEq, eqv_norm d e h.1 g.1, eqv_norms ds es h.2 g.2]
end
theorem eqv_self {d : D} (h : d.canLay0 = true) : PyData.eqv d d = true := (eqv_norm d d h h).mpr rfl
theorem eqD_eqv {d e : D} (h : d.canLay0 = true) (g : e.canLay0 = true) (hd : min d.depth e.depth ≤ 64) : eqD d e = some (PyData.eqv d e) := by
  unfold eqD
  split
  · simp only [PyData.eqv, Option.some.injEq]
    exact Bool.eq_iff_iff.mpr (by simp)
  · simp only [PyData.eqv, Option.some.injEq]
    exact Bool.eq_iff_iff.mpr (by simp)
  · simp only [PyData.eqv, Option.some.injEq]
    exact Bool.eq_iff_iff.mpr (by simp)
  · rw [if_pos (by simp [h, g]; omega)]
/-- two pieces of data that are compared -/
structure Lay (n : Nat) (d : D) : Prop where
  lay : d.canLay0 = true
  dep : d.depth ≤ n
theorem Lay.mono {n k : Nat} {d : D} (h : Lay n d) (hk : n ≤ k) : Lay k d := ⟨h.lay, Nat.le_trans h.dep hk⟩
theorem Lay.fit {w n : Nat} {d : D} (h : fit w n d = true) : Lay n d := ⟨(fit_lay n d h).1, (fit_lay n d h).2⟩
theorem lays {n : Nat} {ds : List D} (h : ∀ d ∈ ds, Lay n d) : PyData.canLayAll0 ds = true ∧ PyData.depthAll ds ≤ n := by
  induction ds with
  | nil => exact ⟨rfl, Nat.zero_le _⟩
  | cons d ds ih =>
    obtain ⟨a, b⟩ := ih fun x hx => h x (List.mem_cons_of_mem _ hx)
    have c := h d List.mem_cons_self
    exact ⟨by simp [PyData.canLayAll0, c.lay, a], by simp only [PyData.depthAll]; have := c.dep; omega⟩
theorem Lay.list {n : Nat} {ds : List D} (h : ∀ d ∈ ds, Lay n d) : Lay (n + 1) (.list ds) := by
  obtain ⟨a, b⟩ := lays h
  exact ⟨by simpa [PyData.canLay0] using a, by simp only [PyData.depth]; omega⟩
theorem Lay.tuple {n : Nat} {ds : List D} (h : ∀ d ∈ ds, Lay n d) : Lay (n + 1) (.tuple ds) := by
  obtain ⟨a, b⟩ := lays h
  exact ⟨by simpa [PyData.canLay0] using a, by simp only [PyData.depth]; omega⟩
theorem Lay.int (i : Int) (n : Nat) : Lay n (.int i) := ⟨rfl, Nat.zero_le _⟩
theorem Lay.bool (i : Bool) (n : Nat) : Lay n (.bool i) := ⟨rfl, Nat.zero_le _⟩
theorem Lay.none (n : Nat) : Lay n .none := ⟨rfl, Nat.zero_le _⟩
theorem Lay.str {x : Str} (h : PyData.strOk x = true) (n : Nat) : Lay n (.str x) := ⟨by simpa [PyData.canLay0] using h, Nat.zero_le _⟩
theorem cmp_eq_lay {d e : D} {m : MH} (h : Lay 64 d) (g : Lay 64 e) : cmpW .eq (.d d) (.d e) m = .ok (PyData.eqv d e) m := by
  simp only [cmpW, rd_d, cmpD, eqD_eqv h.lay g.lay (by have := h.dep; omega)]
theorem cmp_ne_lay {d e : D} {m : MH} (h : Lay 64 d) (g : Lay 64 e) : cmpW .ne (.d d) (.d e) m = .ok (!PyData.eqv d e) m := by
  simp only [cmpW, rd_d, cmpD, eqD_eqv h.lay g.lay (by have := h.dep; omega), Option.map_some]
theorem cmp_eq_self {d : D} {m : MH} (h : Lay 64 d) : cmpW .eq (.d d) (.d d) m = .ok true m := by rw [cmp_eq_lay h h, eqv_self h.lay]
theorem cmp_ne_self {d : D} {m : MH} (h : Lay 64 d) : cmpW .ne (.d d) (.d d) m = .ok false m := by rw [cmp_ne_lay h h, eqv_self h.lay]; rfl
theorem cmp_in_l {d : D} {ds : List D} {m : MH} (h : Lay 64 d) (g : ∀ e ∈ ds, Lay 64 e) : cmpW .in_ (.d d) (.d (.list ds)) m = .ok (ds.any fun z => PyData.eqv z d) m := by
  simp only [cmpW, rd_d, cmpD, inD, h.lay, (lays g).1, decide_eq_true h.dep, Bool.and_self, if_true]
theorem cmp_in_t {d : D} {ds : List D} {m : MH} (h : Lay 64 d) (g : ∀ e ∈ ds, Lay 64 e) : cmpW .in_ (.d d) (.d (.tuple ds)) m = .ok (ds.any fun z => PyData.eqv z d) m := by
  simp only [cmpW, rd_d, cmpD, inD, h.lay, (lays g).1, decide_eq_true h.dep, Bool.and_self, if_true]
theorem cmp_nin_l {d : D} {ds : List D} {m : MH} (h : Lay 64 d) (g : ∀ e ∈ ds, Lay 64 e) : cmpW .nin (.d d) (.d (.list ds)) m = .ok (!ds.any fun z => PyData.eqv z d) m := by
  simp only [cmpW, rd_d, cmpD, inD, h.lay, (lays g).1, decide_eq_true h.dep, Bool.and_self, if_true, Option.map_some]
theorem cmp_nin_t {d : D} {ds : List D} {m : MH} (h : Lay 64 d) (g : ∀ e ∈ ds, Lay 64 e) : cmpW .nin (.d d) (.d (.tuple ds)) m = .ok (!ds.any fun z => PyData.eqv z d) m := by
  simp only [cmpW, rd_d, cmpD, inD, h.lay, (lays g).1, decide_eq_true h.dep, Bool.and_self, if_true, Option.map_some]
/-- a way of writing as data, that the equality of data reads -/
structure Enc {α : Type} (E : α → D) (n : Nat) : Prop where
  inj : ∀ x y, norm (E x) = norm (E y) → x = y
  lay : ∀ x, Lay n (E x)
theorem Enc.eqv {α : Type} [DecidableEq α] {E : α → D} {n : Nat} (h : Enc E n) (x y : α) : PyData.eqv (E x) (E y) = decide (x = y) :=
  Bool.eq_iff_iff.mpr ((eqv_norm _ _ (h.lay x).lay (h.lay y).lay).trans ⟨fun e => by simpa using h.inj _ _ e, fun e => by rw [show x = y by simpa using e]⟩)
theorem Enc.mono {α : Type} {E : α → D} {n k : Nat} (h : Enc E n) (hk : n ≤ k) : Enc E k := ⟨h.inj, fun x => (h.lay x).mono hk⟩
theorem Enc.list {α : Type} {E : α → D} {n : Nat} (h : Enc E n) : Enc (fun xs : List α => .list (xs.map E)) (n + 1) where
  inj := fun x y e => by
    simp only [norm, norms_map, PyData.list.injEq, List.map_map] at e
    exact List.map_inj_right (fun a b => h.inj a b) |>.mp e
  lay := fun x => .list fun d hd => by obtain ⟨a, _, rfl⟩ := List.mem_map.mp hd; exact h.lay a
theorem Enc.tuple {α : Type} {E : α → D} {n : Nat} (h : Enc E n) : Enc (fun xs : List α => .tuple (xs.map E)) (n + 1) where
  inj := fun x y e => by
    simp only [norm, norms_map, PyData.tuple.injEq, List.map_map] at e
    exact List.map_inj_right (fun a b => h.inj a b) |>.mp e
  lay := fun x => .tuple fun d hd => by obtain ⟨a, _, rfl⟩ := List.mem_map.mp hd; exact h.lay a
theorem Enc.pair {α β : Type} {E : α → D} {F : β → D} {n : Nat} (h : Enc E n) (g : Enc F n) : Enc (fun p : α × β => .tuple [E p.1, F p.2]) (n + 1) where
  inj := fun x y e => by
    simp only [norm, norms, PyData.tuple.injEq, List.cons.injEq, and_true] at e
    exact Prod.ext (h.inj _ _ e.1) (g.inj _ _ e.2)
  lay := fun x => .tuple fun d hd => by
    rcases List.mem_cons.mp hd with rfl | hd
    · exact h.lay _
    · rw [List.mem_singleton.mp hd]; exact g.lay _
theorem Enc.int : Enc PyData.int 0 := ⟨fun x y e => by simpa [norm] using e, fun x => .int x 0⟩
theorem Enc.bool : Enc PyData.bool 0 := ⟨fun x y e => by cases x <;> cases y <;> simp [norm] at e ⊢, fun x => .bool x 0⟩
section
variable {α : Type} [DecidableEq α] {E : α → D} {n : Nat} {m : MH}
theorem Enc.ceq (h : Enc E n) (hn : n ≤ 64) (x y : α) : cmpW .eq (.d (E x)) (.d (E y)) m = .ok (decide (x = y)) m := by rw [cmp_eq_lay ((h.lay x).mono hn) ((h.lay y).mono hn), h.eqv]
theorem Enc.cne (h : Enc E n) (hn : n ≤ 64) (x y : α) : cmpW .ne (.d (E x)) (.d (E y)) m = .ok (!decide (x = y)) m := by rw [cmp_ne_lay ((h.lay x).mono hn) ((h.lay y).mono hn), h.eqv]
theorem Enc.any (h : Enc E n) (x : α) (xs : List α) : ((xs.map E).any fun z => PyData.eqv z (E x)) = decide (x ∈ xs) := by
  rw [Bool.eq_iff_iff]
  simp only [List.any_map, List.any_eq_true, Function.comp, h.eqv, decide_eq_true_eq]
  exact ⟨fun ⟨y, hy, e⟩ => e ▸ hy, fun hx => ⟨x, hx, rfl⟩⟩
theorem Enc.inl (h : Enc E n) (hn : n ≤ 64) (x : α) (xs : List α) : cmpW .in_ (.d (E x)) (.d (.list (xs.map E))) m = .ok (decide (x ∈ xs)) m := by
  rw [cmp_in_l ((h.lay x).mono hn) fun e he => by obtain ⟨a, _, rfl⟩ := List.mem_map.mp he; exact (h.lay a).mono hn]
  rw [h.any]
theorem Enc.int_ (h : Enc E n) (hn : n ≤ 64) (x : α) (xs : List α) : cmpW .in_ (.d (E x)) (.d (.tuple (xs.map E))) m = .ok (decide (x ∈ xs)) m := by
  rw [cmp_in_t ((h.lay x).mono hn) fun e he => by obtain ⟨a, _, rfl⟩ := List.mem_map.mp he; exact (h.lay a).mono hn]
  rw [h.any]
theorem Enc.ninl (h : Enc E n) (hn : n ≤ 64) (x : α) (xs : List α) : cmpW .nin (.d (E x)) (.d (.list (xs.map E))) m = .ok (!decide (x ∈ xs)) m := by
  rw [cmp_nin_l ((h.lay x).mono hn) fun e he => by obtain ⟨a, _, rfl⟩ := List.mem_map.mp he; exact (h.lay a).mono hn]
  rw [h.any]
theorem Enc.nint (h : Enc E n) (hn : n ≤ 64) (x : α) (xs : List α) : cmpW .nin (.d (E x)) (.d (.tuple (xs.map E))) m = .ok (!decide (x ∈ xs)) m := by
  rw [cmp_nin_t ((h.lay x).mono hn) fun e he => by obtain ⟨a, _, rfl⟩ := List.mem_map.mp he; exact (h.lay a).mono hn]
  rw [h.any]
end
theorem int_b {b : Bool} {m : MH} : bInt [.d (.bool b)] m = .ok (.d (.int (if b = true then 1 else 0))) m := rfl
theorem mul_b {x : D} {b : Bool} {m : MH} : binW false .mul (.d (.list [x])) (.d (.int (if b = true then 1 else 0))) m = .ok (.d (.list (if b = true then [x] else []))) m := by
  have h : ∀ n : Nat, n ≤ 10 → n ≤ sizeLine := fun n h => by rw [sizeLine_eq]; omega
  have h1 := h 1 (by omega)
  have h0 := h 0 (by omega)
  cases b
  · simp [binW, binD, h0]
  · simp [binW, binD, h1]
theorem atI_nat {α : Type} {l : List α} {i : Nat} {a : α} (h : l[i]? = some a) : atI l (i : Int) = some a := by
  obtain ⟨h1, h2⟩ := List.getElem?_eq_some_iff.mp h
  simp [atI, ixN, h1, h2]
theorem atI_map {α : Type} {l : List α} {f : α → D} {i : Nat} {a : α} (h : l[i]? = some a) : atI (l.map f) (i : Int) = some (f a) := atI_nat (by simp [h])
end Sim
set_option maxHeartbeats 4000000
namespace Sim
open PySem L2
/-! ### households, stands, deeds -/
inductive Lk where | home | note | walks deriving DecidableEq
inductive Pk where | any | home deriving DecidableEq
inductive Fl where | always | low | never deriving DecidableEq
inductive Ky where | hook | keeps | morning deriving DecidableEq
def Lk.S : Lk → Str | .home => "home" | .note => "note" | .walks => "walks"
def Pk.S : Pk → Str | .any => "any" | .home => "home"
def Fl.S : Fl → Str | .always => "always" | .low => "low" | .never => "never"
def Ky.S : Ky → Str | .hook => "hook" | .keeps => "keeps" | .morning => "morning"
structure Hab where
  lk : Lk
  pk : Pk
  fl : Fl
  tl : Bool
  ky : Ky
  fg : Bool
  deriving DecidableEq
def Hab.D (a : Hab) : D := .tuple [.str a.lk.S, .str a.pk.S, .str a.fl.S, .bool a.tl, .str a.ky.S, .bool a.fg]
structure Hs where
  p : Int
  t : Int
  b : Bool
  f : List Int
  pe : List Hab
  deriving DecidableEq
def Hs.D (h : Hs) : D := .tuple [.int h.p, .int h.t, .bool h.b, .tuple (h.f.map .int), .tuple (h.pe.map Hab.D)]
structure Hs.ok (h : Hs) : Prop where
  p1 : 1 ≤ h.p
  p3 : h.p ≤ 3
  t1 : 1 ≤ h.t
  t3 : h.t ≤ 3
  f1 : ∀ i ∈ h.f, 0 ≤ i ∧ i ≤ h.p - 1
  f2 : h.f.Pairwise (· < ·)
  e1 : 1 ≤ h.pe.length
  e3 : h.pe.length ≤ 3
/-- a stand: where, fuel, key, note -/
structure Sd where
  w : Int
  u : Int
  k : Int
  n : Int
  deriving DecidableEq
def Sd.D (s : Sd) : D := .tuple [.int s.w, .int s.u, .int s.k, .int s.n]
structure Sd.ok (h : Hs) (s : Sd) : Prop where
  w0 : 0 ≤ s.w
  w1 : s.w ≤ h.p - 1
  u0 : 0 ≤ s.u
  u1 : s.u ≤ h.t
  k0 : -1 ≤ s.k
  k1 : s.k ≤ h.pe.length - 1
  n0 : -1 ≤ s.n
  n1 : s.n ≤ if h.b = true then h.p - 1 else -1
inductive Dd where
  | dawn
  | go (i : Nat) (pl : Int) (fg : Bool)
  deriving DecidableEq
def Dd.D : Dd → D
  | .dawn => .tuple [.str "morning"]
  | .go i pl fg => .tuple [.str "drive", .int i, .int pl, .bool fg]
/-- the words of a deed -/
abbrev Wds := List Str
def Wds.D (ws : Wds) : D := .tuple (ws.map .str)
abbrev Rs := Sd × Wds
def Rs.D (r : Rs) : D := .tuple [r.1.D, Wds.D r.2]
theorem Lk.inj {a b : Lk} (h : a.S = b.S) : a = b := by cases a <;> cases b <;> simp [Lk.S, ofString_inj] at h ⊢
theorem Pk.inj {a b : Pk} (h : a.S = b.S) : a = b := by cases a <;> cases b <;> simp [Pk.S, ofString_inj] at h ⊢
theorem Fl.inj {a b : Fl} (h : a.S = b.S) : a = b := by cases a <;> cases b <;> simp [Fl.S, ofString_inj] at h ⊢
theorem Ky.inj {a b : Ky} (h : a.S = b.S) : a = b := by cases a <;> cases b <;> simp [Ky.S, ofString_inj] at h ⊢
theorem bint {a b : Bool} (h : (if a = true then (1 : Int) else 0) = if b = true then 1 else 0) : a = b := by cases a <;> cases b <;> simp at h ⊢
def okStrs : List Str := ["home", "note", "walks", "any", "always", "low", "never", "hook", "keeps", "morning", "drive", "keyless", "missed", "empty", "fills", "drives", "writes", "hangs", "fined", "barred", "stale", "still"]
theorem okStrs_ok : ∀ x ∈ okStrs, PyData.strOk x = true ∧ x.length ≤ 1000 := by
  have h : (okStrs.all fun x => PyData.strOk x && decide (x.length ≤ 1000)) = true := by decide +kernel
  intro x hx
  have := List.all_eq_true.mp h x hx
  simpa using this
theorem sOk {x : Str} (h : x ∈ okStrs) : PyData.strOk x = true := (okStrs_ok x h).1
theorem Lk.mem (a : Lk) : a.S ∈ okStrs := by cases a <;> simp [Lk.S, okStrs]
theorem Pk.mem (a : Pk) : a.S ∈ okStrs := by cases a <;> simp [Pk.S, okStrs]
theorem Fl.mem (a : Fl) : a.S ∈ okStrs := by cases a <;> simp [Fl.S, okStrs]
theorem Ky.mem (a : Ky) : a.S ∈ okStrs := by cases a <;> simp [Ky.S, okStrs]
theorem encHab : Enc Hab.D 1 where
  inj := fun x y e => by
    obtain ⟨a, b, c, d, f, g⟩ := x
    obtain ⟨a', b', c', d', f', g'⟩ := y
    simp only [Hab.D, norm, norms, PyData.tuple.injEq, List.cons.injEq, PyData.str.injEq, PyData.int.injEq, and_true] at e
    obtain ⟨e1, e2, e3, e4, e5, e6⟩ := e
    rw [Lk.inj e1, Pk.inj e2, Fl.inj e3, bint e4, Ky.inj e5, bint e6]
  lay := fun x => .tuple fun d hd => by
    simp only [List.mem_cons, List.not_mem_nil, or_false] at hd
    rcases hd with rfl | rfl | rfl | rfl | rfl | rfl
    · exact .str (sOk x.lk.mem) 0
    · exact .str (sOk x.pk.mem) 0
    · exact .str (sOk x.fl.mem) 0
    · exact .bool _ 0
    · exact .str (sOk x.ky.mem) 0
    · exact .bool _ 0
theorem encSd : Enc Sd.D 1 where
  inj := fun x y e => by
    simp only [Sd.D, norm, norms, PyData.tuple.injEq, List.cons.injEq, PyData.int.injEq, and_true] at e
    cases x; cases y; simp at e ⊢; exact e
  lay := fun x => .tuple fun d hd => by
    simp only [List.mem_cons, List.not_mem_nil, or_false] at hd
    rcases hd with rfl | rfl | rfl | rfl <;> exact .int _ 0
theorem encDd : Enc Dd.D 1 where
  inj := fun x y e => by
    cases x <;> cases y <;> simp only [Dd.D, norm, norms, PyData.tuple.injEq, List.cons.injEq, PyData.int.injEq, and_true, reduceCtorEq, false_and, and_false] at e ⊢
    rename_i i pl fg i' pl' fg'
    rw [Int.ofNat_inj.mp e.2.1, e.2.2.1, bint e.2.2.2]
  lay := fun x => by
    cases x
    · refine .tuple fun d hd => ?_
      rw [List.mem_singleton.mp hd]
      exact .str (sOk (by simp [okStrs])) 0
    · refine .tuple fun d hd => ?_
      simp only [List.mem_cons, List.not_mem_nil, or_false] at hd
      rcases hd with rfl | rfl | rfl | rfl
      · exact .str (sOk (by simp [okStrs])) 0
      · exact .int _ 0
      · exact .int _ 0
      · exact .bool _ 0
theorem layWds {ws : Wds} (h : ∀ x ∈ ws, x ∈ okStrs) : Lay 1 (Wds.D ws) := .tuple fun d hd => by
  obtain ⟨x, hx, rfl⟩ := List.mem_map.mp hd
  exact .str (sOk (h x hx)) 0
theorem encHs : Enc Hs.D 3 where
  inj := fun x y e => by
    simp only [Hs.D, norm, norms, PyData.tuple.injEq, List.cons.injEq, PyData.int.injEq, and_true, norms_map, List.map_map] at e
    obtain ⟨e1, e2, e3, e4, e5⟩ := e
    have f4 : x.f = y.f := (List.map_inj_right (fun a b h => Enc.int.inj a b h)).mp e4
    have f5 : x.pe = y.pe := (List.map_inj_right (fun a b h => encHab.inj a b h)).mp e5
    cases x; cases y
    simp only at e1 e2 e3 f4 f5
    rw [e1, e2, bint e3, f4, f5]
  lay := fun x => .tuple fun d hd => by
    simp only [List.mem_cons, List.not_mem_nil, or_false] at hd
    rcases hd with rfl | rfl | rfl | rfl | rfl
    · exact .int _ 2
    · exact .int _ 2
    · exact .bool _ 2
    · exact .tuple fun d hd => by obtain ⟨i, _, rfl⟩ := List.mem_map.mp hd; exact .int _ 1
    · exact .tuple fun d hd => by obtain ⟨i, _, rfl⟩ := List.mem_map.mp hd; exact encHab.lay i
@[simp] theorem Lk.s_home (a : Lk) : (a.S = Str.ofString "home") = (a = .home) := by cases a <;> simp [Lk.S, ofString_inj]
@[simp] theorem Lk.s_note (a : Lk) : (a.S = Str.ofString "note") = (a = .note) := by cases a <;> simp [Lk.S, ofString_inj]
@[simp] theorem Lk.s_walks (a : Lk) : (a.S = Str.ofString "walks") = (a = .walks) := by cases a <;> simp [Lk.S, ofString_inj]
@[simp] theorem Pk.s_any (a : Pk) : (a.S = Str.ofString "any") = (a = .any) := by cases a <;> simp [Pk.S, ofString_inj]
@[simp] theorem Pk.s_home (a : Pk) : (a.S = Str.ofString "home") = (a = .home) := by cases a <;> simp [Pk.S, ofString_inj]
@[simp] theorem Fl.s_always (a : Fl) : (a.S = Str.ofString "always") = (a = .always) := by cases a <;> simp [Fl.S, ofString_inj]
@[simp] theorem Fl.s_low (a : Fl) : (a.S = Str.ofString "low") = (a = .low) := by cases a <;> simp [Fl.S, ofString_inj]
@[simp] theorem Fl.s_never (a : Fl) : (a.S = Str.ofString "never") = (a = .never) := by cases a <;> simp [Fl.S, ofString_inj]
@[simp] theorem Ky.s_hook (a : Ky) : (a.S = Str.ofString "hook") = (a = .hook) := by cases a <;> simp [Ky.S, ofString_inj]
@[simp] theorem Ky.s_keeps (a : Ky) : (a.S = Str.ofString "keeps") = (a = .keeps) := by cases a <;> simp [Ky.S, ofString_inj]
@[simp] theorem Ky.s_morning (a : Ky) : (a.S = Str.ofString "morning") = (a = .morning) := by cases a <;> simp [Ky.S, ofString_inj]
theorem ix1_0 (x : D) : atI [x] 0 = some x := rfl
theorem ix2_0 (x y : D) : atI [x, y] 0 = some x := rfl
theorem ix2_1 (x y : D) : atI [x, y] 1 = some y := rfl
theorem ix3_0 (x y z : D) : atI [x, y, z] 0 = some x := rfl
theorem ix3_1 (x y z : D) : atI [x, y, z] 1 = some y := rfl
theorem ix3_2 (x y z : D) : atI [x, y, z] 2 = some z := rfl
theorem ix4_0 (x y z u : D) : atI [x, y, z, u] 0 = some x := rfl
theorem ix4_1 (x y z u : D) : atI [x, y, z, u] 1 = some y := rfl
theorem ix4_2 (x y z u : D) : atI [x, y, z, u] 2 = some z := rfl
theorem ix4_3 (x y z u : D) : atI [x, y, z, u] 3 = some u := rfl
theorem ix5_0 (x y z u v : D) : atI [x, y, z, u, v] 0 = some x := rfl
theorem ix5_1 (x y z u v : D) : atI [x, y, z, u, v] 1 = some y := rfl
theorem ix5_2 (x y z u v : D) : atI [x, y, z, u, v] 2 = some z := rfl
theorem ix5_3 (x y z u v : D) : atI [x, y, z, u, v] 3 = some u := rfl
theorem ix5_4 (x y z u v : D) : atI [x, y, z, u, v] 4 = some v := rfl
theorem ix6_0 (x y z u v w : D) : atI [x, y, z, u, v, w] 0 = some x := rfl
theorem ix6_1 (x y z u v w : D) : atI [x, y, z, u, v, w] 1 = some y := rfl
theorem ix6_2 (x y z u v w : D) : atI [x, y, z, u, v, w] 2 = some z := rfl
theorem ix6_3 (x y z u v w : D) : atI [x, y, z, u, v, w] 3 = some u := rfl
theorem ix6_4 (x y z u v w : D) : atI [x, y, z, u, v, w] 4 = some v := rfl
theorem ix6_5 (x y z u v w : D) : atI [x, y, z, u, v, w] 5 = some w := rfl
/-- a loop that puts items behind the list on top of the heap -/
theorem forV_flat {α : Type} {asg : D → Env → Option Env} {body : Env → MH → RS} {f : α → D} {g : α → List D} {Pe : Env → Prop} {m : MH} {c N : Nat} : ∀ (xs : List α) (e : Env) (F : List D),
    (∀ a ∈ xs, ∀ e F, Pe e → F.length + c ≤ N → ∃ e1 e2, asg (f a) e = some e1 ∧ body e1 (m ++ [.lst F]) = .nx e2 (m ++ [.lst (F ++ g a)]) ∧ Pe e2) → (∀ a ∈ xs, (g a).length ≤ c) → Pe e → F.length + c * xs.length ≤ N →
    ∃ e', forV asg body (xs.map f) e (m ++ [.lst F]) = .nx e' (m ++ [.lst (F ++ xs.flatMap g)]) ∧ Pe e'
  | [], e, F, _, _, hp, _ => ⟨e, by simp [forV], hp⟩
  | a :: xs, e, F, h, hc, hp, hl => by
    rw [List.length_cons, Nat.mul_add, Nat.mul_one] at hl
    obtain ⟨e1, e2, h1, h2, h3⟩ := h a List.mem_cons_self e F hp (by omega)
    have hg := hc a List.mem_cons_self
    obtain ⟨e', h4, h5⟩ := forV_flat xs e2 (F ++ g a) (fun b hb => h b (List.mem_cons_of_mem _ hb)) (fun b hb => hc b (List.mem_cons_of_mem _ hb)) h3 (by rw [List.length_append]; omega)
    refine ⟨e', ?_, h5⟩
    rw [List.map_cons, forV_cons h1 h2, h4]
    simp [List.flatMap_cons]
theorem forV_keep {asg : D → Env → Option Env} {body : Env → MH → RS} {Pe : Env → MH → Prop} : ∀ (ds : List D) (e : Env) (m : MH), (∀ d ∈ ds, ∀ e m, Pe e m → ∃ e1 e2 m2, asg d e = some e1 ∧ body e1 m = .nx e2 m2 ∧ Pe e2 m2) → Pe e m → ∃ e' m', forV asg body ds e m = .nx e' m' ∧ Pe e' m'
  | [], e, m, _, h => ⟨e, m, rfl, h⟩
  | d :: ds, e, m, s, h => by
    obtain ⟨e1, e2, m2, h1, h2, h3⟩ := s d List.mem_cons_self e m h
    obtain ⟨e', m', h4, h5⟩ := forV_keep ds e2 m2 (fun x hx => s x (List.mem_cons_of_mem _ hx)) h3
    exact ⟨e', m', (forV_cons h1 h2).trans h4, h5⟩
/-- a loop with an item, told of the last one -/
theorem forV_last {α : Type} {asg : D → Env → Option Env} {body : Env → MH → RS} {f : α → D} {Q : Env → MH → Prop} {Pe : α → Env → MH → Prop} (hPQ : ∀ a e m, Pe a e m → Q e m) : ∀ (xs : List α) (e : Env) (m : MH), xs ≠ [] →
    (∀ a ∈ xs, ∀ e m, Q e m → ∃ e1 e2 m2, asg (f a) e = some e1 ∧ body e1 m = .nx e2 m2 ∧ Pe a e2 m2) → Q e m → ∃ a ∈ xs, ∃ e' m', forV asg body (xs.map f) e m = .nx e' m' ∧ Pe a e' m'
  | [], e, m, h, _, _ => absurd rfl h
  | [a], e, m, _, st, h => by
    obtain ⟨e1, e2, m2, h1, h2, h3⟩ := st a List.mem_cons_self e m h
    exact ⟨a, List.mem_cons_self, e2, m2, (forV_cons h1 h2).trans rfl, h3⟩
  | a :: b :: xs, e, m, _, st, h => by
    obtain ⟨e1, e2, m2, h1, h2, h3⟩ := st a List.mem_cons_self e m h
    obtain ⟨c, hc, e', m', h4, h5⟩ := forV_last hPQ (b :: xs) e2 m2 (by simp) (fun x hx => st x (List.mem_cons_of_mem _ hx)) (hPQ _ _ _ h3)
    exact ⟨c, List.mem_cons_of_mem _ hc, e', m', (forV_cons h1 h2).trans h4, h5⟩
/-- a loop over a list in the heap that the body leaves as it is -/
theorem forP_keep {asg : D → Env → Option Env} {body : Env → MH → RS} {Pe : Env → Prop} {p : Nat} {m : MH} {ds : List D} (hm : m[p]? = some (.lst ds)) : ∀ (n i : Nat) (e : Env), i + n = ds.length →
    (∀ d ∈ ds, ∀ e, Pe e → ∃ e1 e2, asg d e = some e1 ∧ body e1 m = .nx e2 m ∧ Pe e2) → Pe e → ∃ e', forP asg body p n i e m = .nx e' m ∧ Pe e'
  | 0, i, e, hi, _, h => ⟨e, by simp only [forP, hm, if_pos (show ds.length ≤ i by omega)], h⟩
  | n + 1, i, e, hi, s, h => by
    have hl : i < ds.length := by omega
    obtain ⟨e1, e2, h1, h2, h3⟩ := s ds[i] (List.getElem_mem _) e h
    obtain ⟨e', h4, h5⟩ := forP_keep hm n (i + 1) e2 (by omega) s h3
    refine ⟨e', ?_, h5⟩
    simp only [forP, hm, List.getElem?_eq_getElem hl, h1, h2, h4]
theorem lenAt_of {p : Nat} {m : MH} {ds : List D} (hm : m[p]? = some (.lst ds)) : lenAt m p = ds.length := by simp only [lenAt, hm]
theorem foldl_count {α : Type} : ∀ (xs : List α) (c : Nat), xs.foldl (fun c _ => c + 1) c = c + xs.length
  | [], c => rfl
  | x :: xs, c => by rw [List.foldl_cons, foldl_count xs (c + 1), List.length_cons]; omega
/-- a loop that carries a state -/
theorem forV_fold {α S : Type} {asg : D → Env → Option Env} {body : Env → MH → RS} {f : α → D} {nxt : S → α → S} {Pe : S → Env → MH → Prop} : ∀ (xs : List α) (s : S) (e : Env) (m : MH),
    (∀ a ∈ xs, ∀ s e m, Pe s e m → ∃ e1 e2 m2, asg (f a) e = some e1 ∧ body e1 m = .nx e2 m2 ∧ Pe (nxt s a) e2 m2) → Pe s e m → ∃ e' m', forV asg body (xs.map f) e m = .nx e' m' ∧ Pe (xs.foldl nxt s) e' m'
  | [], s, e, m, _, h => ⟨e, m, rfl, h⟩
  | a :: xs, s, e, m, st, h => by
    obtain ⟨e1, e2, m2, h1, h2, h3⟩ := st a List.mem_cons_self s e m h
    obtain ⟨e', m', h4, h5⟩ := forV_fold xs (nxt s a) e2 m2 (fun x hx => st x (List.mem_cons_of_mem _ hx)) h3
    exact ⟨e', m', (forV_cons h1 h2).trans h4, h5⟩
/-- a loop that puts items behind a list that it carries, of a bounded length -/
theorem forV_acc {α β : Type} {asg : D → Env → Option Env} {body : Env → MH → RS} {f : α → D} {g : α → List β} {Pe : List β → Env → Prop} {m : MH} {c N : Nat} : ∀ (xs : List α) (F : List β) (e : Env),
    (∀ a ∈ xs, ∀ F e, Pe F e → F.length + c ≤ N → ∃ e1 e2, asg (f a) e = some e1 ∧ body e1 m = .nx e2 m ∧ Pe (F ++ g a) e2) → (∀ a ∈ xs, (g a).length ≤ c) → Pe F e → F.length + c * xs.length ≤ N →
    ∃ e', forV asg body (xs.map f) e m = .nx e' m ∧ Pe (F ++ xs.flatMap g) e'
  | [], F, e, _, _, hp, _ => ⟨e, by simp [forV], by simpa using hp⟩
  | a :: xs, F, e, h, hc, hp, hl => by
    rw [List.length_cons, Nat.mul_add, Nat.mul_one] at hl
    obtain ⟨e1, e2, h1, h2, h3⟩ := h a List.mem_cons_self F e hp (by omega)
    have hg := hc a List.mem_cons_self
    obtain ⟨e', h4, h5⟩ := forV_acc xs (F ++ g a) e2 (fun b hb => h b (List.mem_cons_of_mem _ hb)) (fun b hb => hc b (List.mem_cons_of_mem _ hb)) h3 (by rw [List.length_append]; omega)
    refine ⟨e', ?_, ?_⟩
    · rw [List.map_cons, forV_cons h1 h2, h4]
    · rw [List.flatMap_cons, ← List.append_assoc]; exact h5
/-- range(max(a, min(b, len(script)))) -/
theorem src_main (C : CallS) (G : Str → Option D) (ns : List Int) (a b : Int) (ha : 0 ≤ a) (ha2 : a ≤ 1000) (hb : b ≤ 1000) (xs : List (Option W)) (m : MH) : ∃ n : Nat, evI C G (.rng1 (.blt false "max" (.cons (.dat (.int a)) (.cons (.blt false "min" (.cons (.dat (.int b)) (.cons (.blt false "len" (.cons (.var 0) .nil)) .nil))) .nil)))) (some (.s ns) :: xs) m = .ok (.vals ((List.range n).map fun j : Nat => .int j)) m := by
  have key : ∀ x : Int, 0 ≤ x → x ≤ 1000 → rangeD 0 x.toNat = (List.range x.toNat).map fun j : Nat => PyData.int j := fun x _ _ => by simp [rangeD]
  have fin : ∀ x : Int, 0 ≤ x → x ≤ 1000 → ((if decide (-(2 ^ 62) ≤ x) && decide (x ≤ 16777216) then R.ok (Src.vals (rangeD 0 x.toNat)) m else .bad) : R Src) = .ok (.vals ((List.range x.toNat).map fun j : Nat => .int j)) m := fun x h1 h2 => by
    rw [if_pos (by simp; omega), key x h1 h2]
  by_cases h1 : (ns.length : Int) < b
  · by_cases h2 : (ns.length : Int) > a
    · refine ⟨(ns.length : Int).toNat, ?_⟩
      have := fin ns.length (by omega) (by omega)
      simp only [evI_2, evE_15, evW_2, evW_1, evE_2, evE_1, List.getElem?_cons_zero, R.bind_ok, blt_max, blt_min, blt_len, len_s, bMax, bMin, if_pos h1, if_pos h2, this]
    · refine ⟨a.toNat, ?_⟩
      have := fin a ha ha2
      simp only [evI_2, evE_15, evW_2, evW_1, evE_2, evE_1, List.getElem?_cons_zero, R.bind_ok, blt_max, blt_min, blt_len, len_s, bMax, bMin, if_pos h1, if_neg h2, this]
  · by_cases h2 : b > a
    · refine ⟨b.toNat, ?_⟩
      have := fin b (by omega) hb
      simp only [evI_2, evE_15, evW_2, evW_1, evE_2, evE_1, List.getElem?_cons_zero, R.bind_ok, blt_max, blt_min, blt_len, len_s, bMax, bMin, if_neg h1, if_pos h2, this]
    · refine ⟨a.toNat, ?_⟩
      have := fin a ha ha2
      simp only [evI_2, evE_15, evW_2, evW_1, evE_2, evE_1, List.getElem?_cons_zero, R.bind_ok, blt_max, blt_min, blt_len, len_s, bMax, bMin, if_neg h1, if_neg h2, this]
theorem rangeD_nat (n : Nat) : rangeD 0 n = ((List.range n).map Int.ofNat).map PyData.int := by simp [rangeD]
/-! ### what deeds do -/
def begin_ (h : Hs) : Sd := ⟨0, h.t, -1, -1⟩
def fills (h : Hs) (a : Hab) (u : Int) : Bool := decide (a.fl = .always) || (decide (a.fl = .low) && decide (u = 0))
def opt (b : Bool) (x : Str) : Wds := if b = true then [x] else []
/-- a drive that comes to pass, from a stand with petrol -/
def goes (h : Hs) (s : Sd) (a : Hab) (i : Nat) (pl : Int) (fg : Bool) : Rs :=
  (⟨pl, if fills h a (s.u - 1) = true then h.t else s.u - 1, if a.ky = .hook then -1 else i, if (a.tl && h.b && !fg) = true then pl else s.n⟩,
    "drives" :: (opt (fills h a (s.u - 1)) "fills" ++ (opt (a.tl && h.b && !fg) "writes" ++ opt (decide (a.ky = .hook)) "hangs")))
def looks (a : Hab) (s : Sd) : Int := if a.lk = .note ∧ 0 ≤ s.n then s.n else 0
def drv (h : Hs) (s : Sd) (a : Hab) (i : Nat) (pl : Int) (fg : Bool) : Rs :=
  if s.k ≠ -1 ∧ s.k ≠ i then (s, ["keyless"])
  else if a.lk ≠ .walks ∧ looks a s ≠ s.w then (s, ["missed"])
  else if 0 < s.u then goes h s a i pl fg
  else if a.fl = .never then (s, ["empty"])
  else ((goes h { s with u := h.t } a i pl fg).1, "empty" :: "fills" :: (goes h { s with u := h.t } a i pl fg).2)
/-- whether the key is hung up in the morning -/
def hung (h : Hs) (s : Sd) : Bool := decide (0 ≤ s.k) && decide (h.pe[s.k.toNat]?.map (·.ky) = some .morning)
def dawn (h : Hs) (s : Sd) : Rs := (if hung h s = true then { s with k := -1 } else s, opt (decide (s.w ∈ h.f)) "fined" ++ opt (hung h s) "hangs")
def step (h : Hs) (s : Sd) : Dd → Rs
  | .dawn => dawn h s
  | .go i pl fg => match h.pe[i]? with
    | some a => drv h s a i pl fg
    | none => (s, [])
def places (h : Hs) (a : Hab) : List Int := if a.pk = .any then (List.range h.p.toNat).map Int.ofNat else [0]
def deedsAt (h : Hs) (s : Sd) (i : Nat) (a : Hab) (pl : Int) : List Dd :=
  .go i pl false :: (if a.fg = true ∧ (drv h s a i pl true).1 ≠ (drv h s a i pl false).1 then [.go i pl true] else [])
def deedsOf (h : Hs) (s : Sd) (i : Nat) (a : Hab) : List Dd := (places h a).flatMap (deedsAt h s i a)
def enumN {α : Type} : Nat → List α → List (Nat × α)
  | _, [] => []
  | n, x :: xs => (n, x) :: enumN (n + 1) xs
def deeds (h : Hs) (s : Sd) : List Dd := (enumN 0 h.pe).flatMap (fun q => deedsOf h s q.1 q.2) ++ [.dawn]
theorem enumN_get {α : Type} : ∀ (xs : List α) (n j : Nat), (enumN n xs)[j]? = xs[j]?.map fun x => (n + j, x)
  | [], n, j => by simp [enumN]
  | x :: xs, n, 0 => by simp [enumN]
  | x :: xs, n, j + 1 => by
    rw [enumN, List.getElem?_cons_succ, enumN_get xs (n + 1) j, List.getElem?_cons_succ]
    have : n + 1 + j = n + (j + 1) := by omega
    rw [this]
theorem enumN_mem {α : Type} {xs : List α} {n i : Nat} {a : α} (h : (i, a) ∈ enumN n xs) : n ≤ i ∧ xs[i - n]? = some a := by
  obtain ⟨j, hj⟩ := List.mem_iff_getElem?.mp h
  rw [enumN_get] at hj
  cases e : xs[j]? with
  | none => rw [e] at hj; cases hj
  | some x =>
    rw [e] at hj
    simp only [Option.map_some, Option.some.injEq, Prod.mk.injEq] at hj
    obtain ⟨rfl, rfl⟩ := hj
    exact ⟨by omega, by rw [show n + j - n = j by omega]; exact e⟩
theorem enumD_map {α : Type} (f : α → D) : ∀ (xs : List α) (n : Nat), enumD n (xs.map f) = (enumN n xs).map fun q => .tuple [.int q.1, f q.2]
  | [], _ => rfl
  | x :: xs, n => by simp [enumD, enumN, enumD_map f xs (n + 1)]
theorem opt_mem {b : Bool} {x y : Str} (h : y ∈ opt b x) : y = x := by
  unfold opt at h
  split at h
  · simpa using h
  · cases h
theorem opt_len (b : Bool) (x : Str) : (opt b x).length ≤ 1 := by cases b <;> simp [opt]
theorem goes_len (h : Hs) (s : Sd) (a : Hab) (i : Nat) (pl : Int) (fg : Bool) : (goes h s a i pl fg).2.length ≤ 4 := by
  have h1 := opt_len (fills h a (s.u - 1)) "fills"
  have h2 := opt_len (a.tl && h.b && !fg) "writes"
  have h3 := opt_len (decide (a.ky = .hook)) "hangs"
  simp only [goes, List.length_cons, List.length_append]
  omega
theorem drv_len (h : Hs) (s : Sd) (a : Hab) (i : Nat) (pl : Int) (fg : Bool) : (drv h s a i pl fg).2.length ≤ 6 := by
  have h1 := goes_len h s a i pl fg
  have h2 := goes_len h { s with u := h.t } a i pl fg
  unfold drv
  split
  · simp
  split
  · simp
  split
  · omega
  split
  · simp
  · simp only [List.length_cons]; omega
theorem places_len {h : Hs} (g : h.ok) (a : Hab) : (places h a).length ≤ 3 := by
  have := g.p3
  unfold places
  split
  · simp; omega
  · simp
theorem deedsAt_len (h : Hs) (s : Sd) (i : Nat) (a : Hab) (pl : Int) : (deedsAt h s i a pl).length ≤ 2 := by
  unfold deedsAt
  split <;> simp
theorem flat_len {α β : Type} {f : α → List β} {c : Nat} : ∀ {xs : List α}, (∀ a ∈ xs, (f a).length ≤ c) → (xs.flatMap f).length ≤ c * xs.length
  | [], _ => by simp
  | a :: xs, h => by
    have h1 := h a List.mem_cons_self
    have h2 := flat_len (xs := xs) fun b hb => h b (List.mem_cons_of_mem _ hb)
    rw [List.flatMap_cons, List.length_append, List.length_cons, Nat.mul_add]
    omega
theorem deedsOf_len {h : Hs} (g : h.ok) (s : Sd) (i : Nat) (a : Hab) : (deedsOf h s i a).length ≤ 6 := by
  have h1 := places_len g a
  have h2 := flat_len (f := deedsAt h s i a) (c := 2) (xs := places h a) fun pl _ => deedsAt_len h s i a pl
  unfold deedsOf
  omega
theorem enumN_len {α : Type} : ∀ (xs : List α) (n : Nat), (enumN n xs).length = xs.length
  | [], _ => rfl
  | x :: xs, n => by simp [enumN, enumN_len xs (n + 1)]
theorem deeds_len {h : Hs} (g : h.ok) (s : Sd) : (deeds h s).length ≤ 19 := by
  have h1 := flat_len (f := fun q : Nat × Hab => deedsOf h s q.1 q.2) (c := 6) (xs := enumN 0 h.pe) fun q _ => deedsOf_len g s q.1 q.2
  rw [enumN_len] at h1
  have := g.e3
  simp only [deeds, List.length_append, List.length_singleton]
  omega
theorem goes_words (h : Hs) (s : Sd) (a : Hab) (i : Nat) (pl : Int) (fg : Bool) : ∀ x ∈ (goes h s a i pl fg).2, x ∈ okStrs := by
  intro x hx
  simp only [goes, List.mem_append, List.mem_cons] at hx
  rcases hx with rfl | hx | hx | hx
  · simp [okStrs]
  all_goals rw [opt_mem hx]; simp [okStrs]
theorem drv_words (h : Hs) (s : Sd) (a : Hab) (i : Nat) (pl : Int) (fg : Bool) : ∀ x ∈ (drv h s a i pl fg).2, x ∈ okStrs := by
  unfold drv
  split
  · simp [okStrs]
  split
  · simp [okStrs]
  split
  · exact goes_words _ _ _ _ _ _
  split
  · simp [okStrs]
  · intro x hx
    simp only [List.mem_cons] at hx
    rcases hx with rfl | rfl | hx
    · simp [okStrs]
    · simp [okStrs]
    · exact goes_words _ _ _ _ _ _ x hx
theorem dawn_words (h : Hs) (s : Sd) : ∀ x ∈ (dawn h s).2, x ∈ okStrs := by
  intro x hx
  simp only [dawn, List.mem_append] at hx
  rcases hx with hx | hx <;> rw [opt_mem hx] <;> simp [okStrs]
theorem step_words (h : Hs) (s : Sd) (d : Dd) : ∀ x ∈ (step h s d).2, x ∈ okStrs := by
  cases d with
  | dawn => exact dawn_words h s
  | go i pl fg =>
    simp only [step]
    cases h.pe[i]? with
    | some a => exact drv_words _ _ _ _ _ _
    | none => intro x hx; cases hx
theorem layRs {r : Rs} (h : ∀ x ∈ r.2, x ∈ okStrs) : Lay 2 r.D := .tuple fun d hd => by
  simp only [List.mem_cons, List.not_mem_nil, or_false] at hd
  rcases hd with rfl | rfl
  · exact encSd.lay _
  · exact layWds h
end Sim
set_option maxHeartbeats 4000000
namespace Sim
open PySem L2
/-! ### stands stay stands -/
theorem mem_deeds {h : Hs} {s : Sd} {d : Dd} (g : h.ok) (hd : d ∈ deeds h s) : ∀ i pl fg, d = .go i pl fg → (∃ a, h.pe[i]? = some a ∧ pl ∈ places h a) ∧ 0 ≤ pl ∧ pl ≤ h.p - 1 := by
  intro i pl fg e
  subst e
  have p1 := g.p1
  simp only [deeds, List.mem_append, List.mem_flatMap, List.mem_singleton, reduceCtorEq, or_false] at hd
  obtain ⟨⟨j, a⟩, h1, h2⟩ := hd
  have ha := (enumN_mem h1).2
  simp only [deedsOf, List.mem_flatMap] at h2
  obtain ⟨pl', h3, h4⟩ := h2
  have hpl : 0 ≤ pl' ∧ pl' ≤ h.p - 1 := by
    have h3 := h3
    unfold places at h3
    split at h3
    · simp only [List.mem_map, List.mem_range] at h3
      obtain ⟨x, hx, rfl⟩ := h3
      simp only [Int.ofNat_eq_natCast]
      omega
    · simp only [List.mem_singleton] at h3
      subst h3
      omega
  have key : j = i ∧ pl' = pl := by
    unfold deedsAt at h4
    simp only [List.mem_cons, Dd.go.injEq] at h4
    rcases h4 with ⟨a, b, _⟩ | h4
    · exact ⟨a.symm, b.symm⟩
    · split at h4
      · simp only [List.mem_singleton, Dd.go.injEq] at h4
        exact ⟨h4.1.symm, h4.2.1.symm⟩
      · cases h4
  obtain ⟨rfl, rfl⟩ := key
  exact ⟨⟨a, by simpa using ha, h3⟩, hpl⟩
theorem goes_ok {h : Hs} {s : Sd} (g : h.ok) (gs : s.ok h) (hu : 0 < s.u) (a : Hab) (i : Nat) (hi : i < h.pe.length) (pl : Int) (h0 : 0 ≤ pl) (h1 : pl ≤ h.p - 1) (fg : Bool) : (goes h s a i pl fg).1.ok h := by
  have t1 := g.t1
  have u1 := gs.u1
  have k1 := gs.k1
  have n0 := gs.n0
  have n1 := gs.n1
  simp only [goes]
  refine ⟨h0, h1, ?_, ?_, ?_, ?_, ?_, ?_⟩
  · show 0 ≤ (if fills h a (s.u - 1) = true then h.t else s.u - 1)
    split <;> omega
  · show (if fills h a (s.u - 1) = true then h.t else s.u - 1) ≤ h.t
    split <;> omega
  · show -1 ≤ (if a.ky = .hook then (-1 : Int) else i)
    split <;> omega
  · show (if a.ky = .hook then (-1 : Int) else i) ≤ h.pe.length - 1
    split <;> omega
  · show -1 ≤ (if (a.tl && h.b && !fg) = true then pl else s.n)
    split <;> omega
  · show (if (a.tl && h.b && !fg) = true then pl else s.n) ≤ if h.b = true then h.p - 1 else -1
    split
    · rename_i hb
      simp only [Bool.and_eq_true] at hb
      rw [if_pos hb.1.2]
      exact h1
    · exact n1
theorem drv_ok {h : Hs} {s : Sd} (g : h.ok) (gs : s.ok h) (a : Hab) (i : Nat) (hi : i < h.pe.length) (pl : Int) (h0 : 0 ≤ pl) (h1 : pl ≤ h.p - 1) (fg : Bool) : (drv h s a i pl fg).1.ok h := by
  unfold drv
  split
  · exact gs
  split
  · exact gs
  split
  · rename_i hu; exact goes_ok g gs hu a i hi pl h0 h1 fg
  split
  · exact gs
  · have t1 := g.t1
    have gt : Sd.ok h { s with u := h.t } := ⟨gs.w0, gs.w1, by show 0 ≤ h.t; omega, Int.le_refl _, gs.k0, gs.k1, gs.n0, gs.n1⟩
    exact goes_ok g gt (by show 0 < h.t; omega) a i hi pl h0 h1 fg
theorem dawn_ok {h : Hs} {s : Sd} (g : h.ok) (gs : s.ok h) : (dawn h s).1.ok h := by
  have e1 := g.e1
  unfold dawn
  simp only
  split
  · exact ⟨gs.w0, gs.w1, gs.u0, gs.u1, Int.le_refl _, by show (-1 : Int) ≤ _; omega, gs.n0, gs.n1⟩
  · exact gs
theorem step_ok {h : Hs} {s : Sd} (g : h.ok) (gs : s.ok h) {d : Dd} (hd : d ∈ deeds h s) : (step h s d).1.ok h := by
  cases d with
  | dawn => exact dawn_ok g gs
  | go i pl fg =>
    obtain ⟨⟨a, ha, _⟩, h0, h1⟩ := mem_deeds g hd i pl fg rfl
    simp only [step, ha]
    exact drv_ok g gs a i (List.getElem?_eq_some_iff.mp ha).1 pl h0 h1 fg
theorem begin_ok {h : Hs} (g : h.ok) : (begin_ h).ok h := by
  have p1 := g.p1
  have t1 := g.t1
  have e1 := g.e1
  refine ⟨Int.le_refl _, ?_, ?_, Int.le_refl _, Int.le_refl _, ?_, Int.le_refl _, ?_⟩
  · show 0 ≤ h.p - 1; omega
  · show 0 ≤ h.t; omega
  · show (-1 : Int) ≤ h.pe.length - 1; omega
  · show (-1 : Int) ≤ _
    split <;> omega
theorem go_mem {h : Hs} {s : Sd} {i : Nat} {pl : Int} {fg : Bool} (g : h.ok) (hd : Dd.go i pl fg ∈ deeds h s) : i < h.pe.length := by
  obtain ⟨⟨a, ha, _⟩, _⟩ := mem_deeds g hd i pl fg rfl
  exact (List.getElem?_eq_some_iff.mp ha).1
/-! ### courses -/
def follow (h : Hs) : Sd → List Dd → Sd
  | s, [] => s
  | s, d :: ds => follow h (step h s d).1 ds
def stands (h : Hs) : Sd → List Dd → List Sd
  | _, [] => []
  | s, d :: ds => (step h s d).1 :: stands h (step h s d).1 ds
def tellsOf (h : Hs) : Sd → List Dd → List Wds
  | _, [] => []
  | s, d :: ds => (step h s d).2 :: tellsOf h (step h s d).1 ds
def isWay (h : Hs) : Sd → List Dd → Prop
  | _, [] => True
  | s, d :: ds => d ∈ deeds h s ∧ isWay h (step h s d).1 ds
theorem follow_app (h : Hs) : ∀ (s : Sd) (a b : List Dd), follow h s (a ++ b) = follow h (follow h s a) b
  | s, [], b => rfl
  | s, d :: a, b => follow_app h _ a b
theorem stands_app (h : Hs) : ∀ (s : Sd) (a b : List Dd), stands h s (a ++ b) = stands h s a ++ stands h (follow h s a) b
  | s, [], b => rfl
  | s, d :: a, b => by simp [stands, follow, stands_app h _ a b]
theorem tellsOf_app (h : Hs) : ∀ (s : Sd) (a b : List Dd), tellsOf h s (a ++ b) = tellsOf h s a ++ tellsOf h (follow h s a) b
  | s, [], b => rfl
  | s, d :: a, b => by simp [tellsOf, follow, tellsOf_app h _ a b]
theorem isWay_app (h : Hs) : ∀ (s : Sd) (a b : List Dd), isWay h s (a ++ b) ↔ isWay h s a ∧ isWay h (follow h s a) b
  | s, [], b => by simp [isWay, follow]
  | s, d :: a, b => by simp [isWay, follow, isWay_app h _ a b, and_assoc]
theorem stands_len (h : Hs) : ∀ (s : Sd) (a : List Dd), (stands h s a).length = a.length
  | s, [] => rfl
  | s, d :: a => by simp [stands, stands_len h _ a]
theorem tellsOf_len (h : Hs) : ∀ (s : Sd) (a : List Dd), (tellsOf h s a).length = a.length
  | s, [] => rfl
  | s, d :: a => by simp [tellsOf, tellsOf_len h _ a]
theorem follow_ok {h : Hs} (g : h.ok) : ∀ {s : Sd} {ds : List Dd}, s.ok h → isWay h s ds → (follow h s ds).ok h
  | s, [], gs, _ => gs
  | s, d :: ds, gs, ⟨h1, h2⟩ => follow_ok g (s := (step h s d).1) (ds := ds) (step_ok g gs h1) h2
theorem last_stand (h : Hs) : ∀ (s : Sd) (a : List Dd), (s :: stands h s a)[a.length]? = some (follow h s a)
  | s, [] => rfl
  | s, d :: a => by
    simp only [stands, List.length_cons, List.getElem?_cons_succ, follow]
    exact last_stand h (step h s d).1 a
theorem words_ok (h : Hs) : ∀ (s : Sd) (a : List Dd), ∀ ws ∈ tellsOf h s a, ∀ x ∈ ws, x ∈ okStrs
  | s, [], ws, hw => by cases hw
  | s, d :: a, ws, hw => by
    rcases List.mem_cons.mp hw with rfl | hw
    · exact step_words h s d
    · exact words_ok h _ a ws hw
end Sim
set_option maxHeartbeats 4000000
namespace Sim
open PySem L2
/-! ### tables: the first row of a key -/
section
variable {α β γ : Type} [DecidableEq α]
def lk (F : List (α × β)) (a : α) : Option β := (F.find? fun p => decide (p.1 = a)).map (·.2)
def hasK (F : List (α × β)) (a : α) : Bool := (lk F a).isSome
theorem lk_nil (a : α) : lk ([] : List (α × β)) a = none := rfl
theorem lk_cons (p : α × β) (F : List (α × β)) (a : α) : lk (p :: F) a = if p.1 = a then some p.2 else lk F a := by
  unfold lk
  rw [List.find?_cons]
  by_cases h : p.1 = a <;> simp [h]
theorem lk_none {F : List (α × β)} {a : α} : lk F a = none ↔ a ∉ F.map (·.1) := by
  induction F with
  | nil => simp [lk_nil]
  | cons p F ih =>
    rw [lk_cons, List.map_cons, List.mem_cons, not_or]
    by_cases h : p.1 = a
    · simp [h]
    · rw [if_neg h, ih]
      exact ⟨fun q => ⟨fun z => h z.symm, q⟩, fun q => q.2⟩
theorem hasK_iff {F : List (α × β)} {a : α} : hasK F a = true ↔ a ∈ F.map (·.1) := by
  unfold hasK
  cases h : lk F a with
  | none => simpa using lk_none.mp h
  | some b =>
    simp only [Option.isSome_some, true_iff]
    refine Classical.byContradiction fun n => ?_
    rw [lk_none.mpr n] at h
    cases h
theorem lk_mem {F : List (α × β)} {a : α} {b : β} (h : lk F a = some b) : (a, b) ∈ F := by
  induction F with
  | nil => cases h
  | cons p F ih =>
    rw [lk_cons] at h
    by_cases e : p.1 = a
    · rw [if_pos e] at h
      cases h
      rw [← e]
      exact List.mem_cons_self
    · rw [if_neg e] at h
      exact List.mem_cons_of_mem _ (ih h)
theorem lk_of_mem {F : List (α × β)} (n : (F.map (·.1)).Nodup) {a : α} {b : β} (h : (a, b) ∈ F) : lk F a = some b := by
  induction F with
  | nil => cases h
  | cons p F ih =>
    rw [List.map_cons, List.nodup_cons] at n
    rw [lk_cons]
    rcases List.mem_cons.mp h with rfl | h
    · simp
    · rw [if_neg (fun e => n.1 (by rw [e]; exact List.mem_map.mpr ⟨_, h, rfl⟩))]
      exact ih n.2 h
theorem lk_app (F G : List (α × β)) (a : α) : lk (F ++ G) a = (lk F a).or (lk G a) := by
  induction F with
  | nil => simp [lk_nil]
  | cons p F ih =>
    rw [List.cons_append, lk_cons, lk_cons, ih]
    by_cases h : p.1 = a <;> simp [h]
theorem lk_pre {F G : List (α × β)} {a : α} {b : β} (h : lk F a = some b) : lk (F ++ G) a = some b := by rw [lk_app, h]; rfl
/-- a row put -/
def put_ (F : List (α × β)) (a : α) (b : β) : List (α × β) := if hasK F a = true then F.map (fun p => if p.1 = a then (p.1, b) else p) else F ++ [(a, b)]
theorem put_new {F : List (α × β)} {a : α} (b : β) (h : hasK F a = false) : put_ F a b = F ++ [(a, b)] := by simp [put_, h]

/-! ### a walk through what can be reached, in the order of discovery -/
variable (nb : α → List (γ × α))
def ex1 (c : List γ) (F : List (α × List γ)) (q : γ × α) : List (α × List γ) := if hasK F q.2 = true then F else F ++ [(q.2, c ++ [q.1])]
def expand (F : List (α × List γ)) (s : α × List γ) : List (α × List γ) := (nb s.1).foldl (ex1 s.2) F
def bst (i : Nat) (F : List (α × List γ)) : List (α × List γ) := match F[i]? with
  | some s => expand nb F s
  | none => F
def itr : Nat → Nat → List (α × List γ) → List (α × List γ)
  | 0, _, F => F
  | n + 1, i, F => itr n (i + 1) (bst nb i F)
theorem ex1_pre (c : List γ) (F : List (α × List γ)) (q : γ × α) : ∃ G, ex1 c F q = F ++ G := by
  unfold ex1
  split
  · exact ⟨[], by simp⟩
  · exact ⟨_, rfl⟩
theorem fold_pre (c : List γ) : ∀ (qs : List (γ × α)) (F : List (α × List γ)), ∃ G, qs.foldl (ex1 c) F = F ++ G
  | [], F => ⟨[], by simp⟩
  | q :: qs, F => by
    obtain ⟨G, e⟩ := ex1_pre c F q
    obtain ⟨G2, e2⟩ := fold_pre c qs (F ++ G)
    exact ⟨G ++ G2, by rw [List.foldl_cons, e, e2, List.append_assoc]⟩
theorem expand_pre (F : List (α × List γ)) (s : α × List γ) : ∃ G, expand nb F s = F ++ G := fold_pre _ _ _
theorem bst_pre (i : Nat) (F : List (α × List γ)) : ∃ G, bst nb i F = F ++ G := by
  unfold bst
  split
  · exact expand_pre nb F _
  · exact ⟨[], by simp⟩
theorem itr_pre : ∀ (n i : Nat) (F : List (α × List γ)), ∃ G, itr nb n i F = F ++ G
  | 0, i, F => ⟨[], by simp [itr]⟩
  | n + 1, i, F => by
    obtain ⟨G, e⟩ := bst_pre nb i F
    obtain ⟨G2, e2⟩ := itr_pre n (i + 1) (F ++ G)
    exact ⟨G ++ G2, by rw [itr, e, e2, List.append_assoc]⟩
theorem itr_add : ∀ (n k i : Nat) (F : List (α × List γ)), itr nb (n + k) i F = itr nb k (i + n) (itr nb n i F)
  | 0, k, i, F => by simp [itr]
  | n + 1, k, i, F => by
    rw [show n + 1 + k = (n + k) + 1 by omega, itr, itr_add n k (i + 1), show i + 1 + n = i + (n + 1) by omega]
    rfl
theorem itr_succ (n i : Nat) (F : List (α × List γ)) : itr nb (n + 1) i F = bst nb (i + n) (itr nb n i F) := by
  rw [itr_add nb n 1 i F]
  rfl
theorem itr_stay : ∀ (n i : Nat) (F : List (α × List γ)), F.length ≤ i → itr nb n i F = F
  | 0, i, F, _ => rfl
  | n + 1, i, F, h => by
    have : bst nb i F = F := by unfold bst; rw [List.getElem?_eq_none h]
    rw [itr, this]
    exact itr_stay n (i + 1) F (by omega)
/-- all is walked through -/
def Done (a : α) (F : List (α × List γ)) : Prop := ∃ n, F = itr nb n 0 [(a, [])] ∧ F.length = n
theorem Done.unique {a : α} {F G : List (α × List γ)} (h : Done nb a F) (g : Done nb a G) : F = G := by
  obtain ⟨n, e1, l1⟩ := h
  obtain ⟨k, e2, l2⟩ := g
  have key : ∀ {F G : List (α × List γ)} {n k : Nat}, F = itr nb n 0 [(a, [])] → F.length = n → G = itr nb k 0 [(a, [])] → n ≤ k → F = G := by
    intro F G n k e1 l1 e2 hnk
    rw [show k = n + (k - n) by omega, itr_add, ← e1, itr_stay nb _ _ _ (by omega)] at e2
    exact e2.symm
  by_cases hnk : n ≤ k
  · exact key e1 l1 e2 hnk
  · exact (key e2 l2 e1 (by omega)).symm
/-- a way from a -/
inductive Path (a : α) : List γ → α → Prop
  | nil : Path a [] a
  | snoc {c : List γ} {s t : α} {d : γ} : Path a c s → (d, t) ∈ nb s → Path a (c ++ [d]) t
/-- what holds while the i-th row is walked -/
structure Inv0 (a : α) (i : Nat) (F : List (α × List γ)) : Prop where
  nd : (F.map (·.1)).Nodup
  first : F[0]? = some (a, [])
  path : ∀ p ∈ F, Path nb a p.2 p.1
  mono : F.Pairwise fun p q => p.2.length ≤ q.2.length
  near : ∀ s, F[i]? = some s → ∀ p ∈ F, p.2.length ≤ s.2.length + 1
  ix : ∀ (j : Nat) p, F[j]? = some p → p.2.length ≤ j
  clo : ∀ (j : Nat) p, j < i → F[j]? = some p → ∀ q ∈ nb p.1, hasK F q.2 = true
variable {nb}
theorem Inv0.start (a : α) : Inv0 nb a 0 [(a, [])] where
  nd := by simp
  first := rfl
  path := fun p hp => by rw [List.mem_singleton.mp hp]; exact .nil
  mono := by simp
  near := fun s h p hp => by rw [List.mem_singleton.mp hp]; exact Nat.zero_le _
  ix := fun j p h => by
    cases j with
    | zero => simp at h; subst h; exact Nat.zero_le _
    | succ j => simp at h
  clo := fun j p h => absurd h (Nat.not_lt_zero _)
/-- one more row, from the row s -/
theorem Inv0.row {a : α} {i : Nat} {F : List (α × List γ)} {s : α × List γ} (h : Inv0 nb a i F) (hs : F[i]? = some s) {q : γ × α} (hq : q ∈ nb s.1) : Inv0 nb a i (ex1 s.2 F q) ∧ (ex1 s.2 F q)[i]? = some s ∧ hasK (ex1 s.2 F q) q.2 = true := by
  unfold ex1
  split
  · rename_i e; exact ⟨h, hs, e⟩
  · rename_i e
    have hi := (List.getElem?_eq_some_iff.mp hs).1
    have sm : s ∈ F := List.mem_of_getElem? hs
    have e' : q.2 ∉ F.map (·.1) := fun z => e (hasK_iff.mpr z)
    have h0 : F ≠ [] := by intro z; rw [z] at hi; simp at hi
    refine ⟨⟨?_, ?_, ?_, ?_, ?_, ?_, ?_⟩, ?_, ?_⟩
    · rw [List.map_append, List.nodup_append]
      refine ⟨h.nd, by simp, fun x hx y hy => ?_⟩
      have : y = q.2 := by simpa using hy
      rw [this]
      exact fun z => e' (z ▸ hx)
    · rw [List.getElem?_append_left (List.length_pos_iff.mpr h0)]; exact h.first
    · intro p hp
      rcases List.mem_append.mp hp with hp | hp
      · exact h.path p hp
      · rw [List.mem_singleton.mp hp]
        exact .snoc (h.path s sm) hq
    · rw [List.pairwise_append]
      refine ⟨h.mono, by simp, fun x hx y hy => ?_⟩
      rw [List.mem_singleton.mp hy]
      have := h.near s hs x hx
      simpa using this
    · intro s' hs' p hp
      rw [List.getElem?_append_left hi, hs] at hs'
      cases hs'
      rcases List.mem_append.mp hp with hp | hp
      · exact h.near _ hs p hp
      · rw [List.mem_singleton.mp hp]; simp
    · intro j p hj
      by_cases hl : j < F.length
      · rw [List.getElem?_append_left hl] at hj
        exact h.ix j p hj
      · have hj1 := (List.getElem?_eq_some_iff.mp hj).1
        have : j = F.length := by simp at hj1; omega
        subst this
        rw [List.getElem?_append_right (Nat.le_refl _)] at hj
        simp at hj
        subst hj
        have := h.ix i s hs
        simp
        omega
    · intro j p hj hp q' hq'
      rw [List.getElem?_append_left (by omega)] at hp
      have := h.clo j p hj hp q' hq'
      rw [hasK_iff] at this ⊢
      rw [List.map_append]
      exact List.mem_append_left _ this
    · rw [List.getElem?_append_left hi]; exact hs
    · rw [hasK_iff]; simp
theorem hasK_pre {F G : List (α × β)} {a : α} (h : hasK F a = true) : hasK (F ++ G) a = true := by
  rw [hasK_iff] at h ⊢
  rw [List.map_append]
  exact List.mem_append_left _ h
theorem Inv0.rows {a : α} {i : Nat} {s : α × List γ} : ∀ (qs : List (γ × α)) (F : List (α × List γ)), Inv0 nb a i F → F[i]? = some s → (∀ q ∈ qs, q ∈ nb s.1) → Inv0 nb a i (qs.foldl (ex1 s.2) F) ∧ (qs.foldl (ex1 s.2) F)[i]? = some s ∧ ∀ q ∈ qs, hasK (qs.foldl (ex1 s.2) F) q.2 = true
  | [], F, h, hs, _ => ⟨h, hs, fun q hq => nomatch hq⟩
  | q :: qs, F, h, hs, hq => by
    obtain ⟨h1, h2, h3⟩ := h.row hs (hq q List.mem_cons_self)
    obtain ⟨h4, h5, h6⟩ := Inv0.rows qs _ h1 h2 fun x hx => hq x (List.mem_cons_of_mem _ hx)
    refine ⟨h4, h5, fun x hx => ?_⟩
    rcases List.mem_cons.mp hx with rfl | hx
    · obtain ⟨G, e⟩ := fold_pre s.2 qs (ex1 s.2 F x)
      rw [List.foldl_cons, e]
      exact hasK_pre h3
    · exact h6 x hx
theorem Inv0.step {a : α} {i : Nat} {F : List (α × List γ)} (h : Inv0 nb a i F) (hi : i < F.length) : Inv0 nb a (i + 1) (bst nb i F) := by
  have hs : F[i]? = some F[i] := List.getElem?_eq_getElem hi
  have e : bst nb i F = expand nb F F[i] := by unfold bst; rw [hs]
  rw [e]
  obtain ⟨h1, h2, h3⟩ := Inv0.rows (nb F[i].1) F h hs fun q hq => hq
  refine ⟨h1.nd, h1.first, h1.path, h1.mono, fun s hs' p hp => ?_, h1.ix, fun j p hj hp q hq => ?_⟩
  · have h4 := h1.near _ h2 p hp
    have h5 : F[i].2.length ≤ s.2.length := by
      obtain ⟨l1, e1⟩ := List.getElem?_eq_some_iff.mp h2
      obtain ⟨l2, e2⟩ := List.getElem?_eq_some_iff.mp hs'
      have := List.pairwise_iff_getElem.mp h1.mono i (i + 1) l1 l2 (Nat.lt_succ_self i)
      rw [e1] at this
      rw [← show (expand nb F F[i])[i + 1] = s from e2]
      exact this
    omega
  · by_cases hji : j = i
    · subst hji
      have h2' : (expand nb F F[j])[j]? = some F[j] := h2
      rw [h2'] at hp
      cases hp
      exact h3 q hq
    · exact h1.clo j p (by omega) hp q hq
theorem Inv0.itr {a : α} : ∀ (n i : Nat) (F : List (α × List γ)), Inv0 nb a i F → (∀ k, k < n → i + k < (Sim.itr nb k i F).length) → Inv0 nb a (i + n) (Sim.itr nb n i F)
  | 0, i, F, h, _ => h
  | n + 1, i, F, h, hl => by
    have h1 := Inv0.itr n i F h fun k hk => hl k (by omega)
    rw [itr_succ]
    exact h1.step (hl n (Nat.lt_succ_self n))
/-- what the walk gives -/
structure Reach (nb : α → List (γ × α)) (a : α) (F : List (α × List γ)) : Prop where
  nd : (F.map (·.1)).Nodup
  first : F[0]? = some (a, [])
  path : ∀ p ∈ F, Path nb a p.2 p.1
  mono : F.Pairwise fun p q => p.2.length ≤ q.2.length
  ix : ∀ (j : Nat) p, F[j]? = some p → p.2.length ≤ j
  clo : ∀ p ∈ F, ∀ q ∈ nb p.1, hasK F q.2 = true
theorem Inv0.reach {a : α} {F : List (α × List γ)} {i : Nat} (h : Inv0 nb a i F) (hi : F.length ≤ i) : Reach nb a F :=
  ⟨h.nd, h.first, h.path, h.mono, h.ix, fun p hp q hq => by
    obtain ⟨j, hj, e⟩ := List.mem_iff_getElem.mp hp
    exact h.clo j p (by omega) (by rw [List.getElem?_eq_getElem hj, e]) q hq⟩
theorem Path.app {a : α} {c : List γ} {s : α} (h : Path nb a c s) {c2 : List γ} {t : α} (g : Path nb s c2 t) : Path nb a (c ++ c2) t := by
  induction g with
  | nil => simpa using h
  | snoc _ m ih => rw [← List.append_assoc]; exact .snoc ih m
theorem Reach.all {a : α} {F : List (α × List γ)} (h : Reach nb a F) {c : List γ} {s : α} (p : Path nb a c s) : hasK F s = true := by
  induction p with
  | nil => rw [hasK_iff]; exact List.mem_map.mpr ⟨_, List.mem_of_getElem? h.first, rfl⟩
  | snoc _ m ih =>
    rw [hasK_iff] at ih
    obtain ⟨q, hq, e⟩ := List.mem_map.mp ih
    subst e
    exact h.clo q hq _ m
theorem Path.keep {P : α → Prop} {a : α} (ha : P a) (hP : ∀ s, P s → ∀ q ∈ nb s, P q.2) {c : List γ} {s : α} (p : Path nb a c s) : P s := by
  induction p with
  | nil => exact ha
  | snoc _ m ih => exact hP _ ih _ m
end
theorem nodup_len {α : Type} [DecidableEq α] : ∀ (l D : List α), l.Nodup → (∀ x ∈ l, x ∈ D) → l.length ≤ D.length
  | [], D, _, _ => Nat.zero_le _
  | x :: l, D, n, h => by
    rw [List.nodup_cons] at n
    have hx := h x List.mem_cons_self
    have := nodup_len l (D.erase x) n.2 fun y hy => (List.mem_erase_of_ne (fun e => n.1 (by rw [← e]; exact hy))).mpr (h y (List.mem_cons_of_mem _ hy))
    rw [List.length_erase_of_mem hx] at this
    have := List.length_pos_of_mem hx
    rw [List.length_cons]
    omega
end Sim
set_option maxHeartbeats 4000000
namespace Sim
open PySem L2
/-! ### dicts with written keys -/
structure EncK {α : Type} (E : α → D) (key : α → NestedKey) : Prop where
  ok : ∀ a, nkey (E a) = some (key a)
  tup : ∀ a, tupK (key a) = true
  inj : ∀ a b, key a = key b → a = b
def Sd.key (s : Sd) : NestedKey := .tup [.num s.w, .num s.u, .num s.k, .num s.n]
theorem keySd : EncK Sd.D Sd.key where
  ok := fun s => rfl
  tup := fun s => by simp [tupK, Sd.key, NestedKey.depth, NestedKey.depthAll]
  inj := fun a b h => by
    simp only [Sd.key, NestedKey.tup.injEq, List.cons.injEq, NestedKey.num.injEq, and_true] at h
    cases a; cases b; simp at h ⊢; exact h
def kvsOf {α β : Type} (E : α → D) (V : β → D) (F : List (α × β)) : List (D × D) := F.map fun p => (E p.1, V p.2)
section
variable {α β : Type} [DecidableEq α] {E : α → D} {key : α → NestedKey} {V : β → D} {F : List (α × β)} {a : α} {b : β} {m : MH} {w : W}
theorem EncK.keyT (h : EncK E key) (a : α) : keyT (E a) = some (key a) := by simp [Sim.keyT, h.ok, h.tup]
theorem EncK.tupKs (h : EncK E key) (F : List (α × β)) : tupKs (kvsOf E V F) = true := by
  unfold Sim.tupKs kvsOf
  rw [List.all_map, List.all_eq_true]
  intro p _
  simp [Function.comp, h.ok, h.tup]
theorem EncK.look (h : EncK E key) (F : List (α × β)) (a : α) : dlook (kvsOf E V F) (key a) = (lk F a).map V := by
  induction F with
  | nil => rfl
  | cons p F ih =>
    rw [lk_cons]
    unfold dlook kvsOf at ih ⊢
    rw [List.map_cons, List.find?_cons]
    simp only [h.ok, Option.some.injEq]
    by_cases e : p.1 = a
    · simp [e]
    · have : ¬ key p.1 = key a := fun z => e (h.inj _ _ z)
      simp only [this, decide_false, e, if_false]
      exact ih
theorem EncK.put (h : EncK E key) (F : List (α × β)) (a : α) (b : β) : dput (kvsOf E V F) (key a) (E a) (V b) = kvsOf E V (put_ F a b) := by
  unfold dput put_
  rw [h.look, Option.isSome_map]
  show (if (lk F a).isSome = true then _ else _) = kvsOf E V (if (lk F a).isSome = true then _ else _)
  split
  · unfold kvsOf
    rw [List.map_map, List.map_map]
    refine List.map_congr_left fun p _ => ?_
    simp only [Function.comp, h.ok, Option.some.injEq]
    by_cases e : p.1 = a
    · simp [e]
    · have : ¬ key p.1 = key a := fun z => e (h.inj _ _ z)
      simp [this, e]
  · simp [kvsOf]
theorem EncK.get (h : EncK E key) (F : List (α × β)) (a : α) : dget (kvsOf E V F) (E a) = some ((lk F a).map V) := by
  unfold dget
  rw [h.keyT]
  simp only [h.tupKs, if_true, h.look]
theorem EncK.cin (h : EncK E key) (hw : rd m w = some (.dict (kvsOf E V F))) (a : α) : cmpW .in_ (.d (E a)) w m = .ok (hasK F a) m := by
  simp only [cmpW, rd_d, hw, cmpD, h.get, Option.map_some, Option.isSome_map]
  rfl
theorem EncK.cnin (h : EncK E key) (hw : rd m w = some (.dict (kvsOf E V F))) (a : α) : cmpW .nin (.d (E a)) w m = .ok (!hasK F a) m := by
  simp only [cmpW, rd_d, hw, cmpD, h.get, Option.map_some, Option.isSome_map]
  rfl
theorem EncK.noInt (h : EncK E key) (a : α) (k : Int) : E a ≠ .int k := fun e => by
  have h1 := h.ok a
  have h2 := h.tup a
  rw [e] at h1
  have h3 : key a = .num k := (Option.some.inj (show some (NestedKey.num k) = some (key a) from h1)).symm
  rw [h3] at h2
  cases h2
theorem EncK.idx (h : EncK E key) (hw : rd m w = some (.dict (kvsOf E V F))) (hl : lk F a = some b) : idxW w (.d (E a)) m = .ok (.d (V b)) m := by
  unfold idxW
  split
  · cases hw
  · simp only [hw, rd_d, idxD, h.get, hl, Option.map_some]
theorem EncK.sub (h : EncK E key) {p : Nat} (hm : m[p]? = some (.dct (kvsOf E V F))) (hz : F.length < sizeLine) (a : α) (b : β) : subW (.r p) (.d (E a)) (.d (V b)) m = .ok () (m.set p (.dct (kvsOf E V (put_ F a b)))) := by
  have go : ∀ x : D, (∀ k, x ≠ .int k) → Sim.keyT x = some (key a) → E a = x → subW (.r p) (.d x) (.d (V b)) m = .ok () (m.set p (.dct (kvsOf E V (put_ F a b)))) := by
    intro x n hk e
    have e2 : subW (.r p) (.d x) (.d (V b)) m = (match m[p]? with
      | some (.dct kvs) => match Sim.keyT x with
        | some nk => if Sim.tupKs kvs && decide (kvs.length < sizeLine) then .ok () (m.set p (.dct (dput kvs nk x (V b)))) else .bad
        | none => .bad
      | _ => .bad) := by
      cases x <;> first | rfl | exact absurd rfl (n _)
    rw [e2, hm, hk]
    simp only [h.tupKs, Bool.true_and]
    rw [if_pos (by simpa [kvsOf] using hz), ← e, h.put]
  exact go (E a) (h.noInt a) (h.keyT a) rfl
theorem EncK.mget (h : EncK E key) (hw : rd m w = some (.dict (kvsOf E V F))) (a : α) : mGet w [.d (E a)] m = .ok (.d (((lk F a).map V).getD .none)) m := by
  unfold mGet
  simp only [hw, h.get]
  cases lk F a <;> rfl
theorem rd_dct {p : Nat} {kvs : List (D × D)} (hm : m[p]? = some (.dct kvs)) : rd m (.r p) = some (.dict kvs) := by simp [rd, hm]
theorem rd_lst {p : Nat} {ds : List D} (hm : m[p]? = some (.lst ds)) : rd m (.r p) = some (.list ds) := by simp [rd, hm]
end
/-! ### while -/
theorem whileF_run {test : Env → MH → R Bool} {body : Env → MH → RS} {P : Nat → Env → MH → Prop} {Z : RS → Prop}
    (step : ∀ k e m, P k e m → (∃ m', test e m = .ok false m' ∧ Z (.nx e m')) ∨ ∃ m1, test e m = .ok true m1 ∧ match body e m1 with
      | .nx e2 m2 => ∃ k', k' < k ∧ P k' e2 m2
      | .ct e2 m2 => ∃ k', k' < k ∧ P k' e2 m2
      | .bk e2 m2 => Z (.nx e2 m2)
      | r => Z r) : ∀ (fuel k : Nat) (e : Env) (m : MH), P k e m → k < fuel → Z (whileF test body fuel e m)
  | 0, k, e, m, _, h => absurd h (Nat.not_lt_zero _)
  | fuel + 1, k, e, m, hp, h => by
    rcases step k e m hp with ⟨m', h1, h2⟩ | ⟨m1, h1, h2⟩
    · simpa only [whileF, h1, R.thn_ok, Bool.false_eq_true, if_false] using h2
    · simp only [whileF, h1, R.thn_ok, if_true]
      cases hb : body e m1 with
      | nx e2 m2 =>
        rw [hb] at h2
        obtain ⟨k', hk, hp'⟩ := h2
        exact whileF_run step fuel k' e2 m2 hp' (by omega)
      | ct e2 m2 =>
        rw [hb] at h2
        obtain ⟨k', hk, hp'⟩ := h2
        exact whileF_run step fuel k' e2 m2 hp' (by omega)
      | bk e2 m2 => rw [hb] at h2; exact h2
      | rt w m2 => rw [hb] at h2; exact h2
      | exc c fs e2 m2 => rw [hb] at h2; exact h2
      | bad => rw [hb] at h2; exact h2
theorem while_most : whileMost = 1000000000 := rfl
/-- a loop over a list in the heap that its body leaves as it is; the body carries a state -/
theorem forP_fold {α S : Type} {asg : D → Env → Option Env} {body : Env → MH → RS} {f : α → D} {nxt : S → α → S} {Pe : S → Env → MH → Prop} {p : Nat} {xs : List α} (hP : ∀ s e m, Pe s e m → m[p]? = some (.lst (xs.map f))) : ∀ (n i : Nat) (s : S) (e : Env) (m : MH), i + n = xs.length →
    (∀ a ∈ xs, ∀ s e m, Pe s e m → ∃ e1 e2 m2, asg (f a) e = some e1 ∧ body e1 m = .nx e2 m2 ∧ Pe (nxt s a) e2 m2) → Pe s e m → ∃ e' m', forP asg body p n i e m = .nx e' m' ∧ Pe ((xs.drop i).foldl nxt s) e' m'
  | 0, i, s, e, m, hi, _, h => by
    refine ⟨e, m, by simp only [forP, hP s e m h, if_pos (show (xs.map f).length ≤ i by rw [List.length_map]; omega)], ?_⟩
    rw [List.drop_eq_nil_of_le (by omega)]
    exact h
  | n + 1, i, s, e, m, hi, st, h => by
    have hl : i < xs.length := by omega
    obtain ⟨e1, e2, m2, h1, h2, h3⟩ := st xs[i] (List.getElem_mem _) s e m h
    obtain ⟨e', m', h4, h5⟩ := forP_fold hP n (i + 1) (nxt s xs[i]) e2 m2 (by omega) st h3
    refine ⟨e', m', ?_, ?_⟩
    · simp only [forP, hP s e m h, List.getElem?_map, List.getElem?_eq_getElem hl, Option.map_some, h1, h2, h4]
    · rw [List.drop_eq_getElem_cons hl, List.foldl_cons]
      exact h5
/-! ### how many stands there are -/
def box : List Sd := (List.range 3).flatMap fun w : Nat => (List.range 4).flatMap fun u : Nat => (List.range 4).flatMap fun k : Nat => (List.range 4).map fun n : Nat => ⟨(w : Int), (u : Int), (k : Int) - 1, (n : Int) - 1⟩
theorem box_len : box.length = 192 := by decide +kernel
theorem mem_box {h : Hs} {s : Sd} (g : h.ok) (gs : s.ok h) : s ∈ box := by
  have p3 := g.p3
  have t3 := g.t3
  have e3 := g.e3
  have w0 := gs.w0; have w1 := gs.w1; have u0 := gs.u0; have u1 := gs.u1; have k0 := gs.k0; have k1 := gs.k1; have n0 := gs.n0; have n1 := gs.n1
  have n2 : s.n ≤ 2 := by split at n1 <;> omega
  simp only [box, List.mem_flatMap, List.mem_range, List.mem_map]
  refine ⟨s.w.toNat, by omega, s.u.toNat, by omega, (s.k + 1).toNat, by omega, (s.n + 1).toNat, by omega, ?_⟩
  cases s
  simp only at *
  congr 1 <;> omega
/-- what may come next -/
def nexts (h : Hs) (s : Sd) : List (Dd × Sd) := (deeds h s).map fun d => (d, (step h s d).1)
theorem nexts_ok {h : Hs} (g : h.ok) (s : Sd) (gs : s.ok h) : ∀ q ∈ nexts h s, q.2.ok h := by
  intro q hq
  obtain ⟨d, hd, rfl⟩ := List.mem_map.mp hq
  exact step_ok g gs hd
theorem reach_ok {h : Hs} (g : h.ok) {a s : Sd} (ga : a.ok h) {c : List Dd} (p : Path (nexts h) a c s) : s.ok h := p.keep (P := fun s => s.ok h) ga (nexts_ok g)
theorem table_len {h : Hs} (g : h.ok) {a : Sd} (ga : a.ok h) {F : List (Sd × List Dd)} (nd : (F.map (·.1)).Nodup) (hp : ∀ p ∈ F, Path (nexts h) a p.2 p.1) : F.length ≤ 192 := by
  have := nodup_len (F.map (·.1)) box nd fun x hx => by
    obtain ⟨p, hp', rfl⟩ := List.mem_map.mp hx
    exact mem_box g (reach_ok g ga (hp p hp'))
  rw [box_len, List.length_map] at this
  exact this
theorem path_way {h : Hs} {a s : Sd} {c : List Dd} (p : Path (nexts h) a c s) : isWay h a c ∧ follow h a c = s := by
  induction p with
  | nil => exact ⟨trivial, rfl⟩
  | snoc _ m ih =>
    obtain ⟨d, hd, e⟩ := List.mem_map.mp m
    cases e
    obtain ⟨h1, h2⟩ := ih
    rw [isWay_app, follow_app, h2]
    exact ⟨⟨h1, hd, trivial⟩, rfl⟩
end Sim
set_option maxHeartbeats 4000000
namespace Sim
open PySem L2
/-! ### loops told by the number of turns -/
section
variable {asg : D → Env → Option Env} {body : Env → MH → RS} {ds : List D}
theorem forV_from {P : Nat → Env → MH → Prop} (step : ∀ j d e m, ds[j]? = some d → P j e m → ∃ e1 e2 m2, asg d e = some e1 ∧ body e1 m = .nx e2 m2 ∧ P (j + 1) e2 m2) : ∀ (n j : Nat) (e : Env) (m : MH), j + n = ds.length → P j e m → ∃ e' m', forV asg body (ds.drop j) e m = .nx e' m' ∧ P ds.length e' m'
  | 0, j, e, m, hj, h => ⟨e, m, by rw [List.drop_eq_nil_of_le (by omega)]; rfl, by rw [← hj]; exact h⟩
  | n + 1, j, e, m, hj, h => by
    have hl : j < ds.length := by omega
    obtain ⟨e1, e2, m2, h1, h2, h3⟩ := step j ds[j] e m (List.getElem?_eq_getElem hl) h
    obtain ⟨e', m', h4, h5⟩ := forV_from step n (j + 1) e2 m2 (by omega) h3
    refine ⟨e', m', ?_, h5⟩
    rw [List.drop_eq_getElem_cons hl, forV_cons h1 h2, h4]
theorem forV_walk {P : Nat → Env → MH → Prop} {e : Env} {m : MH} (step : ∀ j d e m, ds[j]? = some d → P j e m → ∃ e1 e2 m2, asg d e = some e1 ∧ body e1 m = .nx e2 m2 ∧ P (j + 1) e2 m2) (h : P 0 e m) : ∃ e' m', forV asg body ds e m = .nx e' m' ∧ P ds.length e' m' :=
  forV_from (ds := ds) step ds.length 0 e m (by omega) h
theorem forP_from {P : Nat → Env → MH → Prop} {p : Nat} (hP : ∀ j e m, P j e m → m[p]? = some (.lst ds)) (step : ∀ j d e m, ds[j]? = some d → P j e m → ∃ e1 e2 m2, asg d e = some e1 ∧ body e1 m = .nx e2 m2 ∧ P (j + 1) e2 m2) : ∀ (n j : Nat) (e : Env) (m : MH), j + n = ds.length → P j e m → ∃ e' m', forP asg body p n j e m = .nx e' m' ∧ P ds.length e' m'
  | 0, j, e, m, hj, h => ⟨e, m, by simp only [forP, hP j e m h, if_pos (show ds.length ≤ j by omega)], by rw [← hj]; exact h⟩
  | n + 1, j, e, m, hj, h => by
    have hl : j < ds.length := by omega
    obtain ⟨e1, e2, m2, h1, h2, h3⟩ := step j ds[j] e m (List.getElem?_eq_getElem hl) h
    obtain ⟨e', m', h4, h5⟩ := forP_from hP step n (j + 1) e2 m2 (by omega) h3
    refine ⟨e', m', ?_, h5⟩
    simp only [forP, hP j e m h, List.getElem?_eq_getElem hl, h1, h2, h4]
theorem forP_walk {P : Nat → Env → MH → Prop} {p : Nat} {e : Env} {m : MH} (hP : ∀ j e m, P j e m → m[p]? = some (.lst ds)) (step : ∀ j d e m, ds[j]? = some d → P j e m → ∃ e1 e2 m2, asg d e = some e1 ∧ body e1 m = .nx e2 m2 ∧ P (j + 1) e2 m2) (h : P 0 e m) : ∃ e' m', forP asg body p ds.length 0 e m = .nx e' m' ∧ P ds.length e' m' :=
  forP_from hP step ds.length 0 e m (by omega) h
end
theorem cmpW_rd {op : COp} {x x' y : W} {m : MH} (h : rd m x = rd m x') : cmpW op x y m = cmpW op x' y m := by simp only [cmpW, h]
/-! ### a dict on the heap, things behind it -/
def Cs.D (c : List Dd) : D := .tuple (c.map Dd.D)
theorem encCs : Enc Cs.D 2 := encDd.tuple
def hp (kvs : List (D × D)) (m R : MH) : MH := m ++ .dct kvs :: R
section
variable {m R : MH} {kvs kvs' : List (D × D)} {ds ds' : List D}
theorem hp_dct : (hp kvs m R)[m.length]? = some (.dct kvs) := by simp [hp]
theorem hp_rd : rd (hp kvs m R) (.r m.length) = some (.dict kvs) := rd_dct hp_dct
theorem hp_set : (hp kvs m R).set m.length (.dct kvs') = hp kvs' m R := by simp [hp]
theorem hp_len : (hp kvs m R).length = m.length + 1 + R.length := by simp [hp]; omega
theorem hp_new {o : MO} : hp kvs m R ++ [o] = hp kvs m (R ++ [o]) := by simp [hp]
theorem hp_at {i : Nat} : (hp kvs m R)[m.length + 1 + i]? = R[i]? := by
  unfold hp
  rw [List.getElem?_append_right (by omega), show m.length + 1 + i - m.length = i + 1 by omega, List.getElem?_cons_succ]
theorem hp_seti {i : Nat} {o : MO} : (hp kvs m R).set (m.length + 1 + i) o = hp kvs m (R.set i o) := by
  unfold hp
  rw [List.set_append_right _ _ (by omega), show m.length + 1 + i - m.length = i + 1 by omega, List.set_cons_succ]
theorem hp_top : (hp kvs m (R ++ [.lst ds]))[m.length + 1 + R.length]? = some (.lst ds) := by rw [hp_at]; simp
theorem hp_sett : (hp kvs m (R ++ [.lst ds])).set (m.length + 1 + R.length) (.lst ds') = hp kvs m (R ++ [.lst ds']) := by rw [hp_seti]; simp
theorem hp_app {d : D} (h : ds.length < sizeLine) : mAppend (.r (m.length + 1 + R.length)) [.d d] (hp kvs m (R ++ [.lst ds])) = .ok (.d .none) (hp kvs m (R ++ [.lst (ds ++ [d])])) := by
  simp only [mAppend, hp_top, if_pos h, hp_sett]
theorem hp_pre : preMeth "append" (.r (m.length + 1 + R.length)) (hp kvs m (R ++ [.lst ds])) = true := by simp [preMeth, hp_top]
theorem hp_take : (hp kvs m R).take m.length = m := by simp [hp]
end
end Sim
set_option maxHeartbeats 4000000
namespace Sim
open PySem L2
/-! ### the table of all stands that come about -/
abbrev Tab := List (Sd × List Dd)
@[irreducible] def tab (h : Hs) (s : Sd) : Tab := itr (nexts h) 200 0 [(s, [])]
section
variable {h : Hs} {s : Sd}
theorem tab_of (g : h.ok) (gs : s.ok h) {F : Tab} (d : Done (nexts h) s F) (r : Reach (nexts h) s F) : F = tab h s := by
  obtain ⟨n, e, l⟩ := d
  have hl : F.length ≤ 192 := table_len g gs r.nd r.path
  unfold tab
  rw [show 200 = n + (200 - n) by omega, itr_add, ← e, itr_stay _ _ _ _ (by omega)]
theorem itr_one (n : Nat) : 1 ≤ (itr (nexts h) n 0 [(s, [])]).length := by
  obtain ⟨G, e⟩ := itr_pre (nexts h) n 0 [(s, [])]
  rw [e]
  simp
theorem done_ex (g : h.ok) (gs : s.ok h) : ∃ F, Done (nexts h) s F ∧ Reach (nexts h) s F := by
  have key : ∀ n, (∀ k, k < n → k < (itr (nexts h) k 0 [(s, [])]).length) → Inv0 (nexts h) s n (itr (nexts h) n 0 [(s, [])]) := fun n hn => by
    have := Inv0.itr (nb := nexts h) (a := s) n 0 [(s, [])] (Inv0.start s) (by simpa using hn)
    simpa using this
  have step : ∀ n, (∃ k, k ≤ n ∧ (itr (nexts h) k 0 [(s, [])]).length ≤ k ∧ ∀ j, j < k → j < (itr (nexts h) j 0 [(s, [])]).length) ∨ ∀ k, k ≤ n → k < (itr (nexts h) k 0 [(s, [])]).length := by
    intro n
    induction n with
    | zero => exact .inr fun k hk => by have := itr_one (h := h) (s := s) k; omega
    | succ n ih =>
      rcases ih with ⟨k, h1, h2, h3⟩ | ih
      · exact .inl ⟨k, by omega, h2, h3⟩
      · by_cases hn : (itr (nexts h) (n + 1) 0 [(s, [])]).length ≤ n + 1
        · exact .inl ⟨n + 1, Nat.le_refl _, hn, fun j hj => ih j (by omega)⟩
        · refine .inr fun k hk => ?_
          by_cases hk' : k ≤ n
          · exact ih k hk'
          · have : k = n + 1 := by omega
            subst this
            omega
  rcases step 193 with ⟨k, _, h2, h3⟩ | hh
  · have iv := key k h3
    refine ⟨_, ⟨k, rfl, ?_⟩, iv.reach h2⟩
    cases k with
    | zero => have := itr_one (h := h) (s := s) 0; omega
    | succ k =>
      have h4 := h3 k (Nat.lt_succ_self k)
      obtain ⟨G, e⟩ := bst_pre (nexts h) (0 + k) (itr (nexts h) k 0 [(s, [])])
      have : (itr (nexts h) (k + 1) 0 [(s, [])]).length = (itr (nexts h) k 0 [(s, [])]).length + G.length := by rw [itr_succ, e, List.length_append]
      omega
  · have iv := key 193 fun k hk => hh k (by omega)
    have l1 := table_len g gs iv.nd iv.path
    have l2 := hh 193 (Nat.le_refl _)
    omega
theorem tab_reach (g : h.ok) (gs : s.ok h) : Reach (nexts h) s (tab h s) := by
  obtain ⟨F, d, r⟩ := done_ex g gs
  rw [← tab_of g gs d r]
  exact r
theorem tab_len (g : h.ok) (gs : s.ok h) : (tab h s).length ≤ 192 := table_len g gs (tab_reach g gs).nd (tab_reach g gs).path
theorem tab_ok (g : h.ok) (gs : s.ok h) {t : Sd} {c : List Dd} (ht : (t, c) ∈ tab h s) : t.ok h := reach_ok g gs ((tab_reach g gs).path _ ht)
theorem tab_way (g : h.ok) (gs : s.ok h) {t : Sd} {c : List Dd} (ht : (t, c) ∈ tab h s) : isWay h s c ∧ follow h s c = t := path_way ((tab_reach g gs).path _ ht)
theorem tab_row (g : h.ok) (gs : s.ok h) {t : Sd} {c : List Dd} (ht : (t, c) ∈ tab h s) : c.length ≤ 192 := by
  obtain ⟨j, hj, e⟩ := List.mem_iff_getElem.mp ht
  have := (tab_reach g gs).ix j _ (by rw [List.getElem?_eq_getElem hj, e])
  have := tab_len g gs
  simp only at *
  omega
theorem way_path : ∀ (c : List Dd) (s : Sd), isWay h s c → ∀ {b : List Dd} {a : Sd}, Path (nexts h) a b s → Path (nexts h) a (b ++ c) (follow h s c)
  | [], s, _, b, a, p => by simpa [follow] using p
  | d :: c, s, ⟨h1, h2⟩, b, a, p => by
    have := way_path c _ h2 (p.snoc (List.mem_map.mpr ⟨d, h1, rfl⟩))
    rw [List.append_assoc] at this
    simpa [follow] using this
end
/-- a right stand -/
def upr (h : Hs) (s : Sd) : Bool := decide (0 < s.u ∧ s.k = -1 ∧ s.w ∉ h.f ∧ (s.n = -1 ∨ s.n = s.w))
/-- the first row at whose stand all is right -/
def heal (h : Hs) (s : Sd) : Option (List Dd) := ((tab h s).find? fun p => upr h p.1).map (·.2)
end Sim
set_option maxHeartbeats 4000000
namespace Sim
open PySem L2
/-! ### keys without values -/
section
variable {α : Type} [DecidableEq α]
def ins (l : List α) (a : α) : List α := if a ∈ l then l else l ++ [a]
theorem ins_nodup {l : List α} (h : l.Nodup) (a : α) : (ins l a).Nodup := by
  unfold ins
  split
  · exact h
  · rename_i n
    rw [List.nodup_append]
    refine ⟨h, by simp, fun x hx y hy => ?_⟩
    rw [List.mem_singleton.mp hy]
    exact fun e => n (e ▸ hx)
theorem mem_ins_ {l : List α} {a x : α} : x ∈ ins l a ↔ x ∈ l ∨ x = a := by
  unfold ins
  split
  · rename_i h
    exact ⟨.inl, fun q => q.elim id fun e => e ▸ h⟩
  · simp
theorem insAll_nodup : ∀ (xs : List α) {l : List α}, l.Nodup → (xs.foldl ins l).Nodup
  | [], l, h => h
  | x :: xs, l, h => insAll_nodup xs (ins_nodup h x)
theorem mem_insAll : ∀ (xs : List α) {l : List α} {x : α}, x ∈ xs.foldl ins l ↔ x ∈ l ∨ x ∈ xs
  | [], l, x => by simp
  | y :: xs, l, x => by rw [List.foldl_cons, mem_insAll xs, mem_ins_, List.mem_cons, or_assoc]
end
/-- a dict of keys that are there -/
def tk (l : List Sd) : List (D × D) := kvsOf Sd.D PyData.bool (l.map fun s => (s, true))
theorem has_tk {l : List Sd} {s : Sd} : hasK (l.map fun s => (s, true)) s = decide (s ∈ l) := by
  rw [Bool.eq_iff_iff, hasK_iff, List.map_map]
  simp
theorem put_tk (l : List Sd) (s : Sd) : put_ (l.map fun s => (s, true)) s true = (ins l s).map fun s => (s, true) := by
  unfold put_ ins
  rw [has_tk]
  by_cases h : s ∈ l
  · simp only [h, decide_true, if_true, List.map_map]
    refine List.map_congr_left fun x _ => ?_
    simp only [Function.comp]
    split
    · rename_i e; rw [e]
    · rfl
  · simp [h]
theorem tk_keys (l : List Sd) : (tk l).map (·.1) = l.map Sd.D := by
  simp [tk, kvsOf]
/-- all stands to which courses from some stands lead -/
def spr (h : Hs) (ss : List Sd) : List Sd := ss.foldl (fun l s => if s ∈ l then l else ((tab h s).map (·.1)).foldl ins l) []
def spr1 (h : Hs) (l : List Sd) (s : Sd) : List Sd := if s ∈ l then l else ((tab h s).map (·.1)).foldl ins l
theorem spr_eq (h : Hs) (ss : List Sd) : spr h ss = ss.foldl (spr1 h) [] := rfl
structure Clo (h : Hs) (l : List Sd) : Prop where
  nd : l.Nodup
  ok : ∀ s ∈ l, s.ok h
  clo : ∀ s ∈ l, ∀ d ∈ deeds h s, (step h s d).1 ∈ l
theorem Clo.len {h : Hs} (g : h.ok) {l : List Sd} (c : Clo h l) : l.length ≤ 192 := by
  rw [← box_len]
  exact nodup_len l box c.nd fun s hs => mem_box g (c.ok s hs)
theorem Clo.nil (h : Hs) : Clo h [] := ⟨List.nodup_nil, (fun s hs => nomatch hs), (fun s hs => nomatch hs)⟩
theorem tab_mem {h : Hs} {s t : Sd} {c : List Dd} (ht : (t, c) ∈ tab h s) : t ∈ (tab h s).map (·.1) := List.mem_map.mpr ⟨_, ht, rfl⟩
theorem spr1_ok {h : Hs} (g : h.ok) {l : List Sd} (c : Clo h l) {s : Sd} (gs : s.ok h) : Clo h (spr1 h l s) ∧ s ∈ spr1 h l s ∧ ∀ x ∈ l, x ∈ spr1 h l s := by
  unfold spr1
  split
  · rename_i m; exact ⟨c, m, fun x hx => hx⟩
  · have r := tab_reach g gs
    refine ⟨⟨insAll_nodup _ c.nd, fun x hx => ?_, fun x hx d hd => ?_⟩, ?_, fun x hx => mem_insAll _ |>.mpr (.inl hx)⟩
    · rcases (mem_insAll _).mp hx with hx | hx
      · exact c.ok x hx
      · obtain ⟨p, hp, rfl⟩ := List.mem_map.mp hx
        exact tab_ok g gs hp
    · rcases (mem_insAll _).mp hx with hx | hx
      · exact (mem_insAll _).mpr (.inl (c.clo x hx d hd))
      · obtain ⟨p, hp, rfl⟩ := List.mem_map.mp hx
        have := r.clo p hp (d, (step h p.1 d).1) (List.mem_map.mpr ⟨d, hd, rfl⟩)
        rw [hasK_iff] at this
        exact (mem_insAll _).mpr (.inr this)
    · have := List.mem_of_getElem? r.first
      exact (mem_insAll _).mpr (.inr (tab_mem this))
theorem sprF_ok {h : Hs} (g : h.ok) : ∀ (ss l : List Sd), Clo h l → (∀ s ∈ ss, s.ok h) → Clo h (ss.foldl (spr1 h) l) ∧ (∀ s ∈ ss, s ∈ ss.foldl (spr1 h) l) ∧ ∀ x ∈ l, x ∈ ss.foldl (spr1 h) l
  | [], l, c, _ => ⟨c, (fun s hs => nomatch hs), fun x hx => hx⟩
  | s :: ss, l, c, gs => by
    obtain ⟨c1, m1, k1⟩ := spr1_ok g c (gs s List.mem_cons_self)
    obtain ⟨c2, m2, k2⟩ := sprF_ok g ss _ c1 fun x hx => gs x (List.mem_cons_of_mem _ hx)
    refine ⟨c2, fun x hx => ?_, fun x hx => k2 x (k1 x hx)⟩
    rcases List.mem_cons.mp hx with rfl | hx
    · exact k2 _ m1
    · exact m2 x hx
theorem spr_ok {h : Hs} (g : h.ok) {ss : List Sd} (gs : ∀ s ∈ ss, s.ok h) : Clo h (spr h ss) ∧ ∀ s ∈ ss, s ∈ spr h ss := by
  obtain ⟨a, b, _⟩ := sprF_ok g ss [] (Clo.nil h) gs
  exact ⟨a, b⟩
/-- what somebody did and saw -/
structure Sight where
  pl : Int
  fg : Bool
  ws : Wds
  deriving DecidableEq
def Sight.D (r : Sight) : D := .tuple [.int r.pl, .bool r.fg, Wds.D r.ws]
def bhd (h : Hs) (i : Nat) (r : Sight) (ss : List Sd) : List Sd := ss.flatMap fun s => if Dd.go i r.pl r.fg ∈ deeds h s ∧ (step h s (.go i r.pl r.fg)).2 = r.ws then [(step h s (.go i r.pl r.fg)).1] else []
def knw1 (h : Hs) (i : Nat) (ss : List Sd) (r : Sight) : List Sd := spr h (bhd h i r ss)
def knw (h : Hs) (i : Nat) (rs : List Sight) : List Sd := rs.foldl (knw1 h i) (spr h [begin_ h])
theorem bhd_ok {h : Hs} (g : h.ok) {i : Nat} {r : Sight} {ss : List Sd} (gs : ∀ s ∈ ss, s.ok h) : ∀ s ∈ bhd h i r ss, s.ok h := by
  intro s hs
  obtain ⟨t, ht, h1⟩ := List.mem_flatMap.mp hs
  split at h1
  · rename_i q
    rw [List.mem_singleton.mp h1]
    exact step_ok g (gs t ht) q.1
  · cases h1
theorem knw_ok {h : Hs} (g : h.ok) (i : Nat) : ∀ (rs : List Sight) (ss : List Sd), Clo h ss → Clo h (rs.foldl (knw1 h i) ss)
  | [], ss, c => c
  | r :: rs, ss, c => knw_ok g i rs _ (spr_ok g (bhd_ok g c.ok)).1
theorem knw_clo {h : Hs} (g : h.ok) (i : Nat) (rs : List Sight) : Clo h (knw h i rs) :=
  knw_ok g i rs _ (spr_ok g fun s hs => by rw [List.mem_singleton.mp hs]; exact begin_ok g).1
theorem knw_snoc (h : Hs) (i : Nat) (rs : List Sight) (r : Sight) : knw h i (rs ++ [r]) = spr h (bhd h i r (knw h i rs)) := by
  unfold knw
  rw [List.foldl_append]
  rfl
theorem knw_begin {h : Hs} (g : h.ok) (i : Nat) : begin_ h ∈ knw h i [] := (spr_ok g fun s hs => by rw [List.mem_singleton.mp hs]; exact begin_ok g).2 _ List.mem_cons_self
theorem knw_deed {h : Hs} (g : h.ok) (i : Nat) (rs : List Sight) {s : Sd} (hs : s ∈ knw h i rs) {d : Dd} (hd : d ∈ deeds h s) : (step h s d).1 ∈ knw h i rs := (knw_clo g i rs).clo s hs d hd
theorem knw_own {h : Hs} (g : h.ok) (i : Nat) (rs : List Sight) {s : Sd} (hs : s ∈ knw h i rs) {pl : Int} {fg : Bool} (hd : Dd.go i pl fg ∈ deeds h s) : (step h s (.go i pl fg)).1 ∈ knw h i (rs ++ [⟨pl, fg, (step h s (.go i pl fg)).2⟩]) := by
  rw [knw_snoc]
  refine (spr_ok g (bhd_ok g (knw_clo g i rs).ok)).2 _ (List.mem_flatMap.mpr ⟨s, hs, ?_⟩)
  rw [if_pos ⟨hd, rfl⟩]
  exact List.mem_singleton.mpr rfl
/-! ### a loop over a name's list -/
theorem for_var {C : CallS} {G : Str → Option D} {X : Str → Str → Bool} {w : W} {ds : List D} {i : Nat} {tg : List Nat} {tt : Bool} {b : SSs} {P : Nat → Env → MH → Prop} {e : Env} {m : MH} (he : e[i]? = some (some w))
    (hw : w = .d (.list ds) ∨ ∃ p, w = .r p ∧ ∀ j e m, P j e m → m[p]? = some (.lst ds)) (step : ∀ j d e m, ds[j]? = some d → P j e m → ∃ e1 e2 m2, asgTg tg tt d e = some e1 ∧ evSs C G X b e1 m = .nx e2 m2 ∧ P (j + 1) e2 m2) (h : P 0 e m) :
    ∃ e' m', evS C G X (.for_ tg tt (.val (.var i)) b) e m = .nx e' m' ∧ P ds.length e' m' := by
  rcases hw with rfl | ⟨p, rfl, hp⟩
  · obtain ⟨e', m', e1, q⟩ := forV_walk (asg := asgTg tg tt) (body := evSs C G X b) (ds := ds) step h
    exact ⟨e', m', by simp only [evS_9, evI_1, evE_1, he, R.bind_ok, src_l, R.thn_ok, e1], q⟩
  · obtain ⟨e', m', e1, q⟩ := forP_walk (asg := asgTg tg tt) (body := evSs C G X b) (ds := ds) (p := p) hp step h
    have sr : srcOf (.r p) m = some (.dyn p) := by simp only [srcOf, hp 0 e m h]
    exact ⟨e', m', by simp only [evS_9, evI_1, evE_1, he, R.bind_ok, sr, R.thn_ok, lenAt_of (hp 0 e m h), e1], q⟩
/-! words -/
theorem eqv_wds {a b : Wds} (ha : ∀ x ∈ a, x ∈ okStrs) (hb : ∀ x ∈ b, x ∈ okStrs) : PyData.eqv (Wds.D a) (Wds.D b) = decide (a = b) := by
  rw [Bool.eq_iff_iff, eqv_norm _ _ (layWds ha).lay (layWds hb).lay]
  simp only [Wds.D, norm, norms_map, PyData.tuple.injEq, List.map_map, decide_eq_true_eq]
  refine ⟨fun e => ?_, fun e => by rw [e]⟩
  exact (List.map_inj_right (f := norm ∘ PyData.str) (fun x y h => by simpa [norm] using h)).mp e
theorem ceq_wds {a b : Wds} {m : MH} (ha : ∀ x ∈ a, x ∈ okStrs) (hb : ∀ x ∈ b, x ∈ okStrs) : cmpW .eq (.d (Wds.D a)) (.d (Wds.D b)) m = .ok (decide (a = b)) m := by
  rw [cmp_eq_lay ((layWds ha).mono (by omega)) ((layWds hb).mono (by omega)), eqv_wds ha hb]
/-! stands, sorted -/
theorem alike_sd (s t : Sd) : PySem.W.alike s.D t.D = true := by
  simp [Sd.D, PySem.W.alike, PySem.W.alikeAll]
theorem sortOk_sd (l : List Sd) : sortOk (l.map Sd.D) = true := by
  simp only [sortOk, Bool.and_eq_true, List.all_map, List.all_eq_true, Function.comp, Bool.or_eq_true]
  refine ⟨⟨fun s _ => ?_, .inl fun s _ => rfl⟩, fun s _ => ?_⟩
  · exact fun t _ => alike_sd s t
  · have := encSd.lay s
    exact ⟨by have := this.dep; simp; omega, this.lay⟩
theorem sorted_sd (l : List Sd) (m : MH) : bSorted false [.d (.list (l.map Sd.D))] m = .ok (.d (.list (sortD (l.map Sd.D)))) m := by
  simp only [bSorted, sortOk_sd, if_true, newL_f]
theorem mem_sortD {d : D} {ds : List D} : d ∈ sortD ds ↔ d ∈ ds := by unfold sortD; exact List.mem_mergeSort
theorem len_sortD (ds : List D) : (sortD ds).length = ds.length := by unfold sortD; exact List.length_mergeSort _
theorem lay_sortD (l : List Sd) : Lay 2 (.list (sortD (l.map Sd.D))) := .list fun d hd => by
  obtain ⟨s, _, rfl⟩ := List.mem_map.mp (mem_sortD.mp hd)
  exact encSd.lay s
end Sim
set_option maxHeartbeats 4000000
namespace Sim
open PySem L2
def words7 : List Str := ["drives", "empty", "fills", "hangs", "keyless", "missed", "writes"]
theorem goes_w7 (h : Hs) (s : Sd) (a : Hab) (i : Nat) (pl : Int) (fg : Bool) : ∀ x ∈ (goes h s a i pl fg).2, x ∈ words7 := by
  intro x hx
  simp only [goes, List.mem_cons, List.mem_append] at hx
  rcases hx with rfl | hx | hx | hx
  · simp [words7]
  all_goals rw [opt_mem hx]; simp [words7]
theorem drv_w7 (h : Hs) (s : Sd) (a : Hab) (i : Nat) (pl : Int) (fg : Bool) : ∀ x ∈ (drv h s a i pl fg).2, x ∈ words7 := by
  unfold drv
  split
  · simp [words7]
  split
  · simp [words7]
  split
  · exact goes_w7 _ _ _ _ _ _
  split
  · simp [words7]
  · intro x hx
    simp only [List.mem_cons] at hx
    rcases hx with rfl | rfl | hx
    · simp [words7]
    · simp [words7]
    · exact goes_w7 _ _ _ _ _ _ x hx
theorem drv_pos (h : Hs) (s : Sd) (a : Hab) (i : Nat) (pl : Int) (fg : Bool) : 1 ≤ (drv h s a i pl fg).2.length := by
  unfold drv
  split
  · simp
  split
  · simp
  split
  · simp [goes]
  split
  · simp
  · simp
theorem go_step {h : Hs} {s : Sd} {i : Nat} {pl : Int} {fg : Bool} (hi : i < h.pe.length) : step h s (.go i pl fg) = drv h s h.pe[i] i pl fg := by
  simp only [step, List.getElem?_eq_getElem hi]
/-! places -/
def plc (h : Hs) (note : Int) : List Int := (((tab h (begin_ h)).map (·.1)).filter fun s => decide (s.n = note)).map (·.w)
theorem plc_len {h : Hs} (g : h.ok) {note : Int} (h0 : -1 ≤ note) (h1 : note ≤ h.p - 1) : (plc h note).length < 60 := by
  have p3 := g.p3
  have r := tab_reach g (begin_ok g)
  have nd : (((tab h (begin_ h)).map (·.1)).filter fun s : Sd => decide (s.n = note)).Nodup := List.Pairwise.filter _ r.nd
  have l := nodup_len (((tab h (begin_ h)).map (·.1)).filter fun s : Sd => decide (s.n = note)) (box.filter fun s => decide (s.n = note)) nd fun s hs => by
    obtain ⟨h1, h2⟩ := List.mem_filter.mp hs
    obtain ⟨p, hp, rfl⟩ := List.mem_map.mp h1
    exact List.mem_filter.mpr ⟨mem_box g (tab_ok g (begin_ok g) hp), h2⟩
  have b : ∀ j : Fin 4, (box.filter fun s => decide (s.n = (j.val : Int) - 1)).length ≤ 48 := by decide +kernel
  have := b ⟨(note + 1).toNat, by omega⟩
  simp only [show (((note + 1).toNat : Nat) : Int) - 1 = note by omega] at this
  unfold plc
  rw [List.length_map]
  omega
theorem cut_take (ds : List D) (n : Nat) : cutL ds none (some (n : Int)) = ds.take n := by
  unfold cutL
  rw [HT.sIx_nat, HT.sIx_none]
  simp only [List.drop_zero, Nat.sub_zero]
  by_cases h : n ≤ ds.length
  · rw [Nat.min_eq_left h]
  · rw [Nat.min_eq_right (by omega), List.take_of_length_le (by omega), List.take_of_length_le (by omega)]
theorem compV_typed {α : Type} {f : D → MH → R (Option D)} {m : MH} {E : α → D} {g : α → Option D} : ∀ (xs : List α) (acc : List D), (∀ a ∈ xs, f (E a) m = .ok (g a) m) → compV f (xs.map E) acc m = .ok (acc ++ xs.filterMap g) m
  | [], acc, _ => by simp [compV]
  | a :: xs, acc, h => by
    simp only [List.map_cons, compV, h a List.mem_cons_self, R.bind_ok]
    rw [compV_typed xs _ fun x hx => h x (List.mem_cons_of_mem _ hx)]
    cases hg : g a <;> simp [hg]
theorem plc_comp (note : Int) : ∀ l : List Sd, l.filterMap (fun s => if s.n = note then some (PyData.int s.w) else none) = ((l.filter fun s => decide (s.n = note)).map (·.w)).map PyData.int
  | [] => rfl
  | s :: l => by
    by_cases e : s.n = note
    · simp only [List.filterMap_cons, List.filter_cons, if_pos e, decide_eq_true e, if_true, List.map_cons, plc_comp note l]
    · simp only [List.filterMap_cons, List.filter_cons, if_neg e, decide_eq_false e, Bool.false_eq_true, if_false, plc_comp note l]
theorem ss_ints {mu : Bool} {ns : List Int} {m : MH} (h : ns.length < 60) : bSortedSet mu [.d (.list (ns.map PyData.int))] m = newL mu ((upInts ns).map .int) m := by
  simp only [bSortedSet, ints_map, if_pos h]
end Sim
set_option maxHeartbeats 4000000
namespace Sim
open PySem L2
/-! ### tables with a value changed -/
section
variable {α β : Type} [DecidableEq α]
theorem put_keys {F : List (α × β)} {a : α} {b : β} (h : hasK F a = true) : (put_ F a b).map (·.1) = F.map (·.1) := by
  unfold put_
  rw [if_pos h, List.map_map]
  refine List.map_congr_left fun p _ => ?_
  simp only [Function.comp]
  split <;> rfl
theorem lk_map_put (a : α) (b : β) (x : α) : ∀ F : List (α × β), lk (F.map fun p => if p.1 = a then (p.1, b) else p) x = if x = a then (lk F x).map (fun _ => b) else lk F x
  | [] => by simp [lk_nil]
  | p :: F => by
    rw [List.map_cons, lk_cons, lk_cons, lk_map_put a b x F]
    by_cases h1 : p.1 = a
    · rw [if_pos h1]
      by_cases h2 : x = a
      · subst h2
        simp [h1]
      · have h3 : ¬ p.1 = x := fun z => h2 (z.symm.trans h1)
        simp [h2, h3]
    · rw [if_neg h1]
      by_cases h2 : p.1 = x
      · have h3 : ¬ x = a := fun z => h1 (h2.trans z)
        simp [h2, h3]
      · simp [h2]
theorem lk_put {F : List (α × β)} {a : α} {b : β} (h : hasK F a = true) (x : α) : lk (put_ F a b) x = if x = a then some b else lk F x := by
  unfold put_
  rw [if_pos h, lk_map_put]
  by_cases e : x = a
  · subst e
    unfold hasK at h
    obtain ⟨c, hc⟩ := Option.isSome_iff_exists.mp h
    simp [hc]
  · simp [e]
end
/-! ### a graph of drives -/
section
variable {α : Type} [DecidableEq α]
/-- a walk, and how many drives it has -/
inductive Wk (E : α → List (α × Bool)) : α → Nat → α → Prop
  | nil {s : α} : Wk E s 0 s
  | cons {s t u : α} {b : Bool} {n : Nat} : (t, b) ∈ E s → Wk E t n u → Wk E s (n + b.toNat) u
structure Gr (V : List α) (E : α → List (α × Bool)) : Prop where
  nd : V.Nodup
  cl : ∀ s ∈ V, ∀ e ∈ E s, e.1 ∈ V
variable {V : List α} {E : α → List (α × Bool)}
def NoRing (V : List α) (E : α → List (α × Bool)) : Prop := ∀ s ∈ V, ∀ t, (t, true) ∈ E s → ∀ n, ¬ Wk E t n s
theorem Wk.app {s t u : α} {n k : Nat} (h : Wk E s n t) (g : Wk E t k u) : Wk E s (n + k) u := by
  induction h with
  | nil => simpa using g
  | @cons s t u b n m _ ih =>
    have := Wk.cons m (ih g)
    rwa [show n + k + b.toNat = n + b.toNat + k by omega] at this
theorem Wk.inV (g : Gr V E) {s u : α} {n : Nat} (h : Wk E s n u) : s ∈ V → u ∈ V := by
  induction h with
  | nil => exact id
  | cons m _ ih => exact fun hs => ih (g.cl _ hs _ m)
/-- without a ring no walk has more drives than there are stands -/
theorem Wk.bound (g : Gr V E) (nr : NoRing V E) {s u : α} {n : Nat} (h : Wk E s n u) (hs : s ∈ V) : n ≤ V.length := by
  have key : ∃ L : List α, L.length = n ∧ L.Nodup ∧ ∀ x ∈ L, x ∈ V ∧ ∃ k, Wk E s k x := by
    induction h with
    | nil => exact ⟨[], rfl, List.nodup_nil, fun x hx => nomatch hx⟩
    | @cons s t u b n m w ih =>
      have ht := g.cl _ hs _ m
      obtain ⟨L, h1, h2, h3⟩ := ih ht
      have more : ∀ x ∈ L, x ∈ V ∧ ∃ k, Wk E s k x := fun x hx => by
        obtain ⟨a, k, c⟩ := h3 x hx
        exact ⟨a, _, .cons m c⟩
      cases b with
      | false => exact ⟨L, by simp [h1], h2, more⟩
      | true =>
        refine ⟨s :: L, by simp [h1], List.nodup_cons.mpr ⟨fun hx => ?_, h2⟩, fun x hx => ?_⟩
        · obtain ⟨_, k, c⟩ := h3 s hx
          exact nr s hs t m k c
        · rcases List.mem_cons.mp hx with rfl | hx
          · exact ⟨hs, 0, .nil⟩
          · exact more x hx
  obtain ⟨L, rfl, h2, h3⟩ := key
  exact nodup_len L V h2 fun x hx => (h3 x hx).1
/-! levels -/
def val (M : List (α × Int)) (s : α) : Int := (lk M s).getD 0
structure Lev (V : List α) (M : List (α × Int)) : Prop where
  keys : M.map (·.1) = V
  pos : ∀ s ∈ V, 0 ≤ val M s
/-- each level is that of a walk -/
def Low (V : List α) (E : α → List (α × Bool)) (M : List (α × Int)) : Prop := ∀ s ∈ V, ∃ n u, Wk E s n u ∧ val M s = (n : Int)
def bi (b : Bool) : Int := if b = true then 1 else 0
def FixM (V : List α) (E : α → List (α × Bool)) (M : List (α × Int)) : Prop := ∀ s ∈ V, ∀ e ∈ E s, val M e.1 + bi e.2 ≤ val M s
theorem bi_nat (b : Bool) : bi b = (b.toNat : Int) := by cases b <;> rfl
theorem Lev.has {M : List (α × Int)} (l : Lev V M) {s : α} (hs : s ∈ V) : hasK M s = true := by rw [hasK_iff, l.keys]; exact hs
theorem val_put {M : List (α × Int)} {s : α} (h : hasK M s = true) (v : Int) (x : α) : val (put_ M s v) x = if x = s then v else val M x := by
  unfold val
  rw [lk_put h]
  split <;> rfl
theorem Lev.put {M : List (α × Int)} (l : Lev V M) {s : α} (hs : s ∈ V) {v : Int} (hv : 0 ≤ v) : Lev V (put_ M s v) where
  keys := by rw [put_keys (l.has hs), l.keys]
  pos := fun x hx => by
    rw [val_put (l.has hs)]
    split
    · exact hv
    · exact l.pos x hx
theorem Low.put {M : List (α × Int)} (l : Lev V M) (lo : Low V E M) {s : α} (hs : s ∈ V) {e : α × Bool} (he : e ∈ E s) (hV : e.1 ∈ V) : Low V E (put_ M s (val M e.1 + bi e.2)) := fun x hx => by
  rw [val_put (l.has hs)]
  split
  · rename_i q
    subst q
    obtain ⟨n, u, w, q⟩ := lo e.1 hV
    exact ⟨_, u, .cons (b := e.2) he w, by rw [q, bi_nat]; simp⟩
  · exact lo x hx
theorem Fix.walk {M : List (α × Int)} (g : Gr V E) (f : FixM V E M) {s u : α} {n : Nat} (w : Wk E s n u) : s ∈ V → (n : Int) + val M u ≤ val M s := by
  induction w with
  | nil => intro _; simp
  | @cons s t u b n m _ ih =>
    intro hs
    have h1 := ih (g.cl _ hs _ m)
    have h2 := f s hs _ m
    simp only [bi_nat] at h2
    omega
theorem Fix.noRing {M : List (α × Int)} (g : Gr V E) (f : FixM V E M) : NoRing V E := fun s hs t m n w => by
  have h1 := Fix.walk g f w (g.cl _ hs _ m)
  have h2 := f s hs _ m
  simp only [bi] at h2
  simp at h2
  omega
theorem lev_ext {M M' : List (α × Int)} (nd : V.Nodup) (l : Lev V M) (l' : Lev V M') (h : ∀ s ∈ V, val M s = val M' s) : M = M' := by
  have key : ∀ (M : List (α × Int)), (M.map (·.1)).Nodup → M = (M.map (·.1)).map fun s => (s, val M s) := by
    intro M hn
    rw [List.map_map]
    conv => lhs; rw [← List.map_id M]
    refine List.map_congr_left fun p hp => ?_
    have : lk M p.1 = some p.2 := lk_of_mem hn hp
    simp only [Function.comp, val, this]
    rfl
  rw [key M (by rw [l.keys]; exact nd), key M' (by rw [l'.keys]; exact nd), l.keys, l'.keys]
  exact List.map_congr_left fun s hs => by rw [h s hs]
theorem fix_unique {M M' : List (α × Int)} (g : Gr V E) (l : Lev V M) (l' : Lev V M') (f : FixM V E M) (f' : FixM V E M') (lo : Low V E M) (lo' : Low V E M') : M = M' := by
  have le : ∀ {M M' : List (α × Int)}, Lev V M' → FixM V E M' → Low V E M → ∀ s ∈ V, val M s ≤ val M' s := by
    intro M M' l' f' lo s hs
    obtain ⟨n, u, w, q⟩ := lo s hs
    have h1 := Fix.walk g f' w hs
    have h2 := l'.pos u (w.inV g hs)
    omega
  exact lev_ext g.nd l l' fun s hs => by
    have := le l' f' lo s hs
    have := le l f lo' s hs
    omega
/-- all levels together -/
def sumM (M : List (α × Int)) : Int := (M.map (·.2)).sum
theorem sum_le : ∀ {l l' : List Int}, l.length = l'.length → (∀ i (h : i < l.length) (h' : i < l'.length), l[i] ≤ l'[i]) → l.sum ≤ l'.sum
  | [], [], _, _ => Int.le_refl _
  | a :: l, b :: l', hl, h => by
    have h1 := h 0 (by simp) (by simp)
    have h2 := sum_le (l := l) (l' := l') (by simpa using hl) fun i a b => h (i + 1) (by simp; omega) (by simp; omega)
    simp at h1 ⊢
    omega
theorem map_val {M : List (α × Int)} (nd : V.Nodup) (l : Lev V M) : M.map (·.2) = V.map (val M) := by
  have hn : (M.map (·.1)).Nodup := by rw [l.keys]; exact nd
  rw [← l.keys, List.map_map]
  refine List.map_congr_left fun p hp => ?_
  have : lk M p.1 = some p.2 := lk_of_mem hn hp
  simp only [Function.comp, val, this]
  rfl
theorem sum_mono : ∀ (V : List α) {f g : α → Int}, (∀ s ∈ V, f s ≤ g s) → (V.map f).sum ≤ (V.map g).sum
  | [], f, g, _ => by simp
  | s :: V, f, g, h => by
    have h1 := h s List.mem_cons_self
    have h2 := sum_mono V fun x hx => h x (List.mem_cons_of_mem _ hx)
    simp only [List.map_cons, List.sum_cons]
    omega
theorem sum_lt : ∀ (V : List α) {f g : α → Int}, (∀ s ∈ V, f s ≤ g s) → (∃ s ∈ V, f s < g s) → (V.map f).sum < (V.map g).sum
  | [], f, g, _, h => by obtain ⟨s, hs, _⟩ := h; cases hs
  | s :: V, f, g, h, ⟨x, hx, hlt⟩ => by
    have h1 := h s List.mem_cons_self
    have h2 := sum_mono V fun x hx => h x (List.mem_cons_of_mem _ hx)
    simp only [List.map_cons, List.sum_cons]
    rcases List.mem_cons.mp hx with rfl | hx
    · omega
    · have := sum_lt V (fun x hx => h x (List.mem_cons_of_mem _ hx)) ⟨x, hx, hlt⟩
      omega
theorem sum_const : ∀ (V : List α) (c : Int), (V.map fun _ => c).sum = V.length * c
  | [], c => by simp
  | s :: V, c => by
    simp only [List.map_cons, List.sum_cons, sum_const V c, List.length_cons, Int.natCast_add, Int.add_mul]
    simp
    omega
theorem sumM_bound {M : List (α × Int)} (g : Gr V E) (nr : NoRing V E) (l : Lev V M) (lo : Low V E M) : 0 ≤ sumM M ∧ sumM M ≤ V.length * V.length := by
  unfold sumM
  rw [map_val g.nd l]
  constructor
  · have := sum_mono V (f := fun _ => 0) (g := val M) l.pos
    rw [sum_const] at this
    simpa using this
  · have := sum_mono V (f := val M) (g := fun _ => (V.length : Int)) fun s hs => by
      obtain ⟨n, u, w, q⟩ := lo s hs
      have := w.bound g nr hs
      omega
    rwa [sum_const] at this
theorem sumM_lt {M M' : List (α × Int)} (g : Gr V E) (l : Lev V M) (l' : Lev V M') (h : ∀ s ∈ V, val M s ≤ val M' s) (ne : M ≠ M') : sumM M < sumM M' := by
  unfold sumM
  rw [map_val g.nd l, map_val g.nd l']
  refine sum_lt V h (Classical.byContradiction fun n => ne (lev_ext g.nd l l' fun s hs => ?_))
  have := h s hs
  have : ¬ val M s < val M' s := fun z => n ⟨s, hs, z⟩
  omega
/-! the law's levels -/
def best (E : α → List (α × Bool)) (M : List (α × Int)) (s : α) : Int := maxI ((E s).map fun e => val M e.1 + bi e.2) (val M s)
theorem maxI_ge : ∀ (l : List Int) (a : Int), a ≤ maxI l a ∧ (∀ x ∈ l, x ≤ maxI l a) ∧ (maxI l a = a ∨ maxI l a ∈ l)
  | [], a => ⟨Int.le_refl _, (fun x hx => nomatch hx), .inl rfl⟩
  | b :: l, a => by
    obtain ⟨h1, h2, h3⟩ := maxI_ge l (if b > a then b else a)
    have hc : a ≤ (if b > a then b else a) ∧ b ≤ (if b > a then b else a) := by split <;> omega
    simp only [maxI]
    refine ⟨Int.le_trans hc.1 h1, fun x hx => ?_, ?_⟩
    · rcases List.mem_cons.mp hx with e | hx
      · rw [e]; exact Int.le_trans hc.2 h1
      · exact h2 x hx
    · rcases h3 with h3 | h3
      · rw [h3]
        split
        · exact .inr List.mem_cons_self
        · exact .inl rfl
      · exact .inr (List.mem_cons_of_mem _ h3)
def turnO (E : α → List (α × Bool)) (n : Int) : List α → List (α × Int) → Option (List (α × Int))
  | [], M => some M
  | s :: ss, M => if n < best E M s then none else turnO E n ss (put_ M s (best E M s))
def mostL (E : α → List (α × Bool)) (V : List α) : Nat → List (α × Int) → Option (List (α × Int))
  | 0, _ => none
  | f + 1, M => match turnO E V.length V M with
    | none => none
    | some M' => if M'.map (·.2) = M.map (·.2) then some M else mostL E V f M'
theorem best_ge (M : List (α × Int)) (s : α) : val M s ≤ best E M s ∧ (∀ e ∈ E s, val M e.1 + bi e.2 ≤ best E M s) ∧ (best E M s = val M s ∨ ∃ e ∈ E s, best E M s = val M e.1 + bi e.2) := by
  obtain ⟨h1, h2, h3⟩ := maxI_ge ((E s).map fun e => val M e.1 + bi e.2) (val M s)
  refine ⟨h1, fun e he => h2 _ (List.mem_map.mpr ⟨e, he, rfl⟩), h3.imp id fun h => ?_⟩
  obtain ⟨e, he, q⟩ := List.mem_map.mp h
  exact ⟨e, he, q.symm⟩
/-- one step of a turn -/
theorem step_lev (g : Gr V E) {M : List (α × Int)} (l : Lev V M) {s : α} (hs : s ∈ V) : Lev V (put_ M s (best E M s)) ∧ (∀ x ∈ V, val M x ≤ val (put_ M s (best E M s)) x) ∧ (Low V E M → Low V E (put_ M s (best E M s))) := by
  obtain ⟨h1, h2, h3⟩ := best_ge (E := E) M s
  refine ⟨l.put hs (Int.le_trans (l.pos s hs) h1), fun x hx => ?_, fun lo => ?_⟩
  · rw [val_put (l.has hs)]
    split
    · rename_i q; rw [q]; exact h1
    · exact Int.le_refl _
  · rcases h3 with h3 | ⟨e, he, h3⟩
    · intro x hx
      rw [val_put (l.has hs)]
      split
      · rename_i q
        rw [h3]
        exact q ▸ lo x hx
      · exact lo x hx
    · rw [h3]
      exact lo.put l hs he (g.cl s hs e he)
theorem turn_ok (g : Gr V E) (n : Int) : ∀ (ss : List α) {M M' : List (α × Int)}, (∀ s ∈ ss, s ∈ V) → Lev V M → turnO E n ss M = some M' → Lev V M' ∧ (∀ x ∈ V, val M x ≤ val M' x) ∧ (Low V E M → Low V E M') ∧ (M' = M → ∀ s ∈ ss, ∀ e ∈ E s, val M e.1 + bi e.2 ≤ val M s)
  | [], M, M', _, l, h => by
    cases h
    exact ⟨l, fun _ _ => Int.le_refl _, id, fun _ s hs => nomatch hs⟩
  | s :: ss, M, M', hV, l, h => by
    unfold turnO at h
    split at h
    · cases h
    · have hs := hV s List.mem_cons_self
      obtain ⟨a1, a2, a3⟩ := step_lev g l hs
      obtain ⟨b1, b2, b3, b4⟩ := turn_ok g n ss (fun x hx => hV x (List.mem_cons_of_mem _ hx)) a1 h
      refine ⟨b1, fun x hx => Int.le_trans (a2 x hx) (b2 x hx), fun lo => b3 (a3 lo), fun e => ?_⟩
      have same : put_ M s (best E M s) = M := by
        refine lev_ext g.nd a1 l fun x hx => ?_
        have h1 := a2 x hx
        have h2 := b2 x hx
        rw [e] at h2
        omega
      intro x hx
      rcases List.mem_cons.mp hx with rfl | hx
      · intro f hf
        have h1 := (best_ge (E := E) M x).2.1 f hf
        have h2 : val (put_ M x (best E M x)) x = best E M x := by rw [val_put (l.has hs)]; simp
        rw [same] at h2
        omega
      · have := b4 (by rw [same]; exact e) x hx
        rw [same] at this
        exact this
theorem turn_none (g : Gr V E) (nr : NoRing V E) : ∀ (ss : List α) {M : List (α × Int)}, (∀ s ∈ ss, s ∈ V) → Lev V M → Low V E M → turnO E V.length ss M ≠ none
  | [], M, _, _, _ => by simp [turnO]
  | s :: ss, M, hV, l, lo => by
    have hs := hV s List.mem_cons_self
    obtain ⟨a1, a2, a3⟩ := step_lev g l hs
    have lo2 := a3 lo
    unfold turnO
    have hb : ¬ (V.length : Int) < best E M s := by
      obtain ⟨n, u, w, q⟩ := lo2 s hs
      have h2 : val (put_ M s (best E M s)) s = best E M s := by rw [val_put (l.has hs)]; simp
      have := w.bound g nr hs
      omega
    rw [if_neg hb]
    exact turn_none g nr ss (fun x hx => hV x (List.mem_cons_of_mem _ hx)) a1 lo2
theorem same_vals (nd : V.Nodup) {M M' : List (α × Int)} (l : Lev V M) (l' : Lev V M') (h : M'.map (·.2) = M.map (·.2)) : M' = M := by
  rw [map_val nd l, map_val nd l'] at h
  exact lev_ext nd l' l fun s hs => List.map_inj_left.mp h s hs
theorem most_some (g : Gr V E) : ∀ (f : Nat) {M R : List (α × Int)}, Lev V M → mostL E V f M = some R → Lev V R ∧ FixM V E R ∧ (Low V E M → Low V E R)
  | 0, M, R, _, h => by cases h
  | f + 1, M, R, l, h => by
    unfold mostL at h
    cases ht : turnO E V.length V M with
    | none => rw [ht] at h; cases h
    | some M' =>
      rw [ht] at h
      obtain ⟨b1, b2, b3, b4⟩ := turn_ok g V.length V (fun _ h => h) l ht
      simp only at h
      split at h
      · rename_i q
        cases h
        exact ⟨l, b4 (same_vals g.nd l b1 q), id⟩
      · obtain ⟨c1, c2, c3⟩ := most_some g f b1 h
        exact ⟨c1, c2, fun lo => c3 (b3 lo)⟩
theorem most_all (g : Gr V E) (nr : NoRing V E) : ∀ (f : Nat) {M : List (α × Int)}, Lev V M → Low V E M → (V.length : Int) * V.length - sumM M < f → ∃ R, mostL E V f M = some R
  | 0, M, l, lo, h => by
    have := (sumM_bound g nr l lo).2
    omega
  | f + 1, M, l, lo, h => by
    unfold mostL
    cases ht : turnO E V.length V M with
    | none => exact absurd ht (turn_none g nr V (fun _ h => h) l lo)
    | some M' =>
      obtain ⟨b1, b2, b3, b4⟩ := turn_ok g V.length V (fun _ h => h) l ht
      simp only
      split
      · exact ⟨M, rfl⟩
      · rename_i q
        have := sumM_lt g l b1 b2 fun e => q (by rw [e])
        exact most_all g nr f b1 (b3 lo) (by omega)
def zeros (V : List α) : List (α × Int) := V.map fun s => (s, 0)
theorem zeros_lev (V : List α) : Lev V (zeros V) ∧ ∀ E : α → List (α × Bool), Low V E (zeros V) := by
  have k : (zeros V).map (·.1) = V := by
    unfold zeros
    rw [List.map_map]
    exact List.map_id V
  have v : ∀ s, val (zeros V) s = 0 := fun s => by
    unfold val
    cases h : lk (zeros V) s with
    | none => rfl
    | some x =>
      have := lk_mem h
      simp only [zeros, List.mem_map, Prod.mk.injEq] at this
      obtain ⟨_, _, _, e⟩ := this
      simp [← e]
  exact ⟨⟨k, fun s _ => by rw [v]; exact Int.le_refl _⟩, fun E s _ => ⟨0, s, .nil, by rw [v]; rfl⟩⟩
theorem sum_zeros (V : List α) : sumM (zeros V) = 0 := by
  unfold sumM zeros
  rw [List.map_map]
  have := sum_const V 0
  simp only [Int.mul_zero] at this
  exact this
/-- what the law's levels come to -/
def lvls (E : α → List (α × Bool)) (V : List α) : Option (List (α × Int)) := mostL E V (V.length * V.length + 2) (zeros V)
theorem lvls_ring (g : Gr V E) (h : ¬ NoRing V E) : lvls E V = none := by
  cases e : lvls E V with
  | none => rfl
  | some R => exact absurd (Fix.noRing g (most_some g _ (zeros_lev V).1 e).2.1) h
theorem lvls_some (g : Gr V E) (nr : NoRing V E) : ∃ R, lvls E V = some R ∧ Lev V R ∧ FixM V E R ∧ Low V E R := by
  obtain ⟨l, lo⟩ := zeros_lev V
  obtain ⟨R, e⟩ := most_all g nr (V.length * V.length + 2) l (lo E) (by rw [sum_zeros]; push_cast; omega)
  obtain ⟨a, b, c⟩ := most_some g _ l e
  exact ⟨R, e, a, b, c (lo E)⟩
end
end Sim
set_option maxHeartbeats 4000000
namespace Sim
open PySem L2
/-! ### any walk of a bounded kind comes to an end -/
section
variable {α γ : Type} [DecidableEq α] {nb : α → List (γ × α)} {a : α} {N : Nat}
@[irreducible] def gtab (nb : α → List (γ × α)) (N : Nat) (a : α) : List (α × List γ) := itr nb (N + 8) 0 [(a, [])]
def Few (nb : α → List (γ × α)) (N : Nat) (a : α) : Prop := ∀ F : List (α × List γ), (F.map (·.1)).Nodup → (∀ p ∈ F, Path nb a p.2 p.1) → F.length ≤ N
theorem gtab_of (few : Few nb N a) {F : List (α × List γ)} (d : Done nb a F) (r : Reach nb a F) : F = gtab nb N a := by
  obtain ⟨n, e, l⟩ := d
  have hl := few F r.nd r.path
  unfold gtab
  rw [show N + 8 = n + (N + 8 - n) by omega, itr_add, ← e, itr_stay _ _ _ _ (by omega)]
theorem gitr_one (n : Nat) : 1 ≤ (itr nb n 0 [(a, [])]).length := by
  obtain ⟨G, e⟩ := itr_pre nb n 0 [(a, [])]
  rw [e]
  simp
theorem gdone (few : Few nb N a) : ∃ F, Done nb a F ∧ Reach nb a F := by
  have key : ∀ n, (∀ k, k < n → k < (itr nb k 0 [(a, [])]).length) → Inv0 nb a n (itr nb n 0 [(a, [])]) := fun n hn => by
    have := Inv0.itr (nb := nb) (a := a) n 0 [(a, [])] (Inv0.start a) (by simpa using hn)
    simpa using this
  have step : ∀ n, (∃ k, k ≤ n ∧ (itr nb k 0 [(a, [])]).length ≤ k ∧ ∀ j, j < k → j < (itr nb j 0 [(a, [])]).length) ∨ ∀ k, k ≤ n → k < (itr nb k 0 [(a, [])]).length := by
    intro n
    induction n with
    | zero => exact .inr fun k hk => by have := gitr_one (nb := nb) (a := a) k; omega
    | succ n ih =>
      rcases ih with ⟨k, h1, h2, h3⟩ | ih
      · exact .inl ⟨k, by omega, h2, h3⟩
      · by_cases hn : (itr nb (n + 1) 0 [(a, [])]).length ≤ n + 1
        · exact .inl ⟨n + 1, Nat.le_refl _, hn, fun j hj => ih j (by omega)⟩
        · refine .inr fun k hk => ?_
          by_cases hk' : k ≤ n
          · exact ih k hk'
          · have : k = n + 1 := by omega
            subst this
            omega
  rcases step (N + 1) with ⟨k, _, h2, h3⟩ | hh
  · have iv := key k h3
    refine ⟨_, ⟨k, rfl, ?_⟩, iv.reach h2⟩
    cases k with
    | zero => have := gitr_one (nb := nb) (a := a) 0; omega
    | succ k =>
      have h4 := h3 k (Nat.lt_succ_self k)
      obtain ⟨G, e⟩ := bst_pre nb (0 + k) (itr nb k 0 [(a, [])])
      have : (itr nb (k + 1) 0 [(a, [])]).length = (itr nb k 0 [(a, [])]).length + G.length := by rw [itr_succ, e, List.length_append]
      omega
  · have iv := key (N + 1) fun k hk => hh k (by omega)
    have l1 := few _ iv.nd iv.path
    have l2 := hh (N + 1) (Nat.le_refl _)
    omega
theorem gtab_reach (few : Few nb N a) : Reach nb a (gtab nb N a) := by
  obtain ⟨F, d, r⟩ := gdone few
  rw [← gtab_of few d r]
  exact r
end
/-! ### who is shut out -/
def outb (h : Hs) (i : Nat) (s : Sd) : Bool := !decide (("drives" : Str) ∈ (step h s (.go i 0 false)).2)
theorem opt_no {b : Bool} {x y : Str} (n : y ≠ x) : y ∉ opt b x := fun h => n (opt_mem h)
theorem drv_drives (h : Hs) (s : Sd) (a : Hab) (i : Nat) (pl pl' : Int) (fg fg' : Bool) : (("drives" : Str) ∈ (drv h s a i pl fg).2) = (("drives" : Str) ∈ (drv h s a i pl' fg').2) := by
  have g : ∀ (s : Sd) (pl : Int) (fg : Bool), (("drives" : Str) ∈ (goes h s a i pl fg).2) = True := fun s pl fg => by simp [goes]
  unfold drv
  split
  · rfl
  split
  · rfl
  split
  · rw [g, g]
  split
  · rfl
  · simp [g]
theorem go_drives {h : Hs} {s : Sd} {i : Nat} (hi : i < h.pe.length) (pl : Int) (fg : Bool) : decide (("drives" : Str) ∈ (step h s (.go i pl fg)).2) = !outb h i s := by
  unfold outb
  rw [Bool.not_not, go_step hi, go_step hi]
  congr 1
  exact drv_drives h s _ i _ _ _ _
theorem calm_in {h : Hs} (g : h.ok) (s : Sd) {i : Nat} (hi : i < h.pe.length) : Dd.go i 0 false ∈ deeds h s := by
  have p1 := g.p1
  unfold deeds
  refine List.mem_append_left _ (List.mem_flatMap.mpr ⟨(i, h.pe[i]), ?_, ?_⟩)
  · have := enumN_get h.pe 0 i
    rw [List.getElem?_eq_getElem hi] at this
    have := List.mem_of_getElem? this
    simpa using this
  · unfold deedsOf
    refine List.mem_flatMap.mpr ⟨0, ?_, by simp [deedsAt]⟩
    unfold places
    split
    · exact List.mem_map.mpr ⟨0, List.mem_range.mpr (by omega), rfl⟩
    · exact List.mem_singleton.mpr rfl
/-! ### the graph of the stands at which a number is shut out -/
abbrev Ed := Dd × Sd × Bool
def VV (h : Hs) (i : Nat) : List Sd := ((tab h (begin_ h)).map (·.1)).filter (outb h i)
def adj1 (h : Hs) (i : Nat) (s : Sd) (d : Dd) : List Ed := if (step h s d).1 ∈ VV h i then [(d, (step h s d).1, decide (("drives" : Str) ∈ (step h s d).2))] else []
def adj (h : Hs) (i : Nat) (s : Sd) : List Ed := (deeds h s).flatMap (adj1 h i s)
def EE (h : Hs) (i : Nat) (s : Sd) : List (Sd × Bool) := (adj h i s).map (·.2)
def NB (h : Hs) (i : Nat) (s : Sd) : List (Dd × Sd) := (adj h i s).map fun e => (e.1, e.2.1)
theorem mem_adj {h : Hs} {i : Nat} {s : Sd} {e : Ed} (he : e ∈ adj h i s) : e.1 ∈ deeds h s ∧ e.2.1 = (step h s e.1).1 ∧ e.2.1 ∈ VV h i ∧ e.2.2 = decide (("drives" : Str) ∈ (step h s e.1).2) := by
  obtain ⟨d, hd, h1⟩ := List.mem_flatMap.mp he
  unfold adj1 at h1
  split at h1
  · rename_i q
    rw [List.mem_singleton.mp h1]
    exact ⟨hd, rfl, q, rfl⟩
  · cases h1
theorem adj_len {h : Hs} (g : h.ok) (i : Nat) (s : Sd) : (adj h i s).length ≤ 30 := by
  have := flat_len (f := adj1 h i s) (c := 1) (xs := deeds h s) fun d _ => by unfold adj1; split <;> simp
  have := deeds_len g s
  unfold adj
  omega
theorem VV_ok {h : Hs} (g : h.ok) {i : Nat} {s : Sd} (hs : s ∈ VV h i) : s.ok h ∧ outb h i s = true ∧ ∃ c, (s, c) ∈ tab h (begin_ h) := by
  obtain ⟨h1, h2⟩ := List.mem_filter.mp hs
  obtain ⟨p, hp, rfl⟩ := List.mem_map.mp h1
  exact ⟨tab_ok g (begin_ok g) hp, h2, _, hp⟩
theorem VV_gr {h : Hs} (g : h.ok) (i : Nat) : Gr (VV h i) (EE h i) where
  nd := List.Pairwise.filter _ (tab_reach g (begin_ok g)).nd
  cl := fun s hs e he => by
    obtain ⟨x, hx, rfl⟩ := List.mem_map.mp he
    exact (mem_adj hx).2.2.1
theorem VV_len {h : Hs} (g : h.ok) (i : Nat) : (VV h i).length ≤ 192 := by
  have h1 := List.length_filter_le (outb h i) ((tab h (begin_ h)).map (·.1))
  have h2 := tab_len g (begin_ok g)
  rw [List.length_map] at h1
  unfold VV
  omega
theorem path_V {h : Hs} {i : Nat} {s t : Sd} {c : List Dd} (p : Path (NB h i) s c t) (hs : s ∈ VV h i) : t ∈ VV h i := by
  induction p with
  | nil => exact hs
  | snoc _ m _ =>
    obtain ⟨e, he, q⟩ := List.mem_map.mp m
    cases q
    exact (mem_adj he).2.2.1
theorem few_NB {h : Hs} (g : h.ok) {i : Nat} {s : Sd} (hs : s ∈ VV h i) : Few (NB h i) 192 s := fun F nd hp => by
  have := nodup_len (F.map (·.1)) (VV h i) nd fun x hx => by
    obtain ⟨p, q, rfl⟩ := List.mem_map.mp hx
    exact path_V (hp p q) hs
  have := VV_len g i
  rw [List.length_map] at *
  omega
def btab (h : Hs) (i : Nat) (s : Sd) : List (Sd × List Dd) := gtab (NB h i) 192 s
/-- a way back -/
def bw (h : Hs) (i : Nat) (s t : Sd) : Option (List Dd) := lk (btab h i s) t
theorem wk_path {h : Hs} {i : Nat} {s t : Sd} {n : Nat} (w : Wk (EE h i) s n t) : ∀ {a : Sd} {c : List Dd}, Path (NB h i) a c s → ∃ c', Path (NB h i) a c' t := by
  induction w with
  | nil => exact fun p => ⟨_, p⟩
  | @cons s t u b n m _ ih =>
    intro a c p
    obtain ⟨e, he, q⟩ := List.mem_map.mp m
    exact ih (p.snoc (List.mem_map.mpr ⟨e, he, by rw [q]⟩))
theorem path_wk {h : Hs} {i : Nat} {s t : Sd} {c : List Dd} (p : Path (NB h i) s c t) : ∃ n, Wk (EE h i) s n t := by
  induction p with
  | nil => exact ⟨0, .nil⟩
  | snoc _ m ih =>
    obtain ⟨n, w⟩ := ih
    obtain ⟨e, he, q⟩ := List.mem_map.mp m
    cases q
    exact ⟨_, w.app (.cons (b := e.2.2) (List.mem_map.mpr ⟨e, he, rfl⟩) .nil)⟩
theorem bw_path {h : Hs} (g : h.ok) {i : Nat} {s t : Sd} (hs : s ∈ VV h i) {c : List Dd} (e : bw h i s t = some c) : Path (NB h i) s c t := (gtab_reach (few_NB g hs)).path _ (lk_mem e)
theorem bw_none {h : Hs} (g : h.ok) {i : Nat} {s t : Sd} (hs : s ∈ VV h i) (e : bw h i s t = none) (n : Nat) : ¬ Wk (EE h i) s n t := fun w => by
  obtain ⟨c, p⟩ := wk_path w (.nil (a := s))
  have := (gtab_reach (few_NB g hs)).all p
  unfold hasK at this
  have e' : lk (gtab (NB h i) 192 s) t = none := e
  rw [e'] at this
  cases this
def ring1 (h : Hs) (i : Nat) (s : Sd) (e : Ed) : Option (Sd × List Dd) := if e.2.2 = true then (bw h i e.2.1 s).map fun c => (s, e.1 :: c) else none
def ringT (h : Hs) (i : Nat) : Option (Sd × List Dd) := (VV h i).findSome? fun s => (adj h i s).findSome? (ring1 h i s)
theorem ring_none {h : Hs} (g : h.ok) (i : Nat) (e : ringT h i = none) : NoRing (VV h i) (EE h i) := by
  intro s hs t m n w
  obtain ⟨x, hx, q⟩ := List.mem_map.mp m
  have h1 := List.findSome?_eq_none_iff.mp e s hs
  have h2 := List.findSome?_eq_none_iff.mp h1 x hx
  unfold ring1 at h2
  rw [q] at h2
  simp only [if_true, Option.map_eq_none_iff] at h2
  have ht : t ∈ VV h i := by have := (mem_adj hx).2.2.1; rw [q] at this; exact this
  exact bw_none g ht h2 n w
theorem ring_some {h : Hs} (g : h.ok) (i : Nat) {s : Sd} {ds : List Dd} (e : ringT h i = some (s, ds)) : s ∈ VV h i ∧ ∃ x c, x ∈ adj h i s ∧ x.2.2 = true ∧ ds = x.1 :: c ∧ Path (NB h i) x.2.1 c s := by
  obtain ⟨s', hs', h1⟩ := List.exists_of_findSome?_eq_some e
  obtain ⟨x, hx, h2⟩ := List.exists_of_findSome?_eq_some h1
  unfold ring1 at h2
  split at h2
  · rename_i q
    obtain ⟨c, hc, e2⟩ := Option.map_eq_some_iff.mp h2
    cases e2
    exact ⟨hs', x, c, hx, q, rfl, bw_path g (mem_adj hx).2.2.1 hc⟩
  · cases h2
theorem ring_is {h : Hs} (g : h.ok) (i : Nat) {s : Sd} {ds : List Dd} (e : ringT h i = some (s, ds)) : ¬ NoRing (VV h i) (EE h i) := by
  obtain ⟨hs, x, c, hx, q, _, p⟩ := ring_some g i e
  obtain ⟨n, w⟩ := path_wk p
  exact fun nr => nr s hs x.2.1 (List.mem_map.mpr ⟨x, hx, by rw [← q]⟩) n w
/-- a row of deeds at whose stands the number is shut out -/
def shutW (h : Hs) (i : Nat) : Sd → List Dd → Prop
  | _, [] => True
  | s, d :: ds => d ∈ deeds h s ∧ outb h i s = true ∧ shutW h i (step h s d).1 ds
theorem shutW_app (h : Hs) (i : Nat) : ∀ (s : Sd) (a b : List Dd), shutW h i s (a ++ b) ↔ shutW h i s a ∧ shutW h i (follow h s a) b
  | s, [], b => by simp [shutW, follow]
  | s, d :: a, b => by simp [shutW, follow, shutW_app h i _ a b, and_assoc]
theorem path_shut {h : Hs} (g : h.ok) {i : Nat} {s t : Sd} {c : List Dd} (p : Path (NB h i) s c t) (hs : s ∈ VV h i) : shutW h i s c ∧ follow h s c = t := by
  induction p with
  | nil => exact ⟨trivial, rfl⟩
  | snoc p m ih =>
    obtain ⟨e, he, q⟩ := List.mem_map.mp m
    cases q
    obtain ⟨h1, h2⟩ := ih
    obtain ⟨m1, m2, m3, _⟩ := mem_adj he
    rw [shutW_app, follow_app, h2]
    refine ⟨⟨h1, m1, (VV_ok g (path_V p hs)).2.1, trivial⟩, ?_⟩
    show (step h _ e.1).1 = _
    rw [m2]
theorem ring_right {h : Hs} (g : h.ok) (i : Nat) {s : Sd} {ds : List Dd} (e : ringT h i = some (s, ds)) : shutW h i s ds ∧ follow h s ds = s ∧ ∃ d c, ds = d :: c ∧ ("drives" : Str) ∈ (step h s d).2 := by
  obtain ⟨hs, x, c, hx, q, rfl, p⟩ := ring_some g i e
  obtain ⟨m1, m2, m3, m4⟩ := mem_adj hx
  obtain ⟨h1, h2⟩ := path_shut g p m3
  rw [m2] at h1 h2
  refine ⟨⟨m1, (VV_ok g hs).2.1, h1⟩, h2, x.1, c, rfl, ?_⟩
  rw [q] at m4
  simpa using m4.symm
end Sim
set_option maxHeartbeats 4000000
namespace Sim
open PySem L2
/-- a loop that may end with an answer -/
theorem forV_ret {α : Type} {asg : D → Env → Option Env} {body : Env → MH → RS} {f : α → D} {g : α → Option W} {Pe : Env → Prop} {m : MH} : ∀ (xs : List α) (e : Env),
    (∀ a ∈ xs, ∀ e, Pe e → ∃ e1, asg (f a) e = some e1 ∧ ((g a = none ∧ ∃ e2, body e1 m = .nx e2 m ∧ Pe e2) ∨ ∃ w, g a = some w ∧ body e1 m = .rt w m)) → Pe e →
    (∃ w, xs.findSome? g = some w ∧ forV asg body (xs.map f) e m = .rt w m) ∨ (xs.findSome? g = none ∧ ∃ e', forV asg body (xs.map f) e m = .nx e' m ∧ Pe e')
  | [], e, _, h => .inr ⟨rfl, e, rfl, h⟩
  | a :: xs, e, st, h => by
    obtain ⟨e1, h1, h2⟩ := st a List.mem_cons_self e h
    rcases h2 with ⟨hg, e2, h3, h4⟩ | ⟨w, hg, h3⟩
    · have := forV_ret xs e2 (fun b hb => st b (List.mem_cons_of_mem _ hb)) h4
      rw [List.map_cons, forV_cons h1 h3, List.findSome?_cons, hg]
      exact this
    · refine .inl ⟨w, by rw [List.findSome?_cons, hg], ?_⟩
      simp only [List.map_cons, forV, h1, h3]
theorem str_mem (x : Str) (ws : Wds) : ((ws.map PyData.str).any fun z => PyData.eqv z (.str x)) = decide (x ∈ ws) := by
  rw [Bool.eq_iff_iff]
  simp only [List.any_map, List.any_eq_true, Function.comp, PyData.eqv, beq_iff_eq, decide_eq_true_eq]
  constructor
  · rintro ⟨y, hy, rfl⟩; exact hy
  · exact fun h => ⟨x, h, rfl⟩
theorem in_wds {x : Str} {ws : Wds} {m : MH} (hx : x ∈ okStrs) (h : ∀ y ∈ ws, y ∈ okStrs) : cmpW .in_ (.d (.str x)) (.d (Wds.D ws)) m = .ok (decide (x ∈ ws)) m := by
  have : cmpW .in_ (.d (.str x)) (.d (.tuple (ws.map PyData.str))) m = _ := cmp_in_t (.str (sOk hx) 64) fun e he => by
    obtain ⟨y, hy, rfl⟩ := List.mem_map.mp he
    exact .str (sOk (h y hy)) 64
  unfold Wds.D
  rw [this, str_mem]
theorem nin_wds {x : Str} {ws : Wds} {m : MH} (hx : x ∈ okStrs) (h : ∀ y ∈ ws, y ∈ okStrs) : cmpW .nin (.d (.str x)) (.d (Wds.D ws)) m = .ok (!decide (x ∈ ws)) m := by
  have : cmpW .nin (.d (.str x)) (.d (.tuple (ws.map PyData.str))) m = _ := cmp_nin_t (.str (sOk hx) 64) fun e he => by
    obtain ⟨y, hy, rfl⟩ := List.mem_map.mp he
    exact .str (sOk (h y hy)) 64
  unfold Wds.D
  rw [this, str_mem]
def EdD (e : Ed) : D := .tuple [e.1.D, e.2.1.D, .bool e.2.2]
def esD (es : List Ed) : D := .list (es.map EdD)
/-- the web as a dict -/
def gk (h : Hs) (i : Nat) : List (D × D) := kvsOf Sd.D esD ((VV h i).map fun s => (s, adj h i s))
theorem gk_lk {h : Hs} {i : Nat} {s : Sd} (hs : s ∈ VV h i) : lk ((VV h i).map fun s => (s, adj h i s)) s = some (adj h i s) := by
  generalize VV h i = V at hs
  induction V with
  | nil => cases hs
  | cons x V ih =>
    rw [List.map_cons, lk_cons]
    by_cases e : x = s
    · rw [if_pos e, e]
    · rw [if_neg e]
      exact ih (List.mem_of_ne_of_mem (fun z => e z.symm) hs)
theorem gk_idx {h : Hs} {i : Nat} {s : Sd} (hs : s ∈ VV h i) (m : MH) : idxW (.d (.dict (gk h i))) (.d s.D) m = .ok (.d (esD (adj h i s))) m :=
  keySd.idx (V := esD) (F := (VV h i).map fun s => (s, adj h i s)) (w := .d (.dict (gk h i))) (m := m) rfl (gk_lk hs)
theorem gk_keys (h : Hs) (i : Nat) : (gk h i).map (·.1) = (VV h i).map Sd.D := by
  simp [gk, kvsOf]
theorem put_last {α β : Type} [DecidableEq α] {F : List (α × β)} {a : α} {b c : β} (h : a ∉ F.map (·.1)) : put_ (F ++ [(a, b)]) a c = F ++ [(a, c)] := by
  unfold put_
  rw [if_pos (by rw [hasK_iff]; simp), List.map_append]
  congr 1
  · conv => rhs; rw [← List.map_id F]
    refine List.map_congr_left fun p hp => ?_
    rw [if_neg (fun e : p.1 = a => h (by rw [← e]; exact List.mem_map.mpr ⟨p, hp, rfl⟩))]
    rfl
  · simp
theorem filterMap_if {α : Type} (p : α → Bool) (f : α → D) : ∀ l : List α, l.filterMap (fun s => if p s = true then some (f s) else none) = (l.filter p).map f
  | [] => rfl
  | s :: l => by
    by_cases e : p s = true
    · simp only [List.filterMap_cons, List.filter_cons, if_pos e, List.map_cons, filterMap_if p f l]
    · simp only [List.filterMap_cons, List.filter_cons, if_neg e, filterMap_if p f l]
end Sim
set_option maxHeartbeats 4000000
namespace Sim
open PySem L2
/-! ### sets of deeds, sorted -/
def dlt : Dd → Dd → Bool
  | .dawn, _ => false
  | .go .., .dawn => true
  | .go i p f, .go j q g => decide (i < j) || (decide (i = j) && (decide (p < q) || (decide (p = q) && (!f && g))))
def dins (d : Dd) : List Dd → List Dd
  | [] => [d]
  | e :: l => if d = e then e :: l else if dlt d e = true then d :: e :: l else e :: dins d l
def dset (l : List Dd) : List Dd := l.foldr dins []
theorem mem_dins {d x : Dd} : ∀ {l : List Dd}, x ∈ dins d l ↔ x = d ∨ x ∈ l
  | [] => by simp [dins]
  | e :: l => by
    unfold dins
    split
    · rename_i h; subst h; simp
    · split
      · simp
      · rw [List.mem_cons, mem_dins, List.mem_cons]
        exact ⟨fun h => h.elim (fun h => .inr (.inl h)) fun h => h.elim .inl fun h => .inr (.inr h), fun h => h.elim (fun h => .inr (.inl h)) fun h => h.elim .inl fun h => .inr (.inr h)⟩
theorem mem_dset {x : Dd} : ∀ {l : List Dd}, x ∈ dset l ↔ x ∈ l
  | [] => by simp [dset]
  | d :: l => by
    show x ∈ dins d (dset l) ↔ _
    rw [mem_dins, mem_dset, List.mem_cons]
theorem dlt_irr (a : Dd) : dlt a a = false := by cases a <;> simp [dlt]
theorem dlt_trans {a b c : Dd} (h : dlt a b = true) (g : dlt b c = true) : dlt a c = true := by
  cases a with
  | dawn => cases h
  | go i p f =>
    cases b with
    | dawn => cases g
    | go j q x =>
      cases c with
      | dawn => rfl
      | go k r y =>
        simp only [dlt, Bool.or_eq_true, Bool.and_eq_true, decide_eq_true_eq, Bool.not_eq_true'] at h g ⊢
        rcases h with h | ⟨rfl, h⟩
        · rcases g with g | ⟨rfl, g⟩
          · exact .inl (by omega)
          · exact .inl h
        · rcases g with g | ⟨rfl, g⟩
          · exact .inl g
          · refine .inr ⟨rfl, ?_⟩
            rcases h with h | ⟨rfl, h1, h2⟩
            · rcases g with g | ⟨rfl, g⟩
              · exact .inl (by omega)
              · exact .inl h
            · rcases g with g | ⟨rfl, g1, g2⟩
              · exact .inl g
              · rw [h2] at g1; cases g1
theorem dlt_total {a b : Dd} (h : a ≠ b) (g : dlt a b = false) : dlt b a = true := by
  cases a with
  | dawn => cases b with
    | dawn => exact absurd rfl h
    | go => rfl
  | go i p f => cases b with
    | dawn => cases g
    | go j q x =>
      simp only [dlt, Bool.or_eq_false_iff, Bool.and_eq_false_iff, decide_eq_false_iff_not, Bool.or_eq_true, Bool.and_eq_true, decide_eq_true_eq, Bool.not_eq_true', Bool.not_eq_false'] at g ⊢
      obtain ⟨g1, g2⟩ := g
      by_cases e : i = j
      · subst e
        rcases g2 with g2 | ⟨g2, g3⟩
        · exact absurd rfl g2
        · by_cases e2 : p = q
          · subst e2
            refine .inr ⟨rfl, .inr ⟨rfl, ?_⟩⟩
            cases f <;> cases x <;> simp at g3 h ⊢
          · exact .inr ⟨rfl, .inl (by omega)⟩
      · exact .inl (by omega)
theorem dins_asc {d : Dd} : ∀ {l : List Dd}, l.Pairwise (fun a b => dlt a b = true) → (dins d l).Pairwise fun a b => dlt a b = true
  | [], _ => by simp [dins]
  | e :: l, h => by
    unfold dins
    split
    · exact h
    · rename_i ne
      split
      · rename_i lt
        refine List.pairwise_cons.mpr ⟨fun x hx => ?_, h⟩
        rcases List.mem_cons.mp hx with rfl | hx
        · exact lt
        · exact dlt_trans lt ((List.pairwise_cons.mp h).1 x hx)
      · rename_i nl
        refine List.pairwise_cons.mpr ⟨fun x hx => ?_, dins_asc (List.pairwise_cons.mp h).2⟩
        rcases mem_dins.mp hx with rfl | hx
        · exact dlt_total ne (by simpa using nl)
        · exact (List.pairwise_cons.mp h).1 x hx
theorem dset_asc : ∀ l : List Dd, (dset l).Pairwise fun a b => dlt a b = true
  | [] => List.Pairwise.nil
  | d :: l => dins_asc (dset_asc l)
theorem dset_nodup (l : List Dd) : (dset l).Nodup := (dset_asc l).imp fun h e => by rw [e, dlt_irr] at h; cases h
def Dd.key : Dd → NestedKey
  | .dawn => .tup [.text "morning"]
  | .go i pl fg => .tup [.text "drive", .num i, .num pl, .num (if fg = true then 1 else 0)]
theorem keyDd : EncK Dd.D Dd.key where
  ok := fun d => by cases d <;> rfl
  tup := fun d => by cases d <;> simp [tupK, Dd.key, NestedKey.depth, NestedKey.depthAll]
  inj := fun a b h => by
    cases a <;> cases b <;> simp only [Dd.key, NestedKey.tup.injEq, List.cons.injEq, NestedKey.num.injEq, and_true, reduceCtorEq, false_and, and_false] at h ⊢
    rename_i i pl fg j ql gg
    obtain ⟨_, h1, h2, h3⟩ := h
    rw [Int.ofNat_inj.mp h1, h2, bint h3]
theorem dle_refl (d : Dd) : PySem.W.dataLe false id d.D d.D = true := by
  show (!(PyProof.Rows.listOrd PyProof.Rows.itemOrd).blt (PySem.W.keyToks d.D) (PySem.W.keyToks d.D)) = true
  rw [(PyProof.Rows.listOrd PyProof.Rows.itemOrd).irrefl]
  rfl
theorem blt_dd {a b : Dd} (h : dlt a b = true) : (PyProof.Rows.listOrd PyProof.Rows.itemOrd).blt (PySem.W.keyToks a.D) (PySem.W.keyToks b.D) = true := by
  have kd : PySem.W.keyToks (.str (Str.ofString "drive")) = [.inr (Str.ofString "drive").cps.toList] := rfl
  show PyProof.Rows.lexLt PyProof.Rows.itemOrd _ _ = true
  cases a with
  | dawn => cases h
  | go i p f =>
    cases b with
    | dawn =>
      simp only [Dd.D, PySem.W.keyToks, PySem.W.keyToksAll, List.cons_append, List.nil_append, PyProof.Rows.lexLt, PyProof.Rows.itemLt]
      decide +kernel
    | go j q x =>
      simp only [dlt, Bool.or_eq_true, Bool.and_eq_true, decide_eq_true_eq, Bool.not_eq_true'] at h
      simp only [Dd.D, PySem.W.keyToks, PySem.W.keyToksAll, List.cons_append, List.nil_append, PyProof.Rows.lexLt, PyProof.Rows.itemLt, PyProof.Rows.strKind.irrefl]
      rcases h with h | ⟨rfl, h | ⟨rfl, rfl, rfl⟩⟩
      · simp [h]
      · simp [h]
      · simp
theorem dle_lt {a b : Dd} (h : dlt a b = true) : PySem.W.dataLe false id a.D b.D = true ∧ PySem.W.dataLe false id b.D a.D = false := by
  have e := blt_dd h
  refine ⟨?_, ?_⟩
  · show (!(PyProof.Rows.listOrd PyProof.Rows.itemOrd).blt (PySem.W.keyToks b.D) (PySem.W.keyToks a.D)) = true
    cases q : (PyProof.Rows.listOrd PyProof.Rows.itemOrd).blt (PySem.W.keyToks b.D) (PySem.W.keyToks a.D) with
    | false => rfl
    | true =>
      have := (PyProof.Rows.listOrd PyProof.Rows.itemOrd).trans _ _ _ e q
      rw [(PyProof.Rows.listOrd PyProof.Rows.itemOrd).irrefl] at this
      cases this
  · show (!(PyProof.Rows.listOrd PyProof.Rows.itemOrd).blt (PySem.W.keyToks a.D) (PySem.W.keyToks b.D)) = false
    rw [e]
    rfl
theorem ascK_dd : ∀ {l : List Dd}, l.Pairwise (fun a b => dlt a b = true) → ascK (l.map Dd.D) = true
  | [], _ => rfl
  | d :: l, h => by
    obtain ⟨h1, h2⟩ := List.pairwise_cons.mp h
    simp only [List.map_cons, ascK, dle_refl, ascK_dd h2, Bool.true_and, Bool.and_true, List.all_map, List.all_eq_true, Function.comp, Bool.and_eq_true, Bool.not_eq_true']
    exact fun x hx => dle_lt (h1 x hx)
theorem nkey_dd {a b : Dd} : nkey a.D = nkey b.D ↔ a = b := by
  rw [keyDd.ok, keyDd.ok]
  exact ⟨fun e => keyDd.inj a b (Option.some.inj e), fun e => by rw [e]⟩
theorem uniq_perm (l : List Dd) : (uniqK (l.map Dd.D)).Perm ((dset l).map Dd.D) := by
  refine (List.perm_ext_iff_of_nodup (nodup_of_map' (uniqK_nodup _)) ?_).mpr fun x => ⟨fun hx => ?_, fun hx => ?_⟩
  · refine List.Pairwise.map Dd.D (fun a b hne e => hne ?_) (dset_nodup l)
    exact nkey_dd.mp (congrArg nkey e)
  · obtain ⟨d, hd, rfl⟩ := List.mem_map.mp (mem_uniqK hx)
    exact List.mem_map.mpr ⟨d, mem_dset.mpr hd, rfl⟩
  · obtain ⟨d, hd, rfl⟩ := List.mem_map.mp hx
    obtain ⟨y, hy, e⟩ := uniqK_all (List.mem_map.mpr ⟨d, mem_dset.mp hd, rfl⟩)
    obtain ⟨d', hd', rfl⟩ := List.mem_map.mp (mem_uniqK hy)
    rw [← show d' = d from nkey_dd.mp e]
    exact hy
theorem sort_dd (l : List Dd) : sortD (uniqK (l.map Dd.D)) = (dset l).map Dd.D := sort_perm (ascK_dd (dset_asc l)) (uniq_perm l)
theorem alike_dd (a b : Dd) : PySem.W.alike a.D b.D = true := by
  cases a <;> cases b <;> simp [Dd.D, PySem.W.alike, PySem.W.alikeAll]
theorem sortOk_dd {l : List Sim.D} (h : ∀ x ∈ l, ∃ d : Dd, x = d.D) : sortOk l = true := by
  simp only [sortOk, Bool.and_eq_true, List.all_eq_true, Bool.or_eq_true]
  refine ⟨⟨fun a ha b hb => ?_, .inl fun s hs => ?_⟩, fun s hs => ?_⟩
  · obtain ⟨a, rfl⟩ := h a ha
    obtain ⟨b, rfl⟩ := h b hb
    exact alike_dd a b
  · obtain ⟨s, rfl⟩ := h s hs
    cases s <;> rfl
  · obtain ⟨s, rfl⟩ := h s hs
    have := encDd.lay s
    exact ⟨by have := this.dep; simp; omega, this.lay⟩
theorem qD_refl_dd (d : Dd) : qD d.D d.D = true := by cases d <;> simp [Dd.D, qD, qDs]
theorem setOk_dd {l : List Dd} (h : l.length < 60) : setOk (l.map Dd.D) = true := by
  simp only [setOk, Bool.and_eq_true, decide_eq_true_eq]
  refine ⟨⟨⟨⟨?_, by simpa using h⟩, ?_⟩, ?_⟩, ?_⟩
  · simp only [List.all_map, List.all_eq_true, Function.comp]
    exact fun d _ => by rw [keyDd.keyT]; rfl
  · simp only [sameK, List.all_map, List.all_eq_true, Function.comp, Bool.or_eq_true, Bool.not_eq_true', decide_eq_false_iff_not]
    intro a _ b _
    by_cases e : a = b
    · subst e; exact .inr (qD_refl_dd a)
    · exact .inl fun z => e (nkey_dd.mp z)
  · refine sortOk_dd fun x hx => ?_
    obtain ⟨d, _, rfl⟩ := List.mem_map.mp (mem_uniqK hx)
    exact ⟨d, rfl⟩
  · rw [sort_dd]
    exact ascK_dd (dset_asc l)
theorem sset_dd {l : List Dd} (h : l.length < 60) (n : l ≠ []) (m : MH) : bSortedSet false [.d (.list (l.map Dd.D))] m = .ok (.d (.list ((dset l).map Dd.D))) m := by
  have e : intsOf (l.map Dd.D) = none := by
    cases l with
    | nil => exact absurd rfl n
    | cons d l => cases d <;> rfl
  simp only [bSortedSet, e, setOk_dd h, if_true, newL_f, sort_dd]
end Sim
set_option maxHeartbeats 4000000
namespace Sim
open PySem L2
/-! ### pairs of stands -/
abbrev Pr := Sd × Sd
abbrev PTab := List (Pr × List Dd)
def PrD (q : Pr) : D := .tuple [q.1.D, q.2.D]
theorem encPr : Enc PrD 2 := encSd.pair encSd
def rowD (p : Pr × List Dd) : D := .tuple [PrD p.1, Cs.D p.2]
theorem encRow : Enc rowD 3 := encPr.pair encCs
def PrK (q : Pr) : NestedKey := .tup [q.1.key, q.2.key]
theorem keyPr : EncK PrD PrK where
  ok := fun q => rfl
  tup := fun q => by simp [tupK, PrK, Sd.key, NestedKey.depth, NestedKey.depthAll]
  inj := fun a b h => by
    simp only [PrK, NestedKey.tup.injEq, List.cons.injEq, and_true] at h
    exact Prod.ext (keySd.inj _ _ h.1) (keySd.inj _ _ h.2)
section
variable (h h' : Hs)
def odd (q : Pr) (d : Dd) : Bool := decide (d ∉ deeds h q.1) || (decide (d ∉ deeds h' q.2) || decide ((step h q.1 d).2 ≠ (step h' q.2 d).2))
def bth (q : Pr) : List Dd := dset (deeds h q.1 ++ deeds h' q.2)
def stp (q : Pr) (d : Dd) : Pr := ((step h q.1 d).1, (step h' q.2 d).1)
def nbp (q : Pr) : List (Dd × Pr) := ((bth h h' q).filter fun d => !odd h h' q d).map fun d => (d, stp h h' q d)
def pit (i : Nat) : PTab := itr (nbp h h') i 0 [((begin_ h, begin_ h'), [])]
/-- how the walk through pairs ends -/
def Ends (r : Option (List Dd)) : Prop := ∃ i, (∀ j, j < i → ∃ q c, (pit h h' j)[j]? = some (q, c) ∧ (bth h h' q).find? (odd h h' q) = none) ∧
  (((pit h h' i)[i]? = none ∧ r = none) ∨ ∃ q c d, (pit h h' i)[i]? = some (q, c) ∧ (bth h h' q).find? (odd h h' q) = some d ∧ r = some (c ++ [d]))
variable {h h'}
theorem Ends.unique {r s : Option (List Dd)} (a : Ends h h' r) (b : Ends h h' s) : r = s := by
  obtain ⟨i, a1, a2⟩ := a
  obtain ⟨j, b1, b2⟩ := b
  have lt : ∀ {i j : Nat} {r : Option (List Dd)}, i < j → (∀ k, k < j → ∃ q c, (pit h h' k)[k]? = some (q, c) ∧ (bth h h' q).find? (odd h h' q) = none) → (((pit h h' i)[i]? = none ∧ r = none) ∨ ∃ q c d, (pit h h' i)[i]? = some (q, c) ∧ (bth h h' q).find? (odd h h' q) = some d ∧ r = some (c ++ [d])) → False := fun l x y => by
    obtain ⟨q, c, e1, e2⟩ := x _ l
    rcases y with ⟨y1, _⟩ | ⟨q', c', d, y1, y2, _⟩
    · rw [e1] at y1; cases y1
    · rw [e1] at y1; cases y1; rw [e2] at y2; cases y2
  rcases Nat.lt_trichotomy i j with l | rfl | l
  · exact (lt l b1 a2).elim
  · rcases a2 with ⟨x, rfl⟩ | ⟨q, c, d, x, y, rfl⟩
    · rcases b2 with ⟨_, rfl⟩ | ⟨q, c, d, x', y', rfl⟩
      · rfl
      · rw [x] at x'; cases x'
    · rcases b2 with ⟨x', _⟩ | ⟨q', c', d', x', y', rfl⟩
      · rw [x] at x'; cases x'
      · rw [x] at x'; cases x'; rw [y] at y'; cases y'; rfl
  · exact (lt l a1 b2).elim
theorem stp_ok (g : h.ok) (g' : h'.ok) {q : Pr} (gq : q.1.ok h ∧ q.2.ok h') {d : Dd} (hd : odd h h' q d = false) : (stp h h' q d).1.ok h ∧ (stp h h' q d).2.ok h' := by
  simp only [odd, Bool.or_eq_false_iff, decide_eq_false_iff_not, Decidable.not_not] at hd
  exact ⟨step_ok g gq.1 hd.1, step_ok g' gq.2 hd.2.1⟩
theorem nbp_ok (g : h.ok) (g' : h'.ok) (q : Pr) (gq : q.1.ok h ∧ q.2.ok h') : ∀ x ∈ nbp h h' q, x.2.1.ok h ∧ x.2.2.ok h' := fun x hx => by
  obtain ⟨d, hd, rfl⟩ := List.mem_map.mp hx
  exact stp_ok g g' gq (by simpa using (List.mem_filter.mp hd).2)
theorem pr_ok (g : h.ok) (g' : h'.ok) {c : List Dd} {q : Pr} (p : Path (nbp h h') (begin_ h, begin_ h') c q) : q.1.ok h ∧ q.2.ok h' :=
  p.keep (P := fun q => q.1.ok h ∧ q.2.ok h') ⟨begin_ok g, begin_ok g'⟩ (nbp_ok g g')
def box2 : List Pr := box.flatMap fun a => box.map fun b => (a, b)
theorem box2_len : box2.length = 36864 := by decide +kernel
theorem ptab_len (g : h.ok) (g' : h'.ok) {i : Nat} {F : PTab} (iv : Inv0 (nbp h h') (begin_ h, begin_ h') i F) : F.length ≤ 36864 := by
  have := nodup_len (F.map (·.1)) box2 iv.nd fun x hx => by
    obtain ⟨p, hp, rfl⟩ := List.mem_map.mp hx
    obtain ⟨h1, h2⟩ := pr_ok g g' (iv.path p hp)
    exact List.mem_flatMap.mpr ⟨p.1.1, mem_box g h1, List.mem_map.mpr ⟨p.1.2, mem_box g' h2, rfl⟩⟩
  rw [box2_len, List.length_map] at this
  exact this
theorem bst_pair {i : Nat} {F : PTab} {q : Pr} {c : List Dd} (hs : F[i]? = some (q, c)) (e : (bth h h' q).find? (odd h h' q) = none) : bst (nbp h h') i F = (bth h h' q).foldl (fun F d => ex1 c F (d, stp h h' q d)) F := by
  unfold bst
  rw [hs]
  have : (bth h h' q).filter (fun d => !odd h h' q d) = bth h h' q := List.filter_eq_self.mpr fun d hd => by
    have := List.find?_eq_none.mp e d hd
    simpa using this
  simp only [expand, nbp, this, List.foldl_map]
theorem mem_nbp {q : Pr} {d : Dd} (hd : d ∈ bth h h' q) (e : odd h h' q d = false) : (d, stp h h' q d) ∈ nbp h h' q :=
  List.mem_map.mpr ⟨d, List.mem_filter.mpr ⟨hd, by rw [e]; rfl⟩, rfl⟩
theorem bth_len (g : h.ok) (g' : h'.ok) (q : Pr) : (deeds h q.1 ++ deeds h' q.2).length < 60 ∧ deeds h q.1 ++ deeds h' q.2 ≠ [] := by
  have l1 := deeds_len g q.1
  have l2 := deeds_len g' q.2
  exact ⟨by rw [List.length_append]; omega, by simp [deeds]⟩
theorem sset_bth (g : h.ok) (g' : h'.ok) (q : Pr) (m : MH) : bSortedSet false [.d (.list ((deeds h q.1 ++ deeds h' q.2).map Dd.D))] m = .ok (.d (.list ((bth h h' q).map Dd.D))) m := sset_dd (bth_len g g' q).1 (bth_len g g' q).2 m
end
theorem cne_wds {a b : Wds} {m : MH} (ha : ∀ x ∈ a, x ∈ okStrs) (hb : ∀ x ∈ b, x ∈ okStrs) : cmpW .ne (.d (Wds.D a)) (.d (Wds.D b)) m = .ok (!decide (a = b)) m := by
  rw [cmp_ne_lay ((layWds ha).mono (by omega)) ((layWds hb).mono (by omega)), eqv_wds ha hb]
theorem szp {n : Nat} (h : n ≤ 100000) : n ≤ sizeLine := by
  have : (100000 : Nat) ≤ sizeLine := by decide +kernel
  omega
/-- a loop that carries a state and may end with an answer -/
theorem forV_stop {α S : Type} {asg : D → Env → Option Env} {body : Env → MH → RS} {f : α → D} {nxt : S → α → S} {Pe : S → Env → MH → Prop} {od : α → Bool} {V : α → W} {Q : MH → Prop} : ∀ (xs : List α) (s : S) (e : Env) (m : MH),
    (∀ a ∈ xs, od a = false → ∀ s e m, Pe s e m → ∃ e1 e2 m2, asg (f a) e = some e1 ∧ body e1 m = .nx e2 m2 ∧ Pe (nxt s a) e2 m2) →
    (∀ a ∈ xs, od a = true → ∀ s e m, Pe s e m → ∃ e1 m2, asg (f a) e = some e1 ∧ body e1 m = .rt (V a) m2 ∧ Q m2) → Pe s e m →
    (∃ a m', xs.find? od = some a ∧ forV asg body (xs.map f) e m = .rt (V a) m' ∧ Q m') ∨ (xs.find? od = none ∧ ∃ e' m', forV asg body (xs.map f) e m = .nx e' m' ∧ Pe (xs.foldl nxt s) e' m')
  | [], s, e, m, _, _, h => .inr ⟨rfl, e, m, rfl, h⟩
  | a :: xs, s, e, m, st, sr, h => by
    cases ho : od a with
    | false =>
      obtain ⟨e1, e2, m2, h1, h2, h3⟩ := st a List.mem_cons_self ho s e m h
      rw [List.map_cons, forV_cons h1 h2, List.find?_cons, ho]
      exact forV_stop xs (nxt s a) e2 m2 (fun b hb => st b (List.mem_cons_of_mem _ hb)) (fun b hb => sr b (List.mem_cons_of_mem _ hb)) h3
    | true =>
      obtain ⟨e1, m2, h1, h2, h3⟩ := sr a List.mem_cons_self ho s e m h
      refine .inl ⟨a, m2, by rw [List.find?_cons, ho], ?_, h3⟩
      simp only [List.map_cons, forV, h1, h2]
/-- walks that may end with an answer -/
theorem forV_fromR {asg : D → Env → Option Env} {body : Env → MH → RS} {ds : List D} {P : Nat → Env → MH → Prop} {Z : W → MH → Prop} (step : ∀ j d e m, ds[j]? = some d → P j e m → ∃ e1, asg d e = some e1 ∧ ((∃ e2 m2, body e1 m = .nx e2 m2 ∧ P (j + 1) e2 m2) ∨ ∃ w m2, body e1 m = .rt w m2 ∧ Z w m2)) : ∀ (n j : Nat) (e : Env) (m : MH), j + n = ds.length → P j e m →
    (∃ e' m', forV asg body (ds.drop j) e m = .nx e' m' ∧ P ds.length e' m') ∨ ∃ w m', forV asg body (ds.drop j) e m = .rt w m' ∧ Z w m'
  | 0, j, e, m, hj, h => by
    rw [List.drop_eq_nil_of_le (by omega)]
    exact .inl ⟨e, m, rfl, by rw [← hj]; exact h⟩
  | n + 1, j, e, m, hj, h => by
    have hl : j < ds.length := by omega
    obtain ⟨e1, h1, h2⟩ := step j ds[j] e m (List.getElem?_eq_getElem hl) h
    rw [List.drop_eq_getElem_cons hl]
    rcases h2 with ⟨e2, m2, h2, h3⟩ | ⟨w, m2, h2, h3⟩
    · rw [forV_cons h1 h2]
      exact forV_fromR step n (j + 1) e2 m2 (by omega) h3
    · exact .inr ⟨w, m2, by simp only [forV, h1, h2], h3⟩
theorem forV_walkR {asg : D → Env → Option Env} {body : Env → MH → RS} {ds : List D} {P : Nat → Env → MH → Prop} {Z : W → MH → Prop} (step : ∀ j d e m, ds[j]? = some d → P j e m → ∃ e1, asg d e = some e1 ∧ ((∃ e2 m2, body e1 m = .nx e2 m2 ∧ P (j + 1) e2 m2) ∨ ∃ w m2, body e1 m = .rt w m2 ∧ Z w m2)) {e : Env} {m : MH} (h : P 0 e m) :
    (∃ e' m', forV asg body ds e m = .nx e' m' ∧ P ds.length e' m') ∨ ∃ w m', forV asg body ds e m = .rt w m' ∧ Z w m' := forV_fromR step ds.length 0 e m (by omega) h
theorem forP_fromR {asg : D → Env → Option Env} {body : Env → MH → RS} {ds : List D} {p : Nat} {P : Nat → Env → MH → Prop} {Z : W → MH → Prop} (hP : ∀ j e m, P j e m → m[p]? = some (.lst ds)) (step : ∀ j d e m, ds[j]? = some d → P j e m → ∃ e1, asg d e = some e1 ∧ ((∃ e2 m2, body e1 m = .nx e2 m2 ∧ P (j + 1) e2 m2) ∨ ∃ w m2, body e1 m = .rt w m2 ∧ Z w m2)) : ∀ (n j : Nat) (e : Env) (m : MH), j + n = ds.length → P j e m →
    (∃ e' m', forP asg body p n j e m = .nx e' m' ∧ P ds.length e' m') ∨ ∃ w m', forP asg body p n j e m = .rt w m' ∧ Z w m'
  | 0, j, e, m, hj, h => .inl ⟨e, m, by simp only [forP, hP j e m h, if_pos (show ds.length ≤ j by omega)], by rw [← hj]; exact h⟩
  | n + 1, j, e, m, hj, h => by
    have hl : j < ds.length := by omega
    obtain ⟨e1, h1, h2⟩ := step j ds[j] e m (List.getElem?_eq_getElem hl) h
    rcases h2 with ⟨e2, m2, h2, h3⟩ | ⟨w, m2, h2, h3⟩
    · rcases forP_fromR hP step n (j + 1) e2 m2 (by omega) h3 with ⟨e', m', h4, h5⟩ | ⟨w, m', h4, h5⟩
      · exact .inl ⟨e', m', by simp only [forP, hP j e m h, List.getElem?_eq_getElem hl, h1, h2, h4], h5⟩
      · exact .inr ⟨w, m', by simp only [forP, hP j e m h, List.getElem?_eq_getElem hl, h1, h2, h4], h5⟩
    · exact .inr ⟨w, m2, by simp only [forP, hP j e m h, List.getElem?_eq_getElem hl, h1, h2], h3⟩
theorem forP_walkR {asg : D → Env → Option Env} {body : Env → MH → RS} {ds : List D} {p : Nat} {P : Nat → Env → MH → Prop} {Z : W → MH → Prop} (hP : ∀ j e m, P j e m → m[p]? = some (.lst ds)) (step : ∀ j d e m, ds[j]? = some d → P j e m → ∃ e1, asg d e = some e1 ∧ ((∃ e2 m2, body e1 m = .nx e2 m2 ∧ P (j + 1) e2 m2) ∨ ∃ w m2, body e1 m = .rt w m2 ∧ Z w m2)) {e : Env} {m : MH} (h : P 0 e m) :
    (∃ e' m', forP asg body p ds.length 0 e m = .nx e' m' ∧ P ds.length e' m') ∨ ∃ w m', forP asg body p ds.length 0 e m = .rt w m' ∧ Z w m' := forP_fromR hP step ds.length 0 e m (by omega) h
/-- the walk through pairs, computed -/
def prtF (h h' : Hs) : Nat → Nat → PTab → Option (Option (List Dd))
  | 0, _, _ => none
  | n + 1, i, F => match F[i]? with
    | none => some none
    | some (q, c) => match (bth h h' q).find? (odd h h' q) with
      | some d => some (some (c ++ [d]))
      | none => prtF h h' n (i + 1) (bst (nbp h h') i F)
theorem prtF_ends {h h' : Hs} {r : Option (List Dd)} : ∀ (n i : Nat) (F : PTab), F = pit h h' i → (∀ j, j < i → ∃ q c, (pit h h' j)[j]? = some (q, c) ∧ (bth h h' q).find? (odd h h' q) = none) → prtF h h' n i F = some r → Ends h h' r
  | 0, _, _, _, _, e => nomatch e
  | n + 1, i, F, hF, hall, e => by
    unfold prtF at e
    cases hs : F[i]? with
    | none =>
      rw [hs] at e
      exact ⟨i, hall, .inl ⟨hF ▸ hs, (Option.some.inj e).symm⟩⟩
    | some p =>
      obtain ⟨q, c⟩ := p
      rw [hs] at e
      simp only at e
      cases hd : (bth h h' q).find? (odd h h' q) with
      | some d =>
        rw [hd] at e
        exact ⟨i, hall, .inr ⟨q, c, d, hF ▸ hs, hd, (Option.some.inj e).symm⟩⟩
      | none =>
        rw [hd] at e
        refine prtF_ends n (i + 1) _ ?_ (fun j hj => ?_) e
        · rw [hF]
          unfold pit
          rw [itr_succ, Nat.zero_add]
        · by_cases z : j < i
          · exact hall j z
          · have : j = i := by omega
            subst this
            exact ⟨q, c, hF ▸ hs, hd⟩
end Sim
set_option maxHeartbeats 4000000
namespace K31
open PySem L2 Sim
def top (i : Nat) : Stmt := PySem.Challenge.pw_sharedcar_k31_households_compared.main.body.getD i (.Pass ⟨0, 0, 0, 0⟩)
def TF : List (Str × Nat) := [(("is_whole" : Str), 3), (("is_word" : Str), 2), (("is_right_habit" : Str), 1), (("is_fines" : Str), 2), (("is_right_house" : Str), 1), (("need_house" : Str), 1), (("begun" : Str), 1), (("looked_at" : Str), 2), (("driven" : Str), 5), (("drive" : Str), 5), (("dawn" : Str), 2), (("step" : Str), 3), (("deeds_of" : Str), 2), (("parted" : Str), 2), (("need_both" : Str), 2), (("alike" : Str), 2), (("parting" : Str), 2), (("_law_source" : Str), 2), (("_law_pick" : Str), 2), (("_law_chosen" : Str), 2), (("_law_is_bool" : Str), 2), (("_law_table" : Str), 0), (("_law_somebody" : Str), 1), (("_law_home" : Str), 2), (("_law_sought" : Str), 3), (("_law_drive" : Str), 5), (("_law_next" : Str), 3), (("_law_all_deeds" : Str), 2), (("_law_first" : Str), 1), (("_law_outcome" : Str), 3), (("_law_other" : Str), 2), (("_law_parting" : Str), 2), (("law" : Str), 1)]
def TB : List Str := ["ValueError", "all", "bool", "enumerate", "int", "isinstance", "len", "list", "max", "min", "range", "set", "sorted", "str", "tuple"]
def TG : List Str := ["LOOKS", "PARKS", "FILLS", "KEYS", "MOST"]
def TE : List Str := ["InvalidHouse", "Unlike"]
def v_LOOKS : Sim.D := (.tuple [(.str "home"), (.str "note"), (.str "walks")])
def v_PARKS : Sim.D := (.tuple [(.str "any"), (.str "home")])
def v_FILLS : Sim.D := (.tuple [(.str "always"), (.str "low"), (.str "never")])
def v_KEYS : Sim.D := (.tuple [(.str "hook"), (.str "keeps"), (.str "morning")])
def v_MOST : Sim.D := (.int 3)
def GL : List (Str × Sim.D) := [(("LOOKS" : Str), v_LOOKS), (("PARKS" : Str), v_PARKS), (("FILLS" : Str), v_FILLS), (("KEYS" : Str), v_KEYS), (("MOST" : Str), v_MOST)]
def G (x : Str) : Option Sim.D := GL.lookup x
theorem g_LOOKS : G "LOOKS" = some v_LOOKS := rfl
theorem g_PARKS : G "PARKS" = some v_PARKS := rfl
theorem g_FILLS : G "FILLS" = some v_FILLS := rfl
theorem g_KEYS : G "KEYS" = some v_KEYS := rfl
theorem g_MOST : G "MOST" = some v_MOST := rfl
def XL : List (Str × Str) := [(("InvalidHouse" : Str), ("InvalidHouse" : Str)), (("Unlike" : Str), ("Unlike" : Str))]
def XX (a b : Str) : Bool := XL.any fun p => decide (p.1 = a) && decide (p.2 = b)
def n_is_whole : List Str := ["value", "low", "high"]
def b_is_whole : SSs := (.cons (.ret (.and (.isin "int" (.var 0)) (.and (.not (.isin "bool" (.var 0))) (.chain .le .le (.var 1) (.var 0) (.var 2))))) .nil)
def f_is_whole : Fn := ⟨"is_whole", 3, n_is_whole, b_is_whole, false⟩
def Γ_is_whole : Gam := ⟨n_is_whole, defScope (top 10), TF, TB, TG, TE, [], false, true⟩
def n_is_word : List Str := ["value", "words"]
def b_is_word : SSs := (.cons (.ret (.and (.isin "str" (.var 0)) (.cmp .in_ (.var 0) (.var 1)))) .nil)
def f_is_word : Fn := ⟨"is_word", 2, n_is_word, b_is_word, false⟩
def Γ_is_word : Gam := ⟨n_is_word, defScope (top 11), TF, TB, TG, TE, [], false, true⟩
def n_is_right_habit : List Str := ["value"]
def b_is_right_habit : SSs := (.cons (.ite (.or (.not (.isin "tuple" (.var 0))) (.cmp .ne (.blt false "len" (.cons (.var 0) .nil)) (.dat (.int 6)))) (.cons (.ret (.dat (.bool false))) .nil) .nil) (.cons (.ite (.or (.not (.isin "bool" (.idx (.var 0) (.dat (.int 3))))) (.or (.not (.isin "bool" (.idx (.var 0) (.dat (.int 5))))) (.not (.call "is_word" (.cons (.idx (.var 0) (.dat (.int 4))) (.cons (.glob "KEYS") .nil)))))) (.cons (.ret (.dat (.bool false))) .nil) .nil) (.cons (.ret (.and (.call "is_word" (.cons (.idx (.var 0) (.dat (.int 0))) (.cons (.glob "LOOKS") .nil))) (.and (.call "is_word" (.cons (.idx (.var 0) (.dat (.int 1))) (.cons (.glob "PARKS") .nil))) (.call "is_word" (.cons (.idx (.var 0) (.dat (.int 2))) (.cons (.glob "FILLS") .nil)))))) .nil)))
def f_is_right_habit : Fn := ⟨"is_right_habit", 1, n_is_right_habit, b_is_right_habit, false⟩
def Γ_is_right_habit : Gam := ⟨n_is_right_habit, defScope (top 12), TF, TB, TG, TE, [], false, true⟩
def n_is_fines : List Str := ["places", "value", "place"]
def b_is_fines : SSs := (.cons (.ite (.or (.not (.isin "tuple" (.var 1))) (.not (.blt false "all" (.cons (.comp false (.call "is_whole" (.cons (.var 2) (.cons (.dat (.int 0)) (.cons (.bin false .sub (.var 0) (.dat (.int 1))) .nil)))) [2] false (.val (.var 1)) .nop [2]) .nil)))) (.cons (.ret (.dat (.bool false))) .nil) .nil) (.cons (.ret (.cmp .eq (.blt false "list" (.cons (.var 1) .nil)) (.blt false "sorted set!" (.cons (.var 1) .nil)))) .nil))
def f_is_fines : Fn := ⟨"is_fines", 2, n_is_fines, b_is_fines, false⟩
def Γ_is_fines : Gam := ⟨n_is_fines, defScope (top 13), TF, TB, TG, TE, [], false, true⟩
def n_is_right_house : List Str := ["value", "places", "tank", "board", "fines", "people", "habit"]
def b_is_right_house : SSs := (.cons (.ite (.or (.not (.isin "tuple" (.var 0))) (.cmp .ne (.blt false "len" (.cons (.var 0) .nil)) (.dat (.int 5)))) (.cons (.ret (.dat (.bool false))) .nil) .nil) (.cons (.asgT [1, 2, 3, 4, 5] (.var 0)) (.cons (.ite (.or (.not (.call "is_whole" (.cons (.var 1) (.cons (.dat (.int 1)) (.cons (.glob "MOST") .nil))))) (.or (.not (.call "is_whole" (.cons (.var 2) (.cons (.dat (.int 1)) (.cons (.glob "MOST") .nil))))) (.not (.isin "bool" (.var 3))))) (.cons (.ret (.dat (.bool false))) .nil) .nil) (.cons (.ite (.or (.not (.call "is_fines" (.cons (.var 1) (.cons (.var 4) .nil)))) (.or (.not (.isin "tuple" (.var 5))) (.not (.chain .le .le (.dat (.int 1)) (.blt false "len" (.cons (.var 5) .nil)) (.glob "MOST"))))) (.cons (.ret (.dat (.bool false))) .nil) .nil) (.cons (.ret (.blt false "all" (.cons (.comp false (.call "is_right_habit" (.cons (.var 6) .nil)) [6] false (.val (.var 5)) .nop [6]) .nil))) .nil)))))
def f_is_right_house : Fn := ⟨"is_right_house", 1, n_is_right_house, b_is_right_house, false⟩
def Γ_is_right_house : Gam := ⟨n_is_right_house, defScope (top 14), TF, TB, TG, TE, [], false, true⟩
def n_need_house : List Str := ["value"]
def b_need_house : SSs := (.cons (.ite (.not (.call "is_right_house" (.cons (.var 0) .nil))) (.cons (.raise "InvalidHouse") .nil) .nil) .nil)
def f_need_house : Fn := ⟨"need_house", 1, n_need_house, b_need_house, false⟩
def Γ_need_house : Gam := ⟨n_need_house, defScope (top 15), TF, TB, TG, TE, [], false, true⟩
def n_begun : List Str := ["house"]
def b_begun : SSs := (.cons (.ret (.tup (.cons (.dat (.int 0)) (.cons (.idx (.var 0) (.dat (.int 1))) (.cons (.neg (.dat (.int 1))) (.cons (.neg (.dat (.int 1))) .nil)))))) .nil)
def f_begun : Fn := ⟨"begun", 1, n_begun, b_begun, false⟩
def Γ_begun : Gam := ⟨n_begun, defScope (top 17), TF, TB, TG, TE, [], false, true⟩
def n_looked_at : List Str := ["habit", "stand"]
def b_looked_at : SSs := (.cons (.ret (.ite (.and (.cmp .eq (.idx (.var 0) (.dat (.int 0))) (.dat (.str "note"))) (.cmp .ge (.idx (.var 1) (.dat (.int 3))) (.dat (.int 0)))) (.idx (.var 1) (.dat (.int 3))) (.dat (.int 0)))) .nil)
def f_looked_at : Fn := ⟨"looked_at", 2, n_looked_at, b_looked_at, false⟩
def Γ_looked_at : Gam := ⟨n_looked_at, defScope (top 18), TF, TB, TG, TE, [], false, true⟩
def n_driven : List Str := ["house", "stand", "number", "place", "forgot", "fuel", "where", "key", "note", "habit", "words"]
def b_driven : SSs := (.cons (.asgT [6, 5, 7, 8] (.var 1)) (.cons (.par [9, 10] (.cons (.idx (.idx (.var 0) (.dat (.int 4))) (.var 2)) (.cons (.tup (.cons (.dat (.str "drives")) .nil)) .nil))) (.cons (.asg 5 (.bin false .sub (.var 5) (.dat (.int 1)))) (.cons (.ite (.or (.cmp .eq (.idx (.var 9) (.dat (.int 2))) (.dat (.str "always"))) (.and (.cmp .eq (.idx (.var 9) (.dat (.int 2))) (.dat (.str "low"))) (.cmp .eq (.var 5) (.dat (.int 0))))) (.cons (.par [5, 10] (.cons (.idx (.var 0) (.dat (.int 1))) (.cons (.bin false .add (.var 10) (.tup (.cons (.dat (.str "fills")) .nil))) .nil))) .nil) .nil) (.cons (.ite (.and (.idx (.var 9) (.dat (.int 3))) (.and (.idx (.var 0) (.dat (.int 2))) (.not (.var 4)))) (.cons (.par [8, 10] (.cons (.var 3) (.cons (.bin false .add (.var 10) (.tup (.cons (.dat (.str "writes")) .nil))) .nil))) .nil) .nil) (.cons (.ite (.cmp .eq (.idx (.var 9) (.dat (.int 4))) (.dat (.str "hook"))) (.cons (.ret (.tup (.cons (.tup (.cons (.var 3) (.cons (.var 5) (.cons (.neg (.dat (.int 1))) (.cons (.var 8) .nil))))) (.cons (.bin false .add (.var 10) (.tup (.cons (.dat (.str "hangs")) .nil))) .nil)))) .nil) .nil) (.cons (.ret (.tup (.cons (.tup (.cons (.var 3) (.cons (.var 5) (.cons (.var 2) (.cons (.var 8) .nil))))) (.cons (.var 10) .nil)))) .nil)))))))
def f_driven : Fn := ⟨"driven", 5, n_driven, b_driven, false⟩
def Γ_driven : Gam := ⟨n_driven, defScope (top 19), TF, TB, TG, TE, [], false, true⟩
def n_drive : List Str := ["house", "stand", "number", "place", "forgot", "habit", "where", "fuel", "key", "note", "there", "words"]
def b_drive : SSs := (.cons (.asgT [6, 7, 8, 9] (.var 1)) (.cons (.asg 5 (.idx (.idx (.var 0) (.dat (.int 4))) (.var 2))) (.cons (.ite (.cmp .nin (.var 8) (.tup (.cons (.neg (.dat (.int 1))) (.cons (.var 2) .nil)))) (.cons (.ret (.tup (.cons (.var 1) (.cons (.tup (.cons (.dat (.str "keyless")) .nil)) .nil)))) .nil) .nil) (.cons (.ite (.and (.cmp .ne (.idx (.var 5) (.dat (.int 0))) (.dat (.str "walks"))) (.cmp .ne (.call "looked_at" (.cons (.var 5) (.cons (.var 1) .nil))) (.var 6))) (.cons (.ret (.tup (.cons (.var 1) (.cons (.tup (.cons (.dat (.str "missed")) .nil)) .nil)))) .nil) .nil) (.cons (.ite (.cmp .gt (.var 7) (.dat (.int 0))) (.cons (.ret (.call "driven" (.cons (.var 0) (.cons (.var 1) (.cons (.var 2) (.cons (.var 3) (.cons (.var 4) .nil))))))) .nil) .nil) (.cons (.ite (.cmp .eq (.idx (.var 5) (.dat (.int 2))) (.dat (.str "never"))) (.cons (.ret (.tup (.cons (.var 1) (.cons (.tup (.cons (.dat (.str "empty")) .nil)) .nil)))) .nil) .nil) (.cons (.asgT [10, 11] (.call "driven" (.cons (.var 0) (.cons (.tup (.cons (.var 6) (.cons (.idx (.var 0) (.dat (.int 1))) (.cons (.var 8) (.cons (.var 9) .nil))))) (.cons (.var 2) (.cons (.var 3) (.cons (.var 4) .nil))))))) (.cons (.ret (.tup (.cons (.var 10) (.cons (.bin false .add (.tup (.cons (.dat (.str "empty")) (.cons (.dat (.str "fills")) .nil))) (.var 11)) .nil)))) .nil))))))))
def f_drive : Fn := ⟨"drive", 5, n_drive, b_drive, false⟩
def Γ_drive : Gam := ⟨n_drive, defScope (top 20), TF, TB, TG, TE, [], false, true⟩
def n_dawn : List Str := ["house", "stand", "words", "where", "fuel", "key", "note"]
def b_dawn : SSs := (.cons (.asgT [3, 4, 5, 6] (.var 1)) (.cons (.asg 2 (.ite (.cmp .in_ (.var 3) (.idx (.var 0) (.dat (.int 3)))) (.tup (.cons (.dat (.str "fined")) .nil)) (.tup .nil))) (.cons (.ite (.and (.cmp .ge (.var 5) (.dat (.int 0))) (.cmp .eq (.idx (.idx (.idx (.var 0) (.dat (.int 4))) (.var 5)) (.dat (.int 4))) (.dat (.str "morning")))) (.cons (.ret (.tup (.cons (.tup (.cons (.var 3) (.cons (.var 4) (.cons (.neg (.dat (.int 1))) (.cons (.var 6) .nil))))) (.cons (.bin false .add (.var 2) (.tup (.cons (.dat (.str "hangs")) .nil))) .nil)))) .nil) .nil) (.cons (.ret (.tup (.cons (.var 1) (.cons (.var 2) .nil)))) .nil))))
def f_dawn : Fn := ⟨"dawn", 2, n_dawn, b_dawn, false⟩
def Γ_dawn : Gam := ⟨n_dawn, defScope (top 21), TF, TB, TG, TE, [], false, true⟩
def n_step : List Str := ["house", "stand", "deed", "word", "number", "place", "forgot"]
def b_step : SSs := (.cons (.ite (.cmp .eq (.var 2) (.tup (.cons (.dat (.str "morning")) .nil))) (.cons (.ret (.call "dawn" (.cons (.var 0) (.cons (.var 1) .nil)))) .nil) .nil) (.cons (.asgT [3, 4, 5, 6] (.var 2)) (.cons (.ret (.call "drive" (.cons (.var 0) (.cons (.var 1) (.cons (.var 4) (.cons (.var 5) (.cons (.var 6) .nil))))))) .nil)))
def f_step : Fn := ⟨"step", 3, n_step, b_step, false⟩
def Γ_step : Gam := ⟨n_step, defScope (top 22), TF, TB, TG, TE, [], false, true⟩
def n_deeds_of : List Str := ["house", "stand", "found", "number", "habit", "place", "calm"]
def L_deeds_of_1 : SSs := (.cons (.expr (.meth false "append" (.var 2) (.cons (.tup (.cons (.dat (.str "drive")) (.cons (.var 3) (.cons (.var 5) (.cons (.dat (.bool false)) .nil))))) .nil))) (.cons (.ite (.idx (.var 4) (.dat (.int 5))) (.cons (.asg 6 (.call "drive" (.cons (.var 0) (.cons (.var 1) (.cons (.var 3) (.cons (.var 5) (.cons (.dat (.bool false)) .nil))))))) (.cons (.ite (.cmp .ne (.idx (.call "drive" (.cons (.var 0) (.cons (.var 1) (.cons (.var 3) (.cons (.var 5) (.cons (.dat (.bool true)) .nil)))))) (.dat (.int 0))) (.idx (.var 6) (.dat (.int 0)))) (.cons (.expr (.meth false "append" (.var 2) (.cons (.tup (.cons (.dat (.str "drive")) (.cons (.var 3) (.cons (.var 5) (.cons (.dat (.bool true)) .nil))))) .nil))) .nil) .nil) .nil)) .nil) .nil))
def L_deeds_of_0 : SSs := (.cons (.for_ [5] false (.rng1 (.ite (.cmp .eq (.idx (.var 4) (.dat (.int 1))) (.dat (.str "any"))) (.idx (.var 0) (.dat (.int 0))) (.dat (.int 1)))) L_deeds_of_1) .nil)
def T_deeds_of_0 : SSs := (.cons (.ret (.bin false .add (.var 2) (.lst false (.cons (.tup (.cons (.dat (.str "morning")) .nil)) .nil)))) .nil)
def b_deeds_of : SSs := (.cons (.asg 2 (.lst true .nil)) (.cons (.for_ [3, 4] true (.enum (.idx (.var 0) (.dat (.int 4)))) L_deeds_of_0) T_deeds_of_0))
def f_deeds_of : Fn := ⟨"deeds_of", 2, n_deeds_of, b_deeds_of, false⟩
def Γ_deeds_of : Gam := ⟨n_deeds_of, defScope (top 23), TF, TB, TG, TE, ["found"], false, true⟩
def n_parted : List Str := ["one", "other", "first", "known", "line", "later", "pair", "course", "deed", "mine", "yours", "here", "there"]
def L_parted_2 : SSs := (.cons (.ite (.or (.cmp .nin (.var 8) (.var 9)) (.cmp .nin (.var 8) (.var 10))) (.cons (.ret (.bin false .add (.var 7) (.tup (.cons (.var 8) .nil)))) .nil) .nil) (.cons (.par [11, 12] (.cons (.call "step" (.cons (.var 0) (.cons (.idx (.var 6) (.dat (.int 0))) (.cons (.var 8) .nil)))) (.cons (.call "step" (.cons (.var 1) (.cons (.idx (.var 6) (.dat (.int 1))) (.cons (.var 8) .nil)))) .nil))) (.cons (.ite (.cmp .ne (.idx (.var 11) (.dat (.int 1))) (.idx (.var 12) (.dat (.int 1)))) (.cons (.ret (.bin false .add (.var 7) (.tup (.cons (.var 8) .nil)))) .nil) .nil) (.cons (.ite (.cmp .nin (.tup (.cons (.idx (.var 11) (.dat (.int 0))) (.cons (.idx (.var 12) (.dat (.int 0))) .nil))) (.var 3)) (.cons (.sub (.var 3) (.tup (.cons (.idx (.var 11) (.dat (.int 0))) (.cons (.idx (.var 12) (.dat (.int 0))) .nil))) (.dat (.bool true))) (.cons (.expr (.meth false "append" (.var 5) (.cons (.tup (.cons (.tup (.cons (.idx (.var 11) (.dat (.int 0))) (.cons (.idx (.var 12) (.dat (.int 0))) .nil))) (.cons (.bin false .add (.var 7) (.tup (.cons (.var 8) .nil))) .nil))) .nil))) .nil)) .nil) .nil))))
def L_parted_1 : SSs := (.cons (.par [9, 10] (.cons (.call "deeds_of" (.cons (.var 0) (.cons (.idx (.var 6) (.dat (.int 0))) .nil))) (.cons (.call "deeds_of" (.cons (.var 1) (.cons (.idx (.var 6) (.dat (.int 1))) .nil))) .nil))) (.cons (.for_ [8] false (.val (.blt false "sorted set!" (.cons (.bin false .add (.var 9) (.var 10)) .nil))) L_parted_2) .nil))
def T_parted_1 : SSs := (.cons (.asg 4 (.var 5)) .nil)
def L_parted_0 : SSs := (.cons (.asg 5 (.lst true .nil)) (.cons (.for_ [6, 7] true (.val (.var 4)) L_parted_1) T_parted_1))
def T_parted_0 : SSs := (.cons (.ret (.dat .none)) .nil)
def b_parted : SSs := (.cons (.asg 2 (.tup (.cons (.call "begun" (.cons (.var 0) .nil)) (.cons (.call "begun" (.cons (.var 1) .nil)) .nil)))) (.cons (.asg 3 (.dct0 true)) (.cons (.sub (.var 3) (.var 2) (.dat (.bool true))) (.cons (.asg 4 (.lst false (.cons (.tup (.cons (.var 2) (.cons (.tup .nil) .nil))) .nil))) (.cons (.whl (.cmp .ne (.var 4) (.lst false .nil)) L_parted_0) T_parted_0)))))
def f_parted : Fn := ⟨"parted", 2, n_parted, b_parted, false⟩
def Γ_parted : Gam := ⟨n_parted, defScope (top 25), TF, TB, TG, TE, ["known", "later"], false, true⟩
def n_need_both : List Str := ["one", "other"]
def b_need_both : SSs := (.cons (.expr (.call "need_house" (.cons (.var 0) .nil))) (.cons (.expr (.call "need_house" (.cons (.var 1) .nil))) (.cons (.ite (.or (.cmp .ne (.idx (.var 0) (.dat (.int 0))) (.idx (.var 1) (.dat (.int 0)))) (.cmp .ne (.blt false "len" (.cons (.idx (.var 0) (.dat (.int 4))) .nil)) (.blt false "len" (.cons (.idx (.var 1) (.dat (.int 4))) .nil)))) (.cons (.raise "Unlike") .nil) .nil) .nil)))
def f_need_both : Fn := ⟨"need_both", 2, n_need_both, b_need_both, false⟩
def Γ_need_both : Gam := ⟨n_need_both, defScope (top 26), TF, TB, TG, TE, [], false, true⟩
def n_alike : List Str := ["one", "other"]
def b_alike : SSs := (.cons (.expr (.call "need_both" (.cons (.var 0) (.cons (.var 1) .nil)))) (.cons (.ret (.cmp .is_ (.call "parted" (.cons (.var 0) (.cons (.var 1) .nil))) (.dat .none))) .nil))
def f_alike : Fn := ⟨"alike", 2, n_alike, b_alike, false⟩
def Γ_alike : Gam := ⟨n_alike, defScope (top 27), TF, TB, TG, TE, [], false, true⟩
def n_parting : List Str := ["one", "other"]
def b_parting : SSs := (.cons (.expr (.call "need_both" (.cons (.var 0) (.cons (.var 1) .nil)))) (.cons (.ret (.call "parted" (.cons (.var 0) (.cons (.var 1) .nil)))) .nil))
def f_parting : Fn := ⟨"parting", 2, n_parting, b_parting, false⟩
def Γ_parting : Gam := ⟨n_parting, defScope (top 28), TF, TB, TG, TE, [], false, true⟩
def n__law_source : List Str := ["script", "k", "number", "start"]
def b__law_source : SSs := (.cons (.asg 2 (.dat (.int 0))) (.cons (.ite (.cmp .gt (.blt false "len" (.cons (.var 0) .nil)) (.var 1)) (.cons (.asg 2 (.blt false "int" (.cons (.idx (.var 0) (.var 1)) .nil))) .nil) .nil) (.cons (.asg 3 (.bin false .mod (.bin false .add (.bin false .add (.bin false .mul (.var 2) (.dat (.int 16807))) (.bin false .mul (.dat (.int 60919)) (.var 1))) (.dat (.int 31))) (.dat (.int 2147481173)))) (.cons (.asg 3 (.bin false .add (.bin false .add (.bin false .mod (.bin false .mul (.var 3) (.var 3)) (.dat (.int 2147481151))) (.bin false .mul (.dat (.int 2)) (.var 1))) (.dat (.int 5)))) (.cons (.ret (.lst true (.cons (.ite (.cmp .ge (.var 2) (.bin false .pow (.dat (.int 10)) (.dat (.int 18)))) (.var 2) (.dat (.int 0))) (.cons (.var 3) .nil)))) .nil)))))
def f__law_source : Fn := ⟨"_law_source", 2, n__law_source, b__law_source, true⟩
def Γ__law_source : Gam := ⟨n__law_source, defScope (top 30), TF, TB, TG, TE, [], true, true⟩
def n__law_pick : List Str := ["source", "many", "found"]
def b__law_pick : SSs := (.cons (.ite (.cmp .gt (.idx (.var 0) (.dat (.int 0))) (.dat (.int 0))) (.cons (.asg 2 (.bin false .mod (.blt false "int" (.cons (.idx (.var 0) (.dat (.int 0))) .nil)) (.var 1))) (.cons (.sub (.var 0) (.dat (.int 0)) (.bin false .fdiv (.blt false "int" (.cons (.idx (.var 0) (.dat (.int 0))) .nil)) (.var 1))) (.cons (.ret (.var 2)) .nil))) .nil) (.cons (.sub (.var 0) (.dat (.int 1)) (.bin false .mod (.blt false "int" (.cons (.bin false .add (.bin false .mul (.idx (.var 0) (.dat (.int 1))) (.dat (.int 44497))) (.dat (.int 9973))) .nil)) (.dat (.int 2147483647)))) (.cons (.ret (.bin false .mod (.bin false .fdiv (.bin false .mod (.blt false "int" (.cons (.bin false .mul (.idx (.var 0) (.dat (.int 1))) (.idx (.var 0) (.dat (.int 1)))) .nil)) (.dat (.int 2147483399))) (.dat (.int 11))) (.var 1))) .nil)))
def f__law_pick : Fn := ⟨"_law_pick", 2, n__law_pick, b__law_pick, false⟩
def Γ__law_pick : Gam := ⟨n__law_pick, defScope (top 31), TF, TB, TG, TE, ["source"], false, true⟩
def n__law_chosen : List Str := ["source", "things"]
def b__law_chosen : SSs := (.cons (.ret (.idx (.var 1) (.call "_law_pick" (.cons (.var 0) (.cons (.blt false "len" (.cons (.var 1) .nil)) .nil))))) .nil)
def f__law_chosen : Fn := ⟨"_law_chosen", 2, n__law_chosen, b__law_chosen, false⟩
def Γ__law_chosen : Gam := ⟨n__law_chosen, defScope (top 32), TF, TB, TG, TE, ["source"], false, true⟩
def n__law_is_bool : List Str := ["told", "due"]
def b__law_is_bool : SSs := (.cons (.ret (.and (.isin "bool" (.var 0)) (.cmp .eq (.var 0) (.var 1)))) .nil)
def f__law_is_bool : Fn := ⟨"_law_is_bool", 2, n__law_is_bool, b__law_is_bool, false⟩
def Γ__law_is_bool : Gam := ⟨n__law_is_bool, defScope (top 33), TF, TB, TG, TE, [], false, true⟩
def n__law_table : List Str := ["first"]
def b__law_table : SSs := (.cons (.asg 0 (.lst false (.cons (.lst false (.cons (.dat (.str "home")) (.cons (.dat (.str "note")) (.cons (.dat (.str "walks")) .nil)))) (.cons (.lst false (.cons (.dat (.str "any")) (.cons (.dat (.str "home")) .nil))) (.cons (.lst false (.cons (.dat (.str "always")) (.cons (.dat (.str "low")) (.cons (.dat (.str "never")) .nil)))) (.cons (.lst false (.cons (.dat (.bool false)) (.cons (.dat (.bool true)) .nil))) .nil)))))) (.cons (.ret (.bin false .add (.var 0) (.lst false (.cons (.lst false (.cons (.dat (.str "hook")) (.cons (.dat (.str "keeps")) (.cons (.dat (.str "morning")) .nil)))) (.cons (.lst false (.cons (.dat (.bool false)) (.cons (.dat (.bool true)) .nil))) .nil))))) .nil))
def f__law_table : Fn := ⟨"_law_table", 0, n__law_table, b__law_table, false⟩
def Γ__law_table : Gam := ⟨n__law_table, defScope (top 34), TF, TB, TG, TE, [], false, true⟩
def n__law_somebody : List Str := ["source", "first", "some"]
def b__law_somebody : SSs := (.cons (.asg 1 (.comp true (.call "_law_chosen" (.cons (.var 0) (.cons (.var 2) .nil))) [2] false (.val (.call "_law_table" .nil)) .nop [2])) (.cons (.sub (.var 1) (.dat (.int 4)) (.call "_law_chosen" (.cons (.var 0) (.cons (.lst false (.cons (.dat (.str "hook")) (.cons (.dat (.str "hook")) (.cons (.dat (.str "keeps")) (.cons (.dat (.str "morning")) .nil))))) .nil)))) (.cons (.sub (.var 1) (.dat (.int 5)) (.cmp .eq (.call "_law_pick" (.cons (.var 0) (.cons (.dat (.int 3)) .nil))) (.dat (.int 0)))) (.cons (.ret (.blt false "tuple" (.cons (.var 1) .nil))) .nil))))
def f__law_somebody : Fn := ⟨"_law_somebody", 1, n__law_somebody, b__law_somebody, false⟩
def Γ__law_somebody : Gam := ⟨n__law_somebody, defScope (top 35), TF, TB, TG, TE, ["first", "source"], false, true⟩
def n__law_home : List Str := ["source", "most", "people", "places", "dear", "turn", "place"]
def b__law_home : SSs := (.cons (.asg 2 (.blt false "tuple" (.cons (.comp false (.call "_law_somebody" (.cons (.var 0) .nil)) [5] false (.rng1 (.bin false .add (.dat (.int 1)) (.call "_law_pick" (.cons (.var 0) (.cons (.var 1) .nil))))) .nop [5]) .nil))) (.cons (.asg 3 (.bin false .add (.dat (.int 1)) (.call "_law_pick" (.cons (.var 0) (.cons (.dat (.int 3)) .nil))))) (.cons (.asg 4 (.blt false "tuple" (.cons (.comp false (.var 6) [6] false (.rng1 (.var 3)) (.cmp .eq (.call "_law_pick" (.cons (.var 0) (.cons (.dat (.int 4)) .nil))) (.dat (.int 0))) [6]) .nil))) (.cons (.ret (.tup (.cons (.var 3) (.cons (.bin false .add (.dat (.int 1)) (.call "_law_pick" (.cons (.var 0) (.cons (.dat (.int 3)) .nil)))) (.cons (.cmp .gt (.call "_law_pick" (.cons (.var 0) (.cons (.dat (.int 3)) .nil))) (.dat (.int 0))) (.cons (.var 4) (.cons (.var 2) .nil))))))) .nil))))
def f__law_home : Fn := ⟨"_law_home", 2, n__law_home, b__law_home, false⟩
def Γ__law_home : Gam := ⟨n__law_home, defScope (top 36), TF, TB, TG, TE, ["source"], false, true⟩
def n__law_sought : List Str := ["person", "where", "note"]
def b__law_sought : SSs := (.cons (.ite (.cmp .eq (.idx (.var 0) (.dat (.int 0))) (.dat (.str "walks"))) (.cons (.ret (.dat (.bool true))) .nil) .nil) (.cons (.ret (.cmp .eq (.var 1) (.ite (.and (.cmp .eq (.idx (.var 0) (.dat (.int 0))) (.dat (.str "note"))) (.cmp .ne (.var 2) (.neg (.dat (.int 1))))) (.var 2) (.dat (.int 0))))) .nil))
def f__law_sought : Fn := ⟨"_law_sought", 3, n__law_sought, b__law_sought, false⟩
def Γ__law_sought : Gam := ⟨n__law_sought, defScope (top 37), TF, TB, TG, TE, [], false, true⟩
def n__law_drive : List Str := ["home", "spot", "number", "place", "forgot", "key", "where", "fuel", "note", "person", "tells"]
def b__law_drive : SSs := (.cons (.asgT [6, 7, 5, 8] (.var 1)) (.cons (.par [9, 10] (.cons (.idx (.idx (.var 0) (.dat (.int 4))) (.var 2)) (.cons (.lst false .nil) .nil))) (.cons (.ite (.and (.cmp .ge (.var 5) (.dat (.int 0))) (.cmp .ne (.var 5) (.var 2))) (.cons (.ret (.tup (.cons (.var 1) (.cons (.tup (.cons (.dat (.str "keyless")) .nil)) .nil)))) .nil) .nil) (.cons (.ite (.not (.call "_law_sought" (.cons (.var 9) (.cons (.var 6) (.cons (.var 8) .nil))))) (.cons (.ret (.tup (.cons (.var 1) (.cons (.tup (.cons (.dat (.str "missed")) .nil)) .nil)))) .nil) .nil) (.cons (.ite (.cmp .eq (.var 7) (.dat (.int 0))) (.cons (.asg 10 (.lst false (.cons (.dat (.str "empty")) .nil))) (.cons (.ite (.cmp .eq (.idx (.var 9) (.dat (.int 2))) (.dat (.str "never"))) (.cons (.ret (.tup (.cons (.var 1) (.cons (.tup (.cons (.dat (.str "empty")) .nil)) .nil)))) .nil) .nil) (.cons (.par [7, 10] (.cons (.idx (.var 0) (.dat (.int 1))) (.cons (.bin false .add (.var 10) (.lst false (.cons (.dat (.str "fills")) .nil))) .nil))) .nil))) .nil) (.cons (.par [7, 10] (.cons (.bin false .sub (.var 7) (.dat (.int 1))) (.cons (.bin false .add (.var 10) (.lst false (.cons (.dat (.str "drives")) .nil))) .nil))) (.cons (.ite (.or (.cmp .eq (.idx (.var 9) (.dat (.int 2))) (.dat (.str "always"))) (.and (.cmp .eq (.var 7) (.dat (.int 0))) (.cmp .eq (.idx (.var 9) (.dat (.int 2))) (.dat (.str "low"))))) (.cons (.par [7, 10] (.cons (.idx (.var 0) (.dat (.int 1))) (.cons (.bin false .add (.var 10) (.lst false (.cons (.dat (.str "fills")) .nil))) .nil))) .nil) .nil) (.cons (.ite (.and (.idx (.var 9) (.dat (.int 3))) (.and (.idx (.var 0) (.dat (.int 2))) (.not (.var 4)))) (.cons (.par [8, 10] (.cons (.var 3) (.cons (.bin false .add (.var 10) (.lst false (.cons (.dat (.str "writes")) .nil))) .nil))) .nil) .nil) (.cons (.asg 5 (.ite (.cmp .eq (.idx (.var 9) (.dat (.int 4))) (.dat (.str "hook"))) (.neg (.dat (.int 1))) (.var 2))) (.cons (.ret (.tup (.cons (.tup (.cons (.var 3) (.cons (.var 7) (.cons (.var 5) (.cons (.var 8) .nil))))) (.cons (.blt false "tuple" (.cons (.bin false .add (.var 10) (.bin false .mul (.lst false (.cons (.dat (.str "hangs")) .nil)) (.blt false "int" (.cons (.cmp .eq (.var 5) (.neg (.dat (.int 1)))) .nil)))) .nil)) .nil)))) .nil))))))))))
def f__law_drive : Fn := ⟨"_law_drive", 5, n__law_drive, b__law_drive, false⟩
def Γ__law_drive : Gam := ⟨n__law_drive, defScope (top 38), TF, TB, TG, TE, [], false, true⟩
def n__law_next : List Str := ["home", "spot", "deed", "hung", "tells", "where", "fuel", "key", "note"]
def b__law_next : SSs := (.cons (.ite (.cmp .eq (.idx (.var 2) (.dat (.int 0))) (.dat (.str "drive"))) (.cons (.ret (.call "_law_drive" (.cons (.var 0) (.cons (.var 1) (.cons (.idx (.var 2) (.dat (.int 1))) (.cons (.idx (.var 2) (.dat (.int 2))) (.cons (.idx (.var 2) (.dat (.int 3))) .nil))))))) .nil) .nil) (.cons (.asgT [5, 6, 7, 8] (.var 1)) (.cons (.asg 3 (.and (.cmp .ne (.var 7) (.neg (.dat (.int 1)))) (.cmp .eq (.idx (.idx (.idx (.var 0) (.dat (.int 4))) (.var 7)) (.dat (.int 4))) (.dat (.str "morning"))))) (.cons (.asg 4 (.bin false .add (.bin false .mul (.lst false (.cons (.dat (.str "fined")) .nil)) (.blt false "int" (.cons (.cmp .in_ (.var 5) (.idx (.var 0) (.dat (.int 3)))) .nil))) (.bin false .mul (.lst false (.cons (.dat (.str "hangs")) .nil)) (.blt false "int" (.cons (.var 3) .nil))))) (.cons (.ret (.tup (.cons (.tup (.cons (.var 5) (.cons (.var 6) (.cons (.ite (.var 3) (.neg (.dat (.int 1))) (.var 7)) (.cons (.var 8) .nil))))) (.cons (.blt false "tuple" (.cons (.var 4) .nil)) .nil)))) .nil)))))
def f__law_next : Fn := ⟨"_law_next", 3, n__law_next, b__law_next, false⟩
def Γ__law_next : Gam := ⟨n__law_next, defScope (top 39), TF, TB, TG, TE, [], false, true⟩
def n__law_all_deeds : List Str := ["home", "spot", "found", "number", "person", "place", "one", "two"]
def L__law_all_deeds_1 : SSs := (.cons (.expr (.meth false "append" (.var 2) (.cons (.tup (.cons (.dat (.str "drive")) (.cons (.var 3) (.cons (.var 5) (.cons (.dat (.bool false)) .nil))))) .nil))) (.cons (.asg 6 (.call "_law_drive" (.cons (.var 0) (.cons (.var 1) (.cons (.var 3) (.cons (.var 5) (.cons (.dat (.bool false)) .nil))))))) (.cons (.asg 7 (.call "_law_drive" (.cons (.var 0) (.cons (.var 1) (.cons (.var 3) (.cons (.var 5) (.cons (.dat (.bool true)) .nil))))))) (.cons (.ite (.and (.idx (.var 4) (.dat (.int 5))) (.cmp .ne (.idx (.var 6) (.dat (.int 0))) (.idx (.var 7) (.dat (.int 0))))) (.cons (.expr (.meth false "append" (.var 2) (.cons (.tup (.cons (.dat (.str "drive")) (.cons (.var 3) (.cons (.var 5) (.cons (.dat (.bool true)) .nil))))) .nil))) .nil) .nil) .nil))))
def L__law_all_deeds_0 : SSs := (.cons (.for_ [5] false (.val (.ite (.cmp .eq (.idx (.var 4) (.dat (.int 1))) (.dat (.str "home"))) (.lst false (.cons (.dat (.int 0)) .nil)) (.blt false "list range!" (.cons (.dat (.int 0)) (.cons (.idx (.var 0) (.dat (.int 0))) .nil))))) L__law_all_deeds_1) .nil)
def T__law_all_deeds_0 : SSs := (.cons (.ret (.bin false .add (.var 2) (.lst false (.cons (.tup (.cons (.dat (.str "morning")) .nil)) .nil)))) .nil)
def b__law_all_deeds : SSs := (.cons (.asg 2 (.lst true .nil)) (.cons (.for_ [3, 4] true (.enum (.idx (.var 0) (.dat (.int 4)))) L__law_all_deeds_0) T__law_all_deeds_0))
def f__law_all_deeds : Fn := ⟨"_law_all_deeds", 2, n__law_all_deeds, b__law_all_deeds, false⟩
def Γ__law_all_deeds : Gam := ⟨n__law_all_deeds, defScope (top 40), TF, TB, TG, TE, ["found"], false, true⟩
def n__law_first : List Str := ["home"]
def b__law_first : SSs := (.cons (.ret (.tup (.cons (.dat (.int 0)) (.cons (.idx (.var 0) (.dat (.int 1))) (.cons (.neg (.dat (.int 1))) (.cons (.neg (.dat (.int 1))) .nil)))))) .nil)
def f__law_first : Fn := ⟨"_law_first", 1, n__law_first, b__law_first, false⟩
def Γ__law_first : Gam := ⟨n__law_first, defScope (top 41), TF, TB, TG, TE, [], false, true⟩
def n__law_outcome : List Str := ["call", "one", "other"]
def b__law_outcome : SSs := (.cons (.try_ (.cons (.ret (.ite (.cmp .eq (.var 0) (.dat (.int 0))) (.call "alike" (.cons (.var 1) (.cons (.var 2) .nil))) (.call "parting" (.cons (.var 1) (.cons (.var 2) .nil))))) .nil) (.cons "InvalidHouse" (.cons (.ret (.dat (.str "house!"))) .nil) (.cons "Unlike" (.cons (.ret (.dat (.str "unlike!"))) .nil) .nil))) .nil)
def f__law_outcome : Fn := ⟨"_law_outcome", 3, n__law_outcome, b__law_outcome, false⟩
def Γ__law_outcome : Gam := ⟨n__law_outcome, defScope (top 42), TF, TB, TG, TE, [], false, true⟩
def n__law_other : List Str := ["source", "home", "spot", "number", "person"]
def b__law_other : SSs := (.cons (.asg 2 (.call "_law_pick" (.cons (.var 0) (.cons (.dat (.int 8)) .nil)))) (.cons (.ite (.cmp .eq (.var 2) (.dat (.int 6))) (.cons (.ret (.bin false .add (.bin false .add (.slc false (.var 1) .nop (.dat (.int 2))) (.tup (.cons (.cmp .eq (.call "_law_pick" (.cons (.var 0) (.cons (.dat (.int 2)) .nil))) (.dat (.int 0))) .nil))) (.slc false (.var 1) (.dat (.int 3)) .nop))) .nil) .nil) (.cons (.ite (.cmp .eq (.var 2) (.dat (.int 7))) (.cons (.ret (.bin false .add (.bin false .add (.slc false (.var 1) .nop (.dat (.int 1))) (.tup (.cons (.bin false .add (.dat (.int 1)) (.call "_law_pick" (.cons (.var 0) (.cons (.dat (.int 3)) .nil)))) .nil))) (.slc false (.var 1) (.dat (.int 2)) .nop))) .nil) .nil) (.cons (.asg 3 (.call "_law_pick" (.cons (.var 0) (.cons (.blt false "len" (.cons (.idx (.var 1) (.dat (.int 4))) .nil)) .nil)))) (.cons (.asg 4 (.idx (.idx (.var 1) (.dat (.int 4))) (.var 3))) (.cons (.asg 4 (.bin false .add (.bin false .add (.slc false (.var 4) .nop (.var 2)) (.tup (.cons (.call "_law_chosen" (.cons (.var 0) (.cons (.idx (.call "_law_table" .nil) (.var 2)) .nil))) .nil))) (.slc false (.var 4) (.bin false .add (.var 2) (.dat (.int 1))) .nop))) (.cons (.ret (.bin false .add (.slc false (.var 1) .nop (.dat (.int 4))) (.tup (.cons (.bin false .add (.bin false .add (.slc false (.idx (.var 1) (.dat (.int 4))) .nop (.var 3)) (.tup (.cons (.var 4) .nil))) (.slc false (.idx (.var 1) (.dat (.int 4))) (.bin false .add (.var 3) (.dat (.int 1))) .nop)) .nil)))) .nil)))))))
def f__law_other : Fn := ⟨"_law_other", 2, n__law_other, b__law_other, false⟩
def Γ__law_other : Gam := ⟨n__law_other, defScope (top 43), TF, TB, TG, TE, ["source"], false, true⟩
def n__law_parting : List Str := ["one", "other", "begin", "found", "line", "here", "pair", "deed", "mine", "yours", "row", "first", "second"]
def L__law_parting_1 : SSs := (.cons (.asg 10 (.bin false .add (.idx (.var 3) (.var 6)) (.tup (.cons (.var 7) .nil)))) (.cons (.ite (.or (.cmp .nin (.var 7) (.var 8)) (.cmp .nin (.var 7) (.var 9))) (.cons (.ret (.var 10)) .nil) .nil) (.cons (.par [11, 12] (.cons (.call "_law_next" (.cons (.var 0) (.cons (.idx (.var 6) (.dat (.int 0))) (.cons (.var 7) .nil)))) (.cons (.call "_law_next" (.cons (.var 1) (.cons (.idx (.var 6) (.dat (.int 1))) (.cons (.var 7) .nil)))) .nil))) (.cons (.ite (.cmp .ne (.idx (.var 11) (.dat (.int 1))) (.idx (.var 12) (.dat (.int 1)))) (.cons (.ret (.var 10)) .nil) .nil) (.cons (.ite (.cmp .nin (.tup (.cons (.idx (.var 11) (.dat (.int 0))) (.cons (.idx (.var 12) (.dat (.int 0))) .nil))) (.var 3)) (.cons (.sub (.var 3) (.tup (.cons (.idx (.var 11) (.dat (.int 0))) (.cons (.idx (.var 12) (.dat (.int 0))) .nil))) (.var 10)) (.cons (.expr (.meth false "append" (.var 4) (.cons (.tup (.cons (.idx (.var 11) (.dat (.int 0))) (.cons (.idx (.var 12) (.dat (.int 0))) .nil))) .nil))) .nil)) .nil) .nil)))))
def L__law_parting_0 : SSs := (.cons (.asg 6 (.idx (.var 4) (.var 5))) (.cons (.asg 5 (.bin false .add (.var 5) (.dat (.int 1)))) (.cons (.par [8, 9] (.cons (.call "_law_all_deeds" (.cons (.var 0) (.cons (.idx (.var 6) (.dat (.int 0))) .nil))) (.cons (.call "_law_all_deeds" (.cons (.var 1) (.cons (.idx (.var 6) (.dat (.int 1))) .nil))) .nil))) (.cons (.for_ [7] false (.val (.blt false "sorted set!" (.cons (.bin false .add (.var 8) (.var 9)) .nil))) L__law_parting_1) .nil))))
def T__law_parting_0 : SSs := (.cons (.ret (.dat .none)) .nil)
def b__law_parting : SSs := (.cons (.asg 2 (.tup (.cons (.call "_law_first" (.cons (.var 0) .nil)) (.cons (.call "_law_first" (.cons (.var 1) .nil)) .nil)))) (.cons (.par [3, 4, 5] (.cons (.dct1 true (.var 2) (.tup .nil)) (.cons (.lst true (.cons (.var 2) .nil)) (.cons (.dat (.int 0)) .nil)))) (.cons (.whl (.cmp .lt (.var 5) (.blt false "len" (.cons (.var 4) .nil))) L__law_parting_0) T__law_parting_0)))
def f__law_parting : Fn := ⟨"_law_parting", 2, n__law_parting, b__law_parting, false⟩
def Γ__law_parting : Gam := ⟨n__law_parting, defScope (top 44), TF, TB, TG, TE, ["found", "line"], false, true⟩
def n_law : List Str := ["script", "k", "row", "source", "one", "near", "other", "more", "fewer", "call", "first", "second", "due"]
def L_law_1 : SSs := (.cons (.asg 12 (.call "_law_parting" (.cons (.var 4) (.cons (.var 6) .nil)))) (.cons (.ite (.or (.not (.call "_law_is_bool" (.cons (.call "_law_outcome" (.cons (.dat (.int 0)) (.cons (.var 4) (.cons (.var 6) .nil)))) (.cons (.cmp .is_ (.var 12) (.dat .none)) .nil)))) (.cmp .ne (.call "_law_outcome" (.cons (.dat (.int 1)) (.cons (.var 4) (.cons (.var 6) .nil)))) (.var 12))) (.cons (.ret (.dat (.bool false))) .nil) .nil) .nil))
def L_law_2 : SSs := (.cons (.ite (.or (.cmp .ne (.call "_law_outcome" (.cons (.var 9) (.cons (.var 4) (.cons (.var 7) .nil)))) (.dat (.str "unlike!"))) (.cmp .ne (.call "_law_outcome" (.cons (.var 9) (.cons (.slc false (.var 4) .nop (.dat (.int 2))) (.cons (.var 7) .nil)))) (.dat (.str "house!")))) (.cons (.ret (.dat (.bool false))) .nil) .nil) (.cons (.ite (.or (.cmp .ne (.call "_law_outcome" (.cons (.var 9) (.cons (.var 4) (.cons (.dat .none) .nil)))) (.dat (.str "house!"))) (.cmp .ne (.call "_law_outcome" (.cons (.var 9) (.cons (.var 4) (.cons (.var 8) .nil)))) (.dat (.str "unlike!")))) (.cons (.ret (.dat (.bool false))) .nil) .nil) .nil))
def T_law_1 : SSs := (.cons (.asg 7 (.tup (.cons (.bin false .add (.bin false .mod (.idx (.var 4) (.dat (.int 0))) (.dat (.int 3))) (.dat (.int 1))) (.cons (.idx (.var 4) (.dat (.int 1))) (.cons (.idx (.var 4) (.dat (.int 2))) (.cons (.tup .nil) (.cons (.idx (.var 4) (.dat (.int 4))) .nil))))))) (.cons (.asg 8 (.bin false .add (.slc false (.var 4) .nop (.dat (.int 4))) (.tup (.cons (.slc false (.bin false .mul (.idx (.var 4) (.dat (.int 4))) (.dat (.int 3))) .nop (.bin false .add (.bin false .mod (.blt false "len" (.cons (.idx (.var 4) (.dat (.int 4))) .nil)) (.dat (.int 3))) (.dat (.int 1)))) .nil)))) (.cons (.for_ [9] false (.rng1 (.dat (.int 2))) L_law_2) .nil)))
def L_law_0 : SSs := (.cons (.asg 3 (.call "_law_source" (.cons (.var 0) (.cons (.var 1) .nil)))) (.cons (.asg 4 (.call "_law_home" (.cons (.var 3) (.cons (.dat (.int 3)) .nil)))) (.cons (.asg 5 (.call "_law_other" (.cons (.var 3) (.cons (.var 4) .nil)))) (.cons (.for_ [6] false (.val (.lst false (.cons (.var 5) (.cons (.call "_law_other" (.cons (.var 3) (.cons (.var 5) .nil))) (.cons (.var 4) .nil))))) L_law_1) T_law_1))))
def T_law_0 : SSs := (.cons (.asgT [10, 11] (.tup (.cons (.tup (.cons (.dat (.str "note")) (.cons (.dat (.str "any")) (.cons (.dat (.str "always")) (.cons (.dat (.bool true)) (.cons (.dat (.str "hook")) (.cons (.dat (.bool false)) .nil))))))) (.cons (.tup (.cons (.dat (.str "home")) (.cons (.dat (.str "any")) (.cons (.dat (.str "never")) (.cons (.dat (.bool false)) (.cons (.dat (.str "keeps")) (.cons (.dat (.bool false)) .nil))))))) .nil)))) (.cons (.ite (.not (.call "alike" (.cons (.tup (.cons (.dat (.int 2)) (.cons (.dat (.int 2)) (.cons (.dat (.bool true)) (.cons (.tup .nil) (.cons (.tup (.cons (.var 10) .nil)) .nil)))))) (.cons (.tup (.cons (.dat (.int 2)) (.cons (.dat (.int 1)) (.cons (.dat (.bool true)) (.cons (.tup .nil) (.cons (.tup (.cons (.var 10) .nil)) .nil)))))) .nil)))) (.cons (.ret (.dat (.bool false))) .nil) .nil) (.cons (.asg 2 (.tup (.cons (.tup (.cons (.dat (.str "drive")) (.cons (.dat (.int 0)) (.cons (.dat (.int 0)) (.cons (.dat (.bool false)) .nil))))) (.cons (.tup (.cons (.dat (.str "drive")) (.cons (.dat (.int 0)) (.cons (.dat (.int 0)) (.cons (.dat (.bool false)) .nil))))) .nil)))) (.cons (.ret (.cmp .eq (.call "parting" (.cons (.tup (.cons (.dat (.int 2)) (.cons (.dat (.int 2)) (.cons (.dat (.bool true)) (.cons (.tup .nil) (.cons (.tup (.cons (.var 11) .nil)) .nil)))))) (.cons (.tup (.cons (.dat (.int 2)) (.cons (.dat (.int 1)) (.cons (.dat (.bool true)) (.cons (.tup .nil) (.cons (.tup (.cons (.var 11) .nil)) .nil)))))) .nil))) (.var 2))) .nil))))
def b_law : SSs := (.cons (.for_ [1] false (.rng1 (.blt false "max" (.cons (.dat (.int 4)) (.cons (.blt false "min" (.cons (.dat (.int 10)) (.cons (.blt false "len" (.cons (.var 0) .nil)) .nil))) .nil)))) L_law_0) T_law_0)
def f_law : Fn := ⟨"law", 1, n_law, b_law, false⟩
def Γ_law : Gam := ⟨n_law, defScope (top 45), TF, TB, TG, TE, ["source"], false, true⟩
def FL : List Fn := [f_is_whole, f_is_word, f_is_right_habit, f_is_fines, f_is_right_house, f_need_house, f_begun, f_looked_at, f_driven, f_drive, f_dawn, f_step, f_deeds_of, f_parted, f_need_both, f_alike, f_parting, f__law_source, f__law_pick, f__law_chosen, f__law_is_bool, f__law_table, f__law_somebody, f__law_home, f__law_sought, f__law_drive, f__law_next, f__law_all_deeds, f__law_first, f__law_outcome, f__law_other, f__law_parting, f_law]
theorem nd : (FL.map Fn.name).Nodup := by decide +kernel
abbrev R : Nat → CallS := run FL G XX
theorem r_is_whole (k : Nat) (ws : List W) (m : MH) : R (k + 1) "is_whole" ws m = callFn (R k) G XX f_is_whole ws m := run_at 0 nd rfl k ws m
theorem r_is_word (k : Nat) (ws : List W) (m : MH) : R (k + 1) "is_word" ws m = callFn (R k) G XX f_is_word ws m := run_at 1 nd rfl k ws m
theorem r_is_right_habit (k : Nat) (ws : List W) (m : MH) : R (k + 1) "is_right_habit" ws m = callFn (R k) G XX f_is_right_habit ws m := run_at 2 nd rfl k ws m
theorem r_is_fines (k : Nat) (ws : List W) (m : MH) : R (k + 1) "is_fines" ws m = callFn (R k) G XX f_is_fines ws m := run_at 3 nd rfl k ws m
theorem r_is_right_house (k : Nat) (ws : List W) (m : MH) : R (k + 1) "is_right_house" ws m = callFn (R k) G XX f_is_right_house ws m := run_at 4 nd rfl k ws m
theorem r_need_house (k : Nat) (ws : List W) (m : MH) : R (k + 1) "need_house" ws m = callFn (R k) G XX f_need_house ws m := run_at 5 nd rfl k ws m
theorem r_begun (k : Nat) (ws : List W) (m : MH) : R (k + 1) "begun" ws m = callFn (R k) G XX f_begun ws m := run_at 6 nd rfl k ws m
theorem r_looked_at (k : Nat) (ws : List W) (m : MH) : R (k + 1) "looked_at" ws m = callFn (R k) G XX f_looked_at ws m := run_at 7 nd rfl k ws m
theorem r_driven (k : Nat) (ws : List W) (m : MH) : R (k + 1) "driven" ws m = callFn (R k) G XX f_driven ws m := run_at 8 nd rfl k ws m
theorem r_drive (k : Nat) (ws : List W) (m : MH) : R (k + 1) "drive" ws m = callFn (R k) G XX f_drive ws m := run_at 9 nd rfl k ws m
theorem r_dawn (k : Nat) (ws : List W) (m : MH) : R (k + 1) "dawn" ws m = callFn (R k) G XX f_dawn ws m := run_at 10 nd rfl k ws m
theorem r_step (k : Nat) (ws : List W) (m : MH) : R (k + 1) "step" ws m = callFn (R k) G XX f_step ws m := run_at 11 nd rfl k ws m
theorem r_deeds_of (k : Nat) (ws : List W) (m : MH) : R (k + 1) "deeds_of" ws m = callFn (R k) G XX f_deeds_of ws m := run_at 12 nd rfl k ws m
theorem r_parted (k : Nat) (ws : List W) (m : MH) : R (k + 1) "parted" ws m = callFn (R k) G XX f_parted ws m := run_at 13 nd rfl k ws m
theorem r_need_both (k : Nat) (ws : List W) (m : MH) : R (k + 1) "need_both" ws m = callFn (R k) G XX f_need_both ws m := run_at 14 nd rfl k ws m
theorem r_alike (k : Nat) (ws : List W) (m : MH) : R (k + 1) "alike" ws m = callFn (R k) G XX f_alike ws m := run_at 15 nd rfl k ws m
theorem r_parting (k : Nat) (ws : List W) (m : MH) : R (k + 1) "parting" ws m = callFn (R k) G XX f_parting ws m := run_at 16 nd rfl k ws m
theorem r__law_source (k : Nat) (ws : List W) (m : MH) : R (k + 1) "_law_source" ws m = callFn (R k) G XX f__law_source ws m := run_at 17 nd rfl k ws m
theorem r__law_pick (k : Nat) (ws : List W) (m : MH) : R (k + 1) "_law_pick" ws m = callFn (R k) G XX f__law_pick ws m := run_at 18 nd rfl k ws m
theorem r__law_chosen (k : Nat) (ws : List W) (m : MH) : R (k + 1) "_law_chosen" ws m = callFn (R k) G XX f__law_chosen ws m := run_at 19 nd rfl k ws m
theorem r__law_is_bool (k : Nat) (ws : List W) (m : MH) : R (k + 1) "_law_is_bool" ws m = callFn (R k) G XX f__law_is_bool ws m := run_at 20 nd rfl k ws m
theorem r__law_table (k : Nat) (ws : List W) (m : MH) : R (k + 1) "_law_table" ws m = callFn (R k) G XX f__law_table ws m := run_at 21 nd rfl k ws m
theorem r__law_somebody (k : Nat) (ws : List W) (m : MH) : R (k + 1) "_law_somebody" ws m = callFn (R k) G XX f__law_somebody ws m := run_at 22 nd rfl k ws m
theorem r__law_home (k : Nat) (ws : List W) (m : MH) : R (k + 1) "_law_home" ws m = callFn (R k) G XX f__law_home ws m := run_at 23 nd rfl k ws m
theorem r__law_sought (k : Nat) (ws : List W) (m : MH) : R (k + 1) "_law_sought" ws m = callFn (R k) G XX f__law_sought ws m := run_at 24 nd rfl k ws m
theorem r__law_drive (k : Nat) (ws : List W) (m : MH) : R (k + 1) "_law_drive" ws m = callFn (R k) G XX f__law_drive ws m := run_at 25 nd rfl k ws m
theorem r__law_next (k : Nat) (ws : List W) (m : MH) : R (k + 1) "_law_next" ws m = callFn (R k) G XX f__law_next ws m := run_at 26 nd rfl k ws m
theorem r__law_all_deeds (k : Nat) (ws : List W) (m : MH) : R (k + 1) "_law_all_deeds" ws m = callFn (R k) G XX f__law_all_deeds ws m := run_at 27 nd rfl k ws m
theorem r__law_first (k : Nat) (ws : List W) (m : MH) : R (k + 1) "_law_first" ws m = callFn (R k) G XX f__law_first ws m := run_at 28 nd rfl k ws m
theorem r__law_outcome (k : Nat) (ws : List W) (m : MH) : R (k + 1) "_law_outcome" ws m = callFn (R k) G XX f__law_outcome ws m := run_at 29 nd rfl k ws m
theorem r__law_other (k : Nat) (ws : List W) (m : MH) : R (k + 1) "_law_other" ws m = callFn (R k) G XX f__law_other ws m := run_at 30 nd rfl k ws m
theorem r__law_parting (k : Nat) (ws : List W) (m : MH) : R (k + 1) "_law_parting" ws m = callFn (R k) G XX f__law_parting ws m := run_at 31 nd rfl k ws m
theorem r_law (k : Nat) (ws : List W) (m : MH) : R (k + 1) "law" ws m = callFn (R k) G XX f_law ws m := run_at 32 nd rfl k ws m
theorem c_is_whole : cSs 100 Γ_is_whole (defBody (top 10)) = some b_is_whole := qO_ok (by decide +kernel)
theorem c_is_word : cSs 100 Γ_is_word (defBody (top 11)) = some b_is_word := qO_ok (by decide +kernel)
theorem c_is_right_habit : cSs 100 Γ_is_right_habit (defBody (top 12)) = some b_is_right_habit := qO_ok (by decide +kernel)
theorem c_is_fines : cSs 100 Γ_is_fines (defBody (top 13)) = some b_is_fines := qO_ok (by decide +kernel)
theorem c_is_right_house : cSs 100 Γ_is_right_house (defBody (top 14)) = some b_is_right_house := qO_ok (by decide +kernel)
theorem c_need_house : cSs 100 Γ_need_house (defBody (top 15)) = some b_need_house := qO_ok (by decide +kernel)
theorem c_begun : cSs 100 Γ_begun (defBody (top 17)) = some b_begun := qO_ok (by decide +kernel)
theorem c_looked_at : cSs 100 Γ_looked_at (defBody (top 18)) = some b_looked_at := qO_ok (by decide +kernel)
theorem c_driven : cSs 100 Γ_driven (defBody (top 19)) = some b_driven := qO_ok (by decide +kernel)
theorem c_drive : cSs 100 Γ_drive (defBody (top 20)) = some b_drive := qO_ok (by decide +kernel)
theorem c_dawn : cSs 100 Γ_dawn (defBody (top 21)) = some b_dawn := qO_ok (by decide +kernel)
theorem c_step : cSs 100 Γ_step (defBody (top 22)) = some b_step := qO_ok (by decide +kernel)
theorem c_deeds_of : cSs 100 Γ_deeds_of (defBody (top 23)) = some b_deeds_of := qO_ok (by decide +kernel)
theorem c_parted : cSs 100 Γ_parted (defBody (top 25)) = some b_parted := qO_ok (by decide +kernel)
theorem c_need_both : cSs 100 Γ_need_both (defBody (top 26)) = some b_need_both := qO_ok (by decide +kernel)
theorem c_alike : cSs 100 Γ_alike (defBody (top 27)) = some b_alike := qO_ok (by decide +kernel)
theorem c_parting : cSs 100 Γ_parting (defBody (top 28)) = some b_parting := qO_ok (by decide +kernel)
theorem c__law_source : cSs 100 Γ__law_source (defBody (top 30)) = some b__law_source := qO_ok (by decide +kernel)
theorem c__law_pick : cSs 100 Γ__law_pick (defBody (top 31)) = some b__law_pick := qO_ok (by decide +kernel)
theorem c__law_chosen : cSs 100 Γ__law_chosen (defBody (top 32)) = some b__law_chosen := qO_ok (by decide +kernel)
theorem c__law_is_bool : cSs 100 Γ__law_is_bool (defBody (top 33)) = some b__law_is_bool := qO_ok (by decide +kernel)
theorem c__law_table : cSs 100 Γ__law_table (defBody (top 34)) = some b__law_table := qO_ok (by decide +kernel)
theorem c__law_somebody : cSs 100 Γ__law_somebody (defBody (top 35)) = some b__law_somebody := qO_ok (by decide +kernel)
theorem c__law_home : cSs 100 Γ__law_home (defBody (top 36)) = some b__law_home := qO_ok (by decide +kernel)
theorem c__law_sought : cSs 100 Γ__law_sought (defBody (top 37)) = some b__law_sought := qO_ok (by decide +kernel)
theorem c__law_drive : cSs 100 Γ__law_drive (defBody (top 38)) = some b__law_drive := qO_ok (by decide +kernel)
theorem c__law_next : cSs 100 Γ__law_next (defBody (top 39)) = some b__law_next := qO_ok (by decide +kernel)
theorem c__law_all_deeds : cSs 100 Γ__law_all_deeds (defBody (top 40)) = some b__law_all_deeds := qO_ok (by decide +kernel)
theorem c__law_first : cSs 100 Γ__law_first (defBody (top 41)) = some b__law_first := qO_ok (by decide +kernel)
theorem c__law_outcome : cSs 100 Γ__law_outcome (defBody (top 42)) = some b__law_outcome := qO_ok (by decide +kernel)
theorem c__law_other : cSs 100 Γ__law_other (defBody (top 43)) = some b__law_other := qO_ok (by decide +kernel)
theorem c__law_parting : cSs 100 Γ__law_parting (defBody (top 44)) = some b__law_parting := qO_ok (by decide +kernel)
theorem c_law : cSs 100 Γ_law (defBody (top 45)) = some b_law := qO_ok (by decide +kernel)
end K31
set_option maxHeartbeats 4000000
namespace K31
open PySem L2 Sim
/-! ### what the program's defs answer -/
def isWhole (v : Sim.D) (lo hi : Int) : Bool := match v with | .int i => decide (lo ≤ i) && decide (i ≤ hi) | _ => false
def isWord (v : Sim.D) (ws : List Sim.D) : Bool := match v with | .str _ => ws.any fun z => PyData.eqv z v | _ => false
theorem is_whole (k : Nat) (v : Sim.D) (lo hi : Int) (m : MH) (hv : noD v = true) : R (k + 1) "is_whole" [.d v, .d (.int lo), .d (.int hi)] m = .ok (.d (.bool (isWhole v lo hi))) m := by
  rw [r_is_whole]
  cases v <;> simp [callFn, f_is_whole, n_is_whole, b_is_whole, startE, isWhole] at hv ⊢
theorem is_word (k : Nat) (v : Sim.D) (ws : List Sim.D) (m : MH) {w n : Nat} (hv : fit w n v = true) (hw : PyData.canLayAll0 ws = true) : R (k + 1) "is_word" [.d v, .d (.tuple ws)] m = .ok (.d (.bool (isWord v ws))) m := by
  rw [r_is_word]
  have h1 := (fit_lay _ _ hv).1
  have h2 := fit_noD hv
  cases v <;> simp [callFn, f_is_word, n_is_word, b_is_word, startE, cmpW, cmpD, inD, isWord, hw, h1, PyData.depth] at h2 ⊢
def wHook : List Sim.D := [.str "hook", .str "keeps", .str "morning"]
def wLook : List Sim.D := [.str "home", .str "note", .str "walks"]
def wPark : List Sim.D := [.str "any", .str "home"]
def wFill : List Sim.D := [.str "always", .str "low", .str "never"]
theorem lHook : PyData.canLayAll0 wHook = true := by decide +kernel
theorem lLook : PyData.canLayAll0 wLook = true := by decide +kernel
theorem lPark : PyData.canLayAll0 wPark = true := by decide +kernel
theorem lFill : PyData.canLayAll0 wFill = true := by decide +kernel
@[simp] theorem gK : G "KEYS" = some (.tuple wHook) := Eq.trans rfl rfl
@[simp] theorem gL : G "LOOKS" = some (.tuple wLook) := Eq.trans rfl rfl
@[simp] theorem gP : G "PARKS" = some (.tuple wPark) := Eq.trans rfl rfl
@[simp] theorem gF : G "FILLS" = some (.tuple wFill) := Eq.trans rfl rfl
@[simp] theorem gM : G "MOST" = some (.int 3) := Eq.trans rfl rfl
def habit (v : Sim.D) : Bool := match v with
  | .tuple [a, b, c, d, e, f] => isB d && isB f && isWord e wHook && (isWord a wLook && (isWord b wPark && isWord c wFill))
  | _ => false
theorem fit_succ {w n : Nat} {ds : List Sim.D} (hv : fit w n (.tuple ds) = true) : ∃ n', n = n' + 1 := by
  cases n with
  | zero => simp [fit] at hv
  | succ n => exact ⟨n, rfl⟩
theorem natlit {ds : List Sim.D} {n : Nat} (h : ¬ ds.length = n) : ¬ ((ds.length : Int) = (n : Int)) := by omega
theorem is_right_habit (k : Nat) (v : Sim.D) (m : MH) {w n : Nat} (hv : fit w n v = true) : R (k + 2) "is_right_habit" [.d v] m = .ok (.d (.bool (habit v))) m := by
  rw [r_is_right_habit]
  have h2 := fit_noD hv
  cases v with
  | tuple ds =>
    by_cases hl : ds.length = 6
    · match ds, hl with
      | [a, b, c, d, e, f], _ =>
        obtain ⟨n, rfl⟩ := fit_succ hv
        obtain ⟨_, hf⟩ := fit_t hv
        have ha := hf a (by simp)
        have hb := hf b (by simp)
        have hc := hf c (by simp)
        have hd := hf d (by simp)
        have he := hf e (by simp)
        have hff := hf f (by simp)
        simp [callFn, f_is_right_habit, n_is_right_habit, b_is_right_habit, startE, atI, ixN, fit_noD hd, fit_noD hff,
          is_word k _ _ _ ha lLook, is_word k _ _ _ hb lPark, is_word k _ _ _ hc lFill, is_word k _ _ _ he lHook, habit]
        cases isB d <;> cases isB f <;> cases isWord e wHook <;> simp
    · have hl' := natlit hl
      have : habit (.tuple ds) = false := by
        unfold habit
        split
        · rename_i h; cases h; exact absurd rfl hl
        · rfl
      simp [callFn, f_is_right_habit, n_is_right_habit, b_is_right_habit, startE, this, show ¬ ((ds.length : Int) = 6) from hl']
  | _ => simp [callFn, f_is_right_habit, n_is_right_habit, b_is_right_habit, startE, habit] at h2 ⊢
theorem intsall {lo hi : Int} : ∀ {ds : List Sim.D}, ds.all (fun d => isWhole d lo hi) = true → ∃ ns : List Int, ds = ns.map PyData.int ∧ ∀ n ∈ ns, lo ≤ n ∧ n ≤ hi
  | [], _ => ⟨[], rfl, fun _ h => by cases h⟩
  | d :: ds, h => by
    rw [List.all_cons, Bool.and_eq_true] at h
    obtain ⟨ns, rfl, hn⟩ := intsall h.2
    cases d <;> simp [isWhole] at h
    rename_i i
    refine ⟨i :: ns, rfl, fun n hm => ?_⟩
    rcases List.mem_cons.mp hm with rfl | hm
    · exact h.1
    · exact hn n hm
theorem ints_lay : ∀ ns : List Int, PyData.canLayAll0 (ns.map PyData.int) = true ∧ PyData.depthAll (ns.map PyData.int) = 0
  | [] => ⟨rfl, rfl⟩
  | n :: ns => by
    obtain ⟨a, b⟩ := ints_lay ns
    exact ⟨by simp [PyData.canLayAll0, PyData.canLay0, a], by simp [PyData.depthAll, PyData.depth, b]⟩
theorem ints_eqv : ∀ a b : List Int, PyData.eqvAll (a.map PyData.int) (b.map PyData.int) = decide (a = b)
  | [], [] => rfl
  | [], _ :: _ => rfl
  | _ :: _, [] => rfl
  | x :: a, y :: b => by
    simp only [List.map_cons, PyData.eqvAll, PyData.eqv, ints_eqv a b]
    by_cases h : x = y <;> by_cases g : a = b <;> simp [h, g]
/-- the ints of a list of ints -/
def intOf : Sim.D → Int | .int i => i | _ => 0
theorem intOf_map (ns : List Int) : (ns.map PyData.int).map intOf = ns := by
  induction ns with
  | nil => rfl
  | cons n ns ih => simp [intOf] at ih ⊢; exact ih
def fines (hi : Int) (v : Sim.D) : Bool := match v with
  | .tuple ds => ds.all (fun d => isWhole d 0 hi) && decide (ds.map intOf = upInts (ds.map intOf))
  | _ => false
theorem is_fines (k : Nat) (p : Int) (v : Sim.D) (m : MH) {n : Nat} (hv : fit 50 n v = true) : R (k + 2) "is_fines" [.d (.int p), .d v] m = .ok (.d (.bool (fines (p - 1) v))) m := by
  rw [r_is_fines]
  have h2 := fit_noD hv
  cases v with
  | tuple ds =>
    obtain ⟨n, rfl⟩ := fit_succ hv
    obtain ⟨hl, hf⟩ := fit_t hv
    have c : compV (cmpE (R (k + 1)) G [2] false [2] [some (.d (.int p)), some (.d (.tuple ds)), none] .nop (.call "is_whole" (.cons (.var 2) (.cons (.dat (.int 0)) (.cons (.bin false .sub (.var 0) (.dat (.int 1))) .nil))))) ds [] m
        = .ok ([] ++ ds.map fun d => .bool (isWhole d 0 (p - 1))) m := compV_map ds [] fun d hd => by
      simp [cmpE, compF, asgTg, wipeE, is_whole k d 0 (p - 1) m (fit_noD (hf d hd))]
    simp [callFn, f_is_fines, n_is_fines, b_is_fines, startE, c, bAll, rdL, bools_map]
    by_cases ha : ds.all (fun d => isWhole d 0 (p - 1)) = true
    · obtain ⟨ns, rfl, hn⟩ := intsall ha
      have hl : ns.length < 60 := by simpa using Nat.lt_of_le_of_lt hl (by omega)
      obtain ⟨l1, l2⟩ := ints_lay ns
      obtain ⟨l3, l4⟩ := ints_lay (upInts ns)
      have ha' := ha
      simp only [List.all_map] at ha'
      have e1 := intOf_map ns
      simp [fines, ha, bSortedSet, ints_map, hl, cmpW, cmpD, eqD, PyData.canLay0, PyData.depth, l1, l2, l3, l4, PyData.eqv, ints_eqv, e1]
      intro a ha1 ha2
      have := List.all_eq_true.mp ha (.int a) (List.mem_map.mpr ⟨a, ha1, rfl⟩)
      rw [ha2] at this
      cases this
    · have : fines (p - 1) (.tuple ds) = false := by
        simp only [Bool.not_eq_true] at ha
        simp [fines, ha]
      rw [this]
      simp at ha
      rw [if_pos ha]
  | _ => simp [callFn, f_is_fines, n_is_fines, b_is_fines, startE, fines] at h2 ⊢
def people (v : Sim.D) : Bool := match v with
  | .tuple ds => decide (1 ≤ ds.length) && decide (ds.length ≤ 3) && ds.all habit
  | _ => false
def house (v : Sim.D) : Bool := match v with
  | .tuple [.int p, t, b, f, pe] => decide (1 ≤ p) && decide (p ≤ 3) && isWhole t 1 3 && isB b && fines (p - 1) f && people pe
  | _ => false
theorem isI_of {v : Sim.D} {lo hi : Int} (h : isWhole v lo hi = true) : ∃ i, v = .int i ∧ lo ≤ i ∧ i ≤ hi := by
  cases v <;> simp [isWhole] at h
  exact ⟨_, rfl, h⟩
theorem people_ok (k : Nat) (ds : List Sim.D) (m : MH) (e : Sim.Env) {w n : Nat} (hf : ∀ d ∈ ds, fit w n d = true) (he : e.length = 7) :
    compV (cmpE (R (k + 2)) G [6] false [6] e .nop (.call "is_right_habit" (.cons (.var 6) .nil))) ds [] m = .ok ([] ++ ds.map fun d => .bool (habit d)) m := compV_map ds [] fun d hd => by
  match e, he with
  | [a, b, c, d', e', f, g], _ => simp [cmpE, compF, asgTg, wipeE, is_right_habit k d m (hf d hd)]
theorem is_right_house (k : Nat) (v : Sim.D) (m : MH) {n : Nat} (hv : fit 50 n v = true) : R (k + 3) "is_right_house" [.d v] m = .ok (.d (.bool (house v))) m := by
  rw [r_is_right_house]
  have h2 := fit_noD hv
  cases v with
  | tuple ds =>
    by_cases hl : ds.length = 5
    · match ds, hl with
      | [p, t, b, f, pe], _ =>
        obtain ⟨n, rfl⟩ := fit_succ hv
        obtain ⟨_, hf⟩ := fit_t hv
        have hp := hf p (by simp)
        have ht := hf t (by simp)
        have hb := hf b (by simp)
        have hff := hf f (by simp)
        have hpe := hf pe (by simp)
        have w1 := is_whole (k + 1) p 1 3 m (fit_noD hp)
        have w2 := is_whole (k + 1) t 1 3 m (fit_noD ht)
        cases hw : isWhole p 1 3 with
        | false =>
          have : house (.tuple [p, t, b, f, pe]) = false := by
            cases p <;> simp [house, isWhole] at hw ⊢
            omega
          simp [callFn, f_is_right_house, n_is_right_house, b_is_right_house, startE, asgTg, w1, hw, this]
        | true =>
          obtain ⟨p, rfl, hp1, hp2⟩ := isI_of hw
          have hh : house (.tuple [.int p, t, b, f, pe]) = (isWhole t 1 3 && isB b && fines (p - 1) f && people pe) := by simp [house, hp1, hp2]
          have w3 := is_fines k p f m hff
          rw [hh]
          cases hs1 : isWhole t 1 3 <;> cases hs2 : isB b <;> cases hs3 : fines (p - 1) f <;> try (simp [callFn, f_is_right_house, n_is_right_house, b_is_right_house, startE, asgTg, w1, hw, w2, w3, hs1, hs2, hs3, fit_noD hb]; done)
          cases pe with
          | tuple qs =>
            obtain ⟨n, rfl⟩ := fit_succ hpe
            have hq := (fit_t hpe).2
            have w4 := fun (e : Sim.Env) (he : e.length = 7) => people_ok k qs m e hq he
            by_cases h1 : 1 ≤ qs.length <;> by_cases h3 : qs.length ≤ 3 <;>
              simp [callFn, f_is_right_house, n_is_right_house, b_is_right_house, startE, asgTg, w1, hw, w2, w3, hs1, hs2, hs3, fit_noD hb, w4, people, bAll, rdL, bools_map, h1, h3] <;> (intros; exfalso; omega)
          | _ => simp [callFn, f_is_right_house, n_is_right_house, b_is_right_house, startE, asgTg, w1, hw, w2, w3, hs1, hs2, hs3, fit_noD hb, people, fit_noD hpe]
    · have hl' := natlit hl
      have : house (.tuple ds) = false := by
        unfold house
        split
        · rename_i h; cases h; exact absurd rfl hl
        · rfl
      simp [callFn, f_is_right_house, n_is_right_house, b_is_right_house, startE, this, show ¬ ((ds.length : Int) = 5) from hl']
  | _ => simp [callFn, f_is_right_house, n_is_right_house, b_is_right_house, startE, house] at h2 ⊢
/-- a household as the law draws it -/
def home (p t : Int) (b : Bool) (f pe : List Sim.D) : Sim.D := .tuple [.int p, .int t, .bool b, .tuple f, .tuple pe]
def stand (p t : Int) (b : Bool) (n : Int) (v : Sim.D) : Bool := match v with
  | .tuple [w, f, k, o] => isWhole w 0 (p - 1) && isWhole f 0 t && (isWhole k (-1) (n - 1) && isWhole o (-1) (if b = true then p - 1 else -1))
  | _ => false
theorem need_house (k : Nat) (v : Sim.D) (m : MH) {n : Nat} (hv : fit 50 n v = true) : R (k + 4) "need_house" [.d v] m = if house v = true then .ok (.d .none) m else .exc "InvalidHouse" [] m := by
  rw [r_need_house]
  have w := is_right_house k v m hv
  cases h : house v <;> simp [callFn, f_need_house, n_need_house, b_need_house, startE, w, h]
/-! ### the law's own defs -/
theorem is_bool (k : Nat) (a b : Bool) (m : MH) : R (k + 1) "_law_is_bool" [.d (.bool a), .d (.bool b)] m = .ok (.d (.bool (decide (a = b)))) m := by
  rw [r__law_is_bool]
  simp [callFn, f__law_is_bool, n__law_is_bool, b__law_is_bool, startE]
def wide (v : Sim.D) (lo hi : Int) : Bool := match v with | .tuple ds => decide (lo ≤ ds.length) && decide ((ds.length : Int) ≤ hi) | _ => false
def bothB : List Sim.D := [.bool false, .bool true]
def table : List Sim.D := [.list wLook, .list wPark, .list wFill, .list bothB, .list wHook, .list bothB]
theorem law_table (k : Nat) (m : MH) : R (k + 1) "_law_table" [] m = .ok (.d (.list table)) m := by
  rw [r__law_table]
  simp [callFn, f__law_table, n__law_table, b__law_table, sizeLine_eq, table, wLook, wPark, wFill, bothB, wHook, List.replicate]
theorem nodup_erase : ∀ (n : Nat) (l : List Int), l.length ≤ n → l.eraseDups.Nodup
  | 0, l, h => by
    have : l = [] := List.length_eq_zero_iff.mp (by omega)
    subst this
    simp
  | n + 1, [], _ => by simp
  | n + 1, a :: l, h => by
    rw [List.eraseDups_cons, List.nodup_cons]
    refine ⟨fun z => ?_, nodup_erase n _ (Nat.le_trans (List.length_filter_le _ _) (by simpa using h))⟩
    rw [List.mem_eraseDups] at z
    simp at z
theorem erase_nodup : ∀ (l : List Int), l.Nodup → l.eraseDups = l
  | [], _ => by simp
  | a :: l, h => by
    rw [List.nodup_cons] at h
    rw [List.eraseDups_cons]
    have : l.filter (fun b => !b == a) = l := List.filter_eq_self.mpr fun b hb => by
      have : b ≠ a := fun z => h.1 (z ▸ hb)
      simpa using this
    rw [this, erase_nodup l h.2]
theorem up_eq (ns : List Int) : ns = upInts ns ↔ ns.Pairwise (· < ·) := by
  constructor
  · intro h
    have s : (upInts ns).Pairwise (fun i j => decide (i ≤ j) = true) := List.pairwise_mergeSort (fun a b c => by simp; omega) (fun a b => by simp; omega) _
    have d : (upInts ns).Nodup := (List.mergeSort_perm _ _).nodup_iff.mpr (nodup_erase _ ns (Nat.le_refl _))
    rw [← h] at s d
    refine (s.and d).imp fun ⟨a, b⟩ => ?_
    simp at a
    omega
  · intro h
    have d : ns.Nodup := h.imp fun a => by omega
    unfold upInts
    rw [erase_nodup ns d, List.mergeSort_of_pairwise]
    exact h.imp fun a => by simp; omega
def incr (hi : Int) : Int → List Sim.D → Bool
  | _, [] => true
  | last, d :: ds => isWhole d (last + 1) hi && incr hi (intOf d) ds
theorem incr_iff (hi : Int) : ∀ (ds : List Sim.D) (last : Int), incr hi last ds = true ↔ ∃ ns : List Int, ds = ns.map PyData.int ∧ (∀ n ∈ ns, last < n ∧ n ≤ hi) ∧ ns.Pairwise (· < ·)
  | [], last => ⟨fun _ => ⟨[], rfl, (fun _ h => by cases h), .nil⟩, fun _ => rfl⟩
  | d :: ds, last => by
    simp only [incr, Bool.and_eq_true]
    constructor
    · rintro ⟨h1, h2⟩
      obtain ⟨i, rfl, a, b⟩ := isI_of h1
      obtain ⟨ns, rfl, c, e⟩ := (incr_iff hi ds _).mp h2
      refine ⟨i :: ns, rfl, fun n hn => ?_, List.pairwise_cons.mpr ⟨fun n hn => (c n hn).1, e⟩⟩
      rcases List.mem_cons.mp hn with rfl | hn
      · exact ⟨by omega, b⟩
      · have := c n hn
        simp only [intOf] at this
        exact ⟨by omega, this.2⟩
    · rintro ⟨ns, e1, h1, h2⟩
      cases ns with
      | nil => cases e1
      | cons n ns =>
        rw [List.map_cons] at e1
        injection e1 with e1 e2
        subst e1
        obtain ⟨c, e⟩ := List.pairwise_cons.mp h2
        have := h1 n List.mem_cons_self
        refine ⟨by simp [isWhole]; omega, (incr_iff hi ds _).mpr ⟨ns, e2, fun x hx => ⟨c x hx, (h1 x (List.mem_cons_of_mem _ hx)).2⟩, e⟩⟩
theorem pair_len (hi : Int) : ∀ (ns : List Int) (last : Int), last ≤ hi → (∀ n ∈ ns, last < n ∧ n ≤ hi) → ns.Pairwise (· < ·) → (ns.length : Int) ≤ hi - last
  | [], last, hl, _, _ => by simp; omega
  | n :: ns, last, hl, h, p => by
    obtain ⟨c, e⟩ := List.pairwise_cons.mp p
    have h1 := h n List.mem_cons_self
    have := pair_len hi ns n h1.2 (fun x hx => ⟨c x hx, (h x (List.mem_cons_of_mem _ hx)).2⟩) e
    simp
    omega
theorem fines_eq (p : Int) (h1 : 1 ≤ p) (h3 : p ≤ 3) (ds : List Sim.D) : fines (p - 1) (.tuple ds) = (wide (.tuple ds) 0 3 && incr (p - 1) (-1) ds) := by
  rw [Bool.eq_iff_iff]
  simp only [fines, wide, Bool.and_eq_true, decide_eq_true_eq, incr_iff]
  constructor
  · rintro ⟨a, b⟩
    obtain ⟨ns, rfl, hn⟩ := intsall a
    rw [intOf_map, up_eq] at b
    have := pair_len (p - 1) ns (-1) (by omega) (fun n h => by have := hn n h; omega) b
    exact ⟨⟨by omega, by simp; omega⟩, ns, rfl, fun n h => by have := hn n h; omega, b⟩
  · rintro ⟨_, ns, rfl, hn, b⟩
    refine ⟨?_, by rw [intOf_map, up_eq]; exact b⟩
    simp only [List.all_eq_true, List.mem_map]
    rintro _ ⟨n, hm, rfl⟩
    have := hn n hm
    simp [isWhole]
    omega
/-! ### the law's judges -/
theorem xx0 : XX "InvalidHouse" "InvalidHouse" = true := by simp [XX, XL, ofString_inj]
/-! ### what is drawn -/
def b_src : SSs := (.cons (.asg 3 (.bin false .mod (.bin false .add (.bin false .add (.bin false .mul (.var 2) (.dat (.int 16807))) (.bin false .mul (.dat (.int 60919)) (.var 1))) (.dat (.int 31))) (.dat (.int 2147481173)))) (.cons (.asg 3 (.bin false .add (.bin false .add (.bin false .mod (.bin false .mul (.var 3) (.var 3)) (.dat (.int 2147481151))) (.bin false .mul (.dat (.int 2)) (.var 1))) (.dat (.int 5)))) (.cons (.ret (.lst true (.cons (.ite (.cmp .ge (.var 2) (.bin false .pow (.dat (.int 10)) (.dat (.int 18)))) (.var 2) (.dat (.int 0))) (.cons (.var 3) .nil)))) .nil)))
theorem src_eq : b__law_source = (.cons (.asg 2 (.dat (.int 0))) (.cons (.ite (.cmp .gt (.blt false "len" (.cons (.var 0) .nil)) (.var 1)) (.cons (.asg 2 (.blt false "int" (.cons (.idx (.var 0) (.var 1)) .nil))) .nil) .nil) b_src)) := rfl
theorem src_tail (C : CallS) (ns : List Int) (j : Nat) (x : Int) (m : MH) : ∃ a b, evSs C G XX b_src [some (.s ns), some (.d (.int j)), some (.d (.int x)), none] m = .rt (.r m.length) (m ++ [.lst [.int a, .int b]]) := by
  by_cases hn : big18 ≤ x
  · simp [b_src, okl, okr, okmod, hn, bin_pow18]
  · simp [b_src, okl, okr, okmod, hn, bin_pow18]
theorem law_source (k : Nat) (ns : List Int) (j : Nat) (m : MH) : ∃ a b, R (k + 1) "_law_source" [.s ns, .d (.int j)] m = .ok (.r m.length) (m ++ [.lst [.int a, .int b]]) := by
  rw [r__law_source]
  by_cases hj : j < ns.length
  · have e0 : atI ns (j : Int) = some ns[j] := by simp [atI, ixN, hj]
    generalize ns[j] = x at e0
    obtain ⟨a, b, e⟩ := src_tail (R k) ns j x m
    exact ⟨a, b, by simp [callFn, f__law_source, n__law_source, src_eq, startE, hj, idxW, e0, e]⟩
  · obtain ⟨a, b, e⟩ := src_tail (R k) ns j 0 m
    exact ⟨a, b, by simp [callFn, f__law_source, n__law_source, src_eq, startE, hj, e]⟩
theorem law_pick (k : Nat) (p : Nat) (many : Int) (m : MH) (hm : Has p m) (h1 : 0 < many) (h2 : many < 1073741824) : ∃ a b n, R (k + 1) "_law_pick" [.r p, .d (.int many)] m = .ok (.d (.int n)) (put p a b m) ∧ 0 ≤ n ∧ n < many := by
  have hl := hm.lt
  obtain ⟨a, b, e⟩ := put_self hm
  rw [← e, r__law_pick]
  have hl2 : p < (put p a b m).length := by simpa using hl
  have z : ∀ x : Int, 0 ≤ x % many ∧ x % many < many := fun x => ⟨Int.emod_nonneg _ (by omega), Int.emod_lt_of_pos _ h1⟩
  by_cases ha : 0 < a
  · refine ⟨a / many, b, a % many, ?_, z _⟩
    simp [callFn, f__law_pick, n__law_pick, b__law_pick, startE, put_i0 hl, put_i1 hl, put_s0 hl, put_s1 hl, ha, h1, h2]
  · refine ⟨a, (b * 44497 + 9973) % 2147483647, (b * 44497 + 9973) % 2147483647 * ((b * 44497 + 9973) % 2147483647) % 2147483399 / 11 % many, ?_, z _⟩
    simp [callFn, f__law_pick, n__law_pick, b__law_pick, startE, put_i0 hl, put_i1 hl, put_s0 hl, put_s1 hl, ha, h1, h2, okl, okr, okmod]
theorem law_chosen (k : Nat) (p : Nat) (ds : List Sim.D) (m : MH) (hm : Has p m) (h1 : 0 < ds.length) (h2 : ds.length < 1073741824) : Draw p m (R (k + 2) "_law_chosen" [.r p, .d (.list ds)] m) (fun d => d ∈ ds) := by
  obtain ⟨a, b, n, e, l, u⟩ := law_pick k p ds.length m hm (by omega) (by omega)
  obtain ⟨d, e2, hd⟩ := atI_in l u
  refine ⟨a, b, d, ?_, hd⟩
  rw [r__law_chosen]
  simp [callFn, f__law_chosen, n__law_chosen, b__law_chosen, startE, e, e2]
/-! any value -/
def plain : List Sim.D := [.none, .bool true, .bool false, .int 0, .int 1, .int 2, .int 4, .int (-2), .int 1000000000, .str "", .str "any", .str "home", .str "note", .str "low", .str "hook", .str "drive", .tuple [], .list []]
theorem bin_pow9 {mu : Bool} {m : MH} : binW mu .pow (.d (.int 10)) (.d (.int 9)) m = .ok (.d (.int 1000000000)) m := by
  rw [bin_pow_i, if_pos (by decide)]
  rfl
theorem fplain (n : Nat) : ∀ d ∈ plain, fit 8 (n + 1) d = true := by
  have : plain.all (fit 8 1) = true := by decide +kernel
  intro d hd
  exact fit_mono (Nat.le_refl _) (by omega) (List.all_eq_true.mp this d hd)
theorem pl1 (C : CallS) (e : Sim.Env) (m : MH) : evA C G (.cons (.dat .none) (.cons (.dat (.bool true)) (.cons (.dat (.bool false)) (.cons (.dat (.int 0)) (.cons (.dat (.int 1)) (.cons (.dat (.int 2)) (.cons (.dat (.int 4)) (.cons (.neg (.dat (.int 2))) (.cons (.bin false .pow (.dat (.int 10)) (.dat (.int 9))) (.cons (.dat (.str "")) (.cons (.dat (.str "any")) (.cons (.dat (.str "home")) (.cons (.dat (.str "note")) (.cons (.dat (.str "low")) (.cons (.dat (.str "hook")) (.cons (.dat (.str "drive")) (.cons (.tup .nil) (.cons (.lst false .nil) .nil)))))))))))))))))) e m = .ok plain m := by
  simp [plain, bin_pow9]
theorem rng_len (lo : Int) (n : Nat) : (rangeD lo n).length = n := by simp [rangeD]
theorem rng_mem {lo : Int} {n : Nat} {d : Sim.D} (h : d ∈ rangeD lo n) : ∃ i : Int, d = .int i ∧ lo ≤ i ∧ i < lo + n := by
  simp only [rangeD, List.mem_map, List.mem_range] at h
  obtain ⟨i, hi, rfl⟩ := h
  exact ⟨_, rfl, by omega, by omega⟩
/-! a variant -/
theorem atI_mem {ds : List Sim.D} {i : Int} {d : Sim.D} (h : atI ds i = some d) : d ∈ ds := by
  unfold atI at h
  cases e : ixN ds.length i with
  | none => rw [e] at h; cases h
  | some j => rw [e] at h; exact List.mem_of_getElem? h
theorem cut_mem {ds : List Sim.D} {lo hi : Option Int} {d : Sim.D} (h : d ∈ cutL ds lo hi) : d ∈ ds := List.mem_of_mem_drop (List.mem_of_mem_take h)
theorem cut_len (ds : List Sim.D) (lo hi : Option Int) : (cutL ds lo hi).length ≤ ds.length := by
  unfold cutL
  rw [List.length_take, List.length_drop]
  omega
def near : List Sim.D := [.int (-1), .int 0, .int 1, .int 2, .int 3, .int 4, .bool true, .str "home", .str "note", .str "walks", .str "any", .str "low", .str "never", .str "keeps", .str "hook", .tuple [.int 0], .tuple [.int 1, .int 0]]
theorem fnear (n : Nat) : ∀ d ∈ near, fit 8 (n + 1) d = true := by
  have : near.all (fit 8 1) = true := by decide +kernel
  intro d hd
  exact fit_mono (Nat.le_refl _) (by omega) (List.all_eq_true.mp this d hd)
theorem nr1 (C : CallS) (e : Sim.Env) (m : MH) : evA C G (.cons (.neg (.dat (.int 1))) (.cons (.dat (.int 0)) (.cons (.dat (.int 1)) (.cons (.dat (.int 2)) (.cons (.dat (.int 3)) (.cons (.dat (.int 4)) (.cons (.dat (.bool true)) (.cons (.dat (.str "home")) (.cons (.dat (.str "note")) (.cons (.dat (.str "walks")) (.cons (.dat (.str "any")) (.cons (.dat (.str "low")) (.cons (.dat (.str "never")) (.cons (.dat (.str "keeps")) (.cons (.dat (.str "hook")) (.cons (.tup (.cons (.dat (.int 0)) .nil)) (.cons (.tup (.cons (.dat (.int 1)) (.cons (.dat (.int 0)) .nil))) .nil))))))))))))))))) e m = .ok near m := by
  simp [near]
theorem cut_pre {ds : List Sim.D} {i : Int} (h0 : 0 ≤ i) : (cutL ds none (some i)).length = min i.toNat ds.length := by
  unfold cutL HT.sIx
  simp only [List.drop_zero, Nat.sub_zero, List.length_take]
  rw [if_neg (by omega)]
  omega
theorem cut_post {ds : List Sim.D} {i : Int} (h0 : 0 ≤ i) : (cutL ds (some i) none).length = ds.length - i.toNat := by
  unfold cutL HT.sIx
  simp only [List.length_take, List.length_drop]
  rw [if_neg (by omega)]
  omega
theorem cut_mid {ds : List Sim.D} {i j : Int} (h0 : 0 ≤ i) (h1 : i ≤ j) : (cutL ds (some i) (some j)).length = min j.toNat ds.length - min i.toNat ds.length := by
  unfold cutL HT.sIx
  simp only [List.length_take, List.length_drop]
  rw [if_neg (by omega), if_neg (by omega)]
  omega
theorem sz {n : Nat} (h : n ≤ 1000) : n ≤ sizeLine := Nat.le_of_lt (small1000 h)
theorem Draw_of {p : Nat} {m : MH} {r : MH → Sim.R W} {Q : Sim.D → Prop} (h : Has p m) (i : ∀ a0 b0, ∃ a b d, r (put p a0 b0 m) = .ok (.d d) (put p a b m) ∧ Q d) : Draw p m (r m) Q := by
  obtain ⟨a0, b0, e⟩ := put_self h
  obtain ⟨a, b, d, e1, q⟩ := i a0 b0
  rw [e] at e1
  exact ⟨a, b, d, e1, q⟩
theorem empty_of {ds : List Sim.D} (h : ds.isEmpty = true) : ds = [] := by cases ds <;> simp at h ⊢
/-! somebody -/
def wKey4 : List Sim.D := [.str "hook", .str "hook", .str "keeps", .str "morning"]
theorem wd (ws : List Sim.D) (h : ws.all (fun a => isWord a ws && fit 8 0 a) = true) : ∀ a ∈ ws, isWord a ws = true ∧ fit 8 0 a = true := fun a ha => by
  have := List.all_eq_true.mp h a ha
  simpa using this
theorem wdK : ∀ a ∈ wKey4, isWord a wHook = true ∧ fit 8 0 a = true := fun a ha => by
  have := List.all_eq_true.mp (show wKey4.all (fun a => isWord a wHook && fit 8 0 a) = true from by decide +kernel) a ha
  simpa using this
theorem bothB_b : ∀ a ∈ bothB, ∃ x, a = .bool x := fun a ha => by
  simp [bothB] at ha
  rcases ha with rfl | rfl <;> exact ⟨_, rfl⟩
theorem some1 (k p : Nat) (ws : List Sim.D) (m : MH) (hp : p < m.length) (h1 : 0 < ws.length) (h2 : ws.length < 1000) (a b : Int) : ∃ a' b' y,
    cmpE (R (k + 2)) G [2] false [2] [some (.r p), none, none] .nop (.call "_law_chosen" (.cons (.var 0) (.cons (.var 2) .nil))) (.list ws) (put p a b m) = .ok (some y) (put p a' b' m) ∧ y ∈ ws := by
  obtain ⟨a', b', d, e, q⟩ := (law_chosen k p ws (put p a b m) (put_has hp) h1 (by omega)).on0
  exact ⟨a', b', d, by simp [cmpE, compF, asgTg, wipeE, e], q⟩
theorem somebody (k p : Nat) (m : MH) (hm : Has p m) : Draw p m (R (k + 3) "_law_somebody" [.r p] m) (fun d => habit d = true ∧ fit 8 1 d = true) := by
  refine Draw_of (r := fun m => R (k + 3) "_law_somebody" [.r p] m) hm fun a0 b0 => ?_
  have hp := hm.lt
  obtain ⟨a1, b1, y1, e1, q1⟩ := some1 k p wLook m hp (by decide) (by decide) a0 b0
  obtain ⟨a2, b2, y2, e2, q2⟩ := some1 k p wPark m hp (by decide) (by decide) a1 b1
  obtain ⟨a3, b3, y3, e3, q3⟩ := some1 k p wFill m hp (by decide) (by decide) a2 b2
  obtain ⟨a4, b4, y4, e4, q4⟩ := some1 k p bothB m hp (by decide) (by decide) a3 b3
  obtain ⟨a5, b5, y5, e5, q5⟩ := some1 k p wHook m hp (by decide) (by decide) a4 b4
  obtain ⟨a6, b6, y6, e6, q6⟩ := some1 k p bothB m hp (by decide) (by decide) a5 b5
  have ec : compV (cmpE (R (k + 2)) G [2] false [2] [some (.r p), none, none] .nop (.call "_law_chosen" (.cons (.var 0) (.cons (.var 2) .nil)))) table [] (put p a0 b0 m) = .ok [y1, y2, y3, y4, y5, y6] (put p a6 b6 m) := by
    simp [table, compV, e1, e2, e3, e4, e5, e6]
  obtain ⟨a7, b7, y7, e7, q7⟩ := (law_chosen k p wKey4 (put p a6 b6 m ++ [.lst [y1, y2, y3, y4, y5, y6]]) (put_app_has hp) (by decide) (by decide)).on hp
  obtain ⟨a8, b8, n, e8, l8, u8⟩ := law_pick (k + 1) p 3 (put p a7 b7 m ++ [.lst [y1, y2, y3, y4, y7, y6]]) (put_app_has hp) (by omega) (by omega)
  rw [put_app (by simpa using hp), put_put] at e8
  obtain ⟨w1, f1⟩ := wd wLook (by decide +kernel) y1 q1
  obtain ⟨w2, f2⟩ := wd wPark (by decide +kernel) y2 q2
  obtain ⟨w3, f3⟩ := wd wFill (by decide +kernel) y3 q3
  obtain ⟨w7, f7⟩ := wdK y7 q7
  obtain ⟨x4, rfl⟩ := bothB_b y4 q4
  simp only [wKey4] at e7
  refine ⟨a8, b8, .tuple [y1, y2, y3, .bool x4, y7, .bool (decide (n = 0))], ?_, ?_, ?_⟩
  · simp only [r__law_somebody]
    simp [callFn, f__law_somebody, n__law_somebody, b__law_somebody, startE, law_table, ec, e7, e8, ixN]
  · simp [habit, w1, w2, w3, w7]
  · refine fit_mt (by simp) fun y hy => ?_
    simp only [List.mem_cons, List.not_mem_nil, or_false] at hy
    rcases hy with rfl | rfl | rfl | rfl | rfl | rfl <;> first | assumption | rfl
/-! a household -/
theorem rangeD_eq (lo : Int) (n : Nat) : rangeD lo n = ((List.range n).map fun (i : Nat) => lo + (i : Int)).map PyData.int := by
  simp [rangeD]
theorem range_up (lo : Int) (n : Nat) : ((List.range n).map fun (i : Nat) => lo + (i : Int)).Pairwise (· < ·) := by
  rw [List.pairwise_map]
  exact (List.pairwise_lt_range (n := n)).imp fun h => by omega
theorem comp_sub {p : Nat} {m : MH} {f : Sim.D → MH → Sim.R (Option Sim.D)} : ∀ {ds : List Sim.D}, (∀ d ∈ ds, ∀ a b, ∃ a' b' y, f d (put p a b m) = .ok y (put p a' b' m) ∧ (y = none ∨ y = some d)) → ∀ (acc : List Sim.D) (a b : Int),
    ∃ a' b' ys, compV f ds acc (put p a b m) = .ok (acc ++ ys) (put p a' b' m) ∧ ys.Sublist ds
  | [], _, acc, a, b => ⟨a, b, [], by simp [compV], .slnil⟩
  | d :: ds, h, acc, a, b => by
    obtain ⟨a1, b1, y, e, q⟩ := h d List.mem_cons_self a b
    rcases q with rfl | rfl
    · obtain ⟨a2, b2, ys, e2, q2⟩ := comp_sub (ds := ds) (fun x hx => h x (List.mem_cons_of_mem _ hx)) acc a1 b1
      exact ⟨a2, b2, ys, by simp only [compV, e, R.bind_ok, e2], .cons _ q2⟩
    · obtain ⟨a2, b2, ys, e2, q2⟩ := comp_sub (ds := ds) (fun x hx => h x (List.mem_cons_of_mem _ hx)) (acc ++ [d]) a1 b1
      exact ⟨a2, b2, d :: ys, by simp only [compV, e, R.bind_ok, e2]; simp, .cons₂ _ q2⟩
structure Home (p t : Int) (b : Bool) (f pe : List Sim.D) : Prop where
  p1 : 1 ≤ p
  p3 : p ≤ 3
  t1 : 1 ≤ t
  t3 : t ≤ 3
  f3 : f.length ≤ 3
  e1 : 1 ≤ pe.length
  e3 : pe.length ≤ 3
  good : house (home p t b f pe) = true
  fit : fit 8 3 (home p t b f pe) = true
  ffit : ∀ d ∈ f, Sim.fit 8 0 d = true
  efit : ∀ d ∈ pe, Sim.fit 8 1 d = true ∧ habit d = true
theorem law_home_ (k p : Nat) (most : Int) (hm1 : 1 ≤ most) (hm3 : most ≤ 3) (m : MH) (hm : Has p m) : Draw p m (R (k + 4) "_law_home" [.r p, .d (.int most)] m) (fun d => ∃ q t b f pe, d = home q t b f pe ∧ Home q t b f pe ∧ (pe.length : Int) ≤ most) := by
  refine Draw_of (r := fun m => R (k + 4) "_law_home" [.r p, .d (.int most)] m) hm fun a0 b0 => ?_
  have hp := hm.lt
  obtain ⟨a1, b1, n1, e1, l1, u1⟩ := law_pick (k + 2) p most (put p a0 b0 m) (put_has hp) (by omega) (by omega)
  rw [put_put] at e1
  obtain ⟨a2, b2, ys, e2, hl2, q2⟩ := comp_draw (p := p) (m := m) (f := cmpE (R (k + 3)) G [5] false [5] [some (.r p), some (.d (.int most)), none, none, none, none, none] .nop (.call "_law_somebody" (.cons (.var 0) .nil)))
    (Q := fun d => habit d = true ∧ fit 8 1 d = true) (ds := rangeD 0 (1 + n1).toNat) hp (fun d hd a b => by
      obtain ⟨a', b', d', e', q⟩ := (somebody k p (put p a b m) (put_has hp)).on0
      exact ⟨a', b', d', by simp [cmpE, compF, asgTg, wipeE, e'], q⟩) a1 b1
  obtain ⟨a3, b3, n3, e3, l3, u3⟩ := law_pick (k + 2) p 3 (put p a2 b2 m) (put_has hp) (by omega) (by omega)
  rw [put_put] at e3
  obtain ⟨a4, b4, fs, e4, q4⟩ := comp_sub (p := p) (m := m) (f := cmpE (R (k + 3)) G [6] false [6] [some (.r p), some (.d (.int most)), some (.d (.tuple ys)), some (.d (.int (1 + n3))), none, none, none] (.cmp .eq (.call "_law_pick" (.cons (.var 0) (.cons (.dat (.int 4)) .nil))) (.dat (.int 0))) (.var 6))
    (ds := rangeD 0 (1 + n3).toNat) (fun d hd a b => by
      obtain ⟨a', b', n, e', l, u⟩ := law_pick (k + 2) p 4 (put p a b m) (put_has hp) (by omega) (by omega)
      rw [put_put] at e'
      by_cases h0 : n = 0
      · subst h0
        exact ⟨a', b', some d, by simp [cmpE, compF, asgTg, wipeE, tst, condOf, e'], .inr rfl⟩
      · exact ⟨a', b', none, by simp [cmpE, compF, asgTg, wipeE, tst, condOf, e', h0], .inl rfl⟩) [] a3 b3
  obtain ⟨a5, b5, n5, e5, l5, u5⟩ := law_pick (k + 2) p 3 (put p a4 b4 m) (put_has hp) (by omega) (by omega)
  rw [put_put] at e5
  obtain ⟨a6, b6, n6, e6, l6, u6⟩ := law_pick (k + 2) p 3 (put p a5 b5 m) (put_has hp) (by omega) (by omega)
  rw [put_put] at e6
  have r1 : (-4611686018427387904 : Int) ≤ 1 + n1 := by omega
  have r2 : 1 + n1 ≤ 16777216 := by omega
  have r3 : (-4611686018427387904 : Int) ≤ 1 + n3 := by omega
  have r4 : 1 + n3 ≤ 16777216 := by omega
  refine ⟨a6, b6, home (1 + n3) (1 + n5) (decide (0 < n6)) fs ys, ?_, _, _, _, _, _, rfl, ?_, ?_⟩
  · simp only [r__law_home]
    simp [callFn, f__law_home, n__law_home, b__law_home, startE, home, e1, e2, e3, e4, e5, e6, r1, r2, r3, r4]
  · rw [rangeD_eq] at q4
    obtain ⟨ns, hs, rfl⟩ := List.sublist_map_iff.mp q4
    have hup := (range_up 0 (1 + n3).toNat).sublist hs
    have hin : ∀ n ∈ ns, 0 ≤ n ∧ n ≤ 1 + n3 - 1 := fun n hn => by
      have := hs.subset hn
      simp only [List.mem_map, List.mem_range] at this
      obtain ⟨i, hi, rfl⟩ := this
      omega
    have hfl : (ns.map PyData.int).length ≤ 3 := by
      have := hs.length_le
      simp at this
      simp
      omega
    have hyl : ys.length = (1 + n1).toNat := by rw [hl2, rng_len]
    have fin : fines (1 + n3 - 1) (.tuple (ns.map PyData.int)) = true := by
      simp only [fines, Bool.and_eq_true, decide_eq_true_eq, intOf_map, up_eq]
      refine ⟨?_, hup⟩
      simp only [List.all_eq_true, List.mem_map]
      rintro _ ⟨n, hm, rfl⟩
      have := hin n hm
      simp [isWhole]
      omega
    have ffit : ∀ d ∈ ns.map PyData.int, fit 8 0 d = true := fun d hd => by
      obtain ⟨n, _, rfl⟩ := List.mem_map.mp hd
      rfl
    refine ⟨by omega, by omega, by omega, by omega, hfl, by omega, by omega, ?_, ?_, ffit, fun d hd => ⟨(q2 d hd).2, (q2 d hd).1⟩⟩
    · have pp : people (.tuple ys) = true := by
        simp only [people, Bool.and_eq_true, decide_eq_true_eq, List.all_eq_true]
        exact ⟨⟨by omega, by omega⟩, fun d hd => (q2 d hd).1⟩
      simp only [home, house, fin, pp, isB_b, isWhole, Bool.and_true, Bool.and_eq_true, decide_eq_true_eq]
      omega
    · refine fit_mt (by simp) fun y hy => ?_
      simp only [List.mem_cons, List.not_mem_nil, or_false] at hy
      rcases hy with rfl | rfl | rfl | rfl | rfl
      · rfl
      · rfl
      · rfl
      · exact fit_mt (by omega) fun d hd => fit_mono (Nat.le_refl _) (by omega) (ffit d hd)
      · exact fit_mt (by omega) fun d hd => (fit_mono (Nat.le_refl _) (by omega) (q2 d hd).2)
  · have hyl : ys.length = (1 + n1).toNat := by rw [hl2, rng_len]
    omega
theorem law_home (k p : Nat) (m : MH) (hm : Has p m) : Draw p m (R (k + 4) "_law_home" [.r p, .d (.int 3)] m) (fun d => ∃ q t b f pe, d = home q t b f pe ∧ Home q t b f pe) :=
  (law_home_ k p 3 (by omega) (by omega) m hm).imp fun d ⟨q, t, b, f, pe, e, h, _⟩ => ⟨q, t, b, f, pe, e, h⟩
def Good (p t : Int) (b : Bool) (n : Int) (y : Sim.D) : Prop := stand p t b n y = true ∧ fit 8 1 y = true ∧ ∃ qs, y = .tuple qs
def notes (p : Int) (b : Bool) : List Sim.D := if b = true then rangeD (-1) (p + 1).toNat else [.int (-1)]
theorem notes_len (p : Int) (b : Bool) (h1 : 1 ≤ p) (h3 : p ≤ 3) : (notes p b).length ≤ 4 ∧ 0 < (notes p b).length := by
  cases b
  · simp [notes]
  · simp only [notes, if_true, rng_len]; omega
theorem notes_mem {p : Int} {b : Bool} (h1 : 1 ≤ p) {d : Sim.D} (h : d ∈ notes p b) : ∃ i : Int, d = .int i ∧ -1 ≤ i ∧ i ≤ (if b = true then p - 1 else -1) := by
  cases b
  · simp [notes] at h
    exact ⟨-1, h, by omega, by simp⟩
  · simp only [notes, if_true] at h
    obtain ⟨i, e, a, c⟩ := rng_mem h
    exact ⟨i, e, a, by simp; omega⟩
def B3 : SSs := (.cons (.asg 5 (.ite (.idx (.var 0) (.dat (.int 2))) (.blt false "list range!" (.cons (.neg (.dat (.int 1))) (.cons (.idx (.var 0) (.dat (.int 0))) .nil))) (.lst false (.cons (.neg (.dat (.int 1))) .nil)))) (.cons (.asg 1 (.bin false .add (.var 1) (.comp false (.tup (.cons (.var 2) (.cons (.var 3) (.cons (.var 4) (.cons (.var 6) .nil))))) [6] false (.val (.var 5)) .nop [6]))) .nil))
def B2 : SSs := (.cons (.for_ [4] false (.rng2 (.neg (.dat (.int 1))) (.blt false "len" (.cons (.idx (.var 0) (.dat (.int 4))) .nil))) B3) .nil)
def B1 : SSs := (.cons (.for_ [3] false (.rng1 (.bin false .add (.idx (.var 0) (.dat (.int 1))) (.dat (.int 1)))) B2) .nil)
section
variable {p t : Int} {b : Bool} {f pe : List Sim.D} (H : Home p t b f pe) (C : CallS) (m : MH)
include H
theorem loop3 (w u : Int) (hw : 0 ≤ w ∧ w ≤ p - 1) (hu : 0 ≤ u ∧ u ≤ t) : ∀ (ds F : List Sim.D) (x4 x5 : Option W), (∀ d ∈ ds, ∃ i : Int, d = .int i ∧ -1 ≤ i ∧ i ≤ pe.length - 1) → (∀ y ∈ F, Good p t b pe.length y) → F.length + 4 * ds.length ≤ 1000 →
    ∃ F' x4' x5', forV (asgTg [4] false) (evSs C G XX B3) ds [some (.d (home p t b f pe)), some (.d (.list F)), some (.d (.int w)), some (.d (.int u)), x4, x5, none] m = .nx [some (.d (home p t b f pe)), some (.d (.list F')), some (.d (.int w)), some (.d (.int u)), x4', x5', none] m ∧
      (∀ y ∈ F', Good p t b pe.length y) ∧ F'.length ≤ F.length + 4 * ds.length ∧ (F ≠ [] ∨ ds ≠ [] → F' ≠ [])
  | [], F, x4, x5, _, hF, _ => ⟨F, x4, x5, rfl, hF, by simp, fun h => by rcases h with h | h; exact h; exact absurd rfl h⟩
  | d :: ds, F, x4, x5, hd, hF, hl => by
    obtain ⟨i, rfl, hi1, hi2⟩ := hd d List.mem_cons_self
    obtain ⟨n4, n0⟩ := notes_len p b H.p1 H.p3
    have hl' : F.length + 4 * ds.length + 4 ≤ 1000 := by rw [List.length_cons] at hl; omega
    have hc : compV (cmpE C G [6] false [6] [some (.d (home p t b f pe)), some (.d (.list F)), some (.d (.int w)), some (.d (.int u)), some (.d (.int i)), some (.d (.list (notes p b))), none] .nop (.tup (.cons (.var 2) (.cons (.var 3) (.cons (.var 4) (.cons (.var 6) .nil)))))) (notes p b) [] m
        = .ok ([] ++ (notes p b).map fun x => .tuple [.int w, .int u, .int i, x]) m := compV_map _ [] fun x hx => by
      simp [cmpE, compF, asgTg, wipeE]
    have hs : F.length + (notes p b).length ≤ sizeLine := sz (by omega)
    have gd : ∀ y ∈ F ++ (notes p b).map (fun x => PyData.tuple [.int w, .int u, .int i, x]), Good p t b pe.length y := fun y hy => by
      rcases List.mem_append.mp hy with hy | hy
      · exact hF y hy
      · obtain ⟨x, hx, rfl⟩ := List.mem_map.mp hy
        obtain ⟨j, rfl, hj1, hj2⟩ := notes_mem H.p1 hx
        refine ⟨?_, rfl, _, rfl⟩
        simp only [stand, isWhole, Bool.and_eq_true, decide_eq_true_eq]
        exact ⟨⟨⟨hw.1, hw.2⟩, hu.1, hu.2⟩, ⟨hi1, hi2⟩, hj1, hj2⟩
    obtain ⟨F', y4, y5, e, g1, g2, g3⟩ := loop3 w u hw hu ds (F ++ (notes p b).map fun x => .tuple [.int w, .int u, .int i, x]) (some (.d (.int i))) (some (.d (.list (notes p b)))) (fun x hx => hd x (List.mem_cons_of_mem _ hx)) gd (by simp; omega)
    refine ⟨F', y4, y5, ?_, g1, by simp at g2 ⊢; omega, fun _ => g3 (.inl fun z => by simp at z; rw [z.2] at n0; simp at n0)⟩
    have hb : evSs C G XX B3 [some (.d (home p t b f pe)), some (.d (.list F)), some (.d (.int w)), some (.d (.int u)), some (.d (.int i)), x5, none] m = .nx [some (.d (home p t b f pe)), some (.d (.list (F ++ (notes p b).map fun x => .tuple [.int w, .int u, .int i, x]))), some (.d (.int w)), some (.d (.int u)), some (.d (.int i)), some (.d (.list (notes p b))), none] m := by
      have q1 : p < 2305843009213693952 := by have := H.p3; omega
      have q2 : (-2305843009213693952 : Int) ≤ p := by have := H.p1; omega
      have q3 : p + 1 ≤ 16777216 := by have := H.p3; omega
      have h5 : evE C G (.ite (.idx (.var 0) (.dat (.int 2))) (.blt false "list range!" (.cons (.neg (.dat (.int 1))) (.cons (.idx (.var 0) (.dat (.int 0))) .nil))) (.lst false (.cons (.neg (.dat (.int 1))) .nil))) [some (.d (home p t b f pe)), some (.d (.list F)), some (.d (.int w)), some (.d (.int u)), some (.d (.int i)), x5, none] m = .ok (.d (.list (notes p b))) m := by
        cases b
        · simp [home, atI, ixN, notes]
        · simp [home, atI, ixN, notes, bListRange, q1, q2, q3]
      simp only [B3, evSs_2, evS_1]
      rw [h5]
      simp [hc, hs]
    simp [forV, asgTg, hb, e]
theorem src2 (w u : Int) (F : Sim.D) (x4 x5 : Option W) : evI C G (.rng2 (.neg (.dat (.int 1))) (.blt false "len" (.cons (.idx (.var 0) (.dat (.int 4))) .nil))) [some (.d (home p t b f pe)), some (.d F), some (.d (.int w)), some (.d (.int u)), x4, x5, none] m = .ok (.vals (rangeD (-1) (pe.length + 1))) m := by
  have hp := H.e3
  have q1 : (pe.length : Int) < 2305843009213693952 := by omega
  have q2 : (-2305843009213693952 : Int) ≤ pe.length := by omega
  have q3 : (pe.length : Int) + 1 ≤ 16777216 := by omega
  have q4 : ((pe.length : Int) + 1).toNat = pe.length + 1 := by omega
  simp [home, atI, ixN, q1, q2, q3, q4]
theorem body2 (w u : Int) (hw : 0 ≤ w ∧ w ≤ p - 1) (hu : 0 ≤ u ∧ u ≤ t) (F : List Sim.D) (x4 x5 : Option W) (hF : ∀ y ∈ F, Good p t b pe.length y) (hl : F.length ≤ 900) :
    ∃ F1 y4 y5, evSs C G XX B2 [some (.d (home p t b f pe)), some (.d (.list F)), some (.d (.int w)), some (.d (.int u)), x4, x5, none] m = .nx [some (.d (home p t b f pe)), some (.d (.list F1)), some (.d (.int w)), some (.d (.int u)), y4, y5, none] m ∧
      (∀ y ∈ F1, Good p t b pe.length y) ∧ F1.length ≤ F.length + 16 ∧ F1 ≠ [] := by
  have h3 := H.e3
  have hn : (rangeD (-1) (pe.length + 1)).length = pe.length + 1 := rng_len _ _
  obtain ⟨F1, y4, y5, e1, g1, g2, g3⟩ := loop3 H C m w u hw hu (rangeD (-1) (pe.length + 1)) F x4 x5 (fun x hx => by
    obtain ⟨j, e, a, c⟩ := rng_mem hx
    exact ⟨j, e, a, by omega⟩) hF (by omega)
  refine ⟨F1, y4, y5, ?_, g1, by omega, g3 (.inr fun z => by rw [z] at hn; simp at hn)⟩
  simp only [B2, evSs_2, evS_9, evSs_1]
  rw [src2 H C m]
  simp only [R.thn_ok]
  rw [e1]
  simp only [RS.thn_nx]
theorem loop2 (w : Int) (hw : 0 ≤ w ∧ w ≤ p - 1) (ds : List Sim.D) : ∀ (F : List Sim.D) (x3 x4 x5 : Option W), (∀ d ∈ ds, ∃ i : Int, d = .int i ∧ 0 ≤ i ∧ i ≤ t) → (∀ y ∈ F, Good p t b pe.length y) → F.length + 16 * ds.length ≤ 900 →
    ∃ F' x3' x4' x5', forV (asgTg [3] false) (evSs C G XX B2) ds [some (.d (home p t b f pe)), some (.d (.list F)), some (.d (.int w)), x3, x4, x5, none] m = .nx [some (.d (home p t b f pe)), some (.d (.list F')), some (.d (.int w)), x3', x4', x5', none] m ∧
      (∀ y ∈ F', Good p t b pe.length y) ∧ F'.length ≤ F.length + 16 * ds.length ∧ (F ≠ [] ∨ ds ≠ [] → F' ≠ []) := by
  induction ds with
  | nil => exact fun F x3 x4 x5 _ hF _ => ⟨F, x3, x4, x5, rfl, hF, by simp, fun h => by rcases h with h | h; exact h; exact absurd rfl h⟩
  | cons d ds ih =>
    intro F x3 x4 x5 hd hF hl
    obtain ⟨i, rfl, hi1, hi2⟩ := hd d List.mem_cons_self
    have hl' : F.length + 16 * ds.length + 16 ≤ 900 := by rw [List.length_cons] at hl; omega
    obtain ⟨F1, y4, y5, hb, g1, g2, ne⟩ := body2 H C m w i hw ⟨hi1, hi2⟩ F x4 x5 hF (by omega)
    obtain ⟨F', z3, z4, z5, e, k1, k2, k3⟩ := ih F1 (some (.d (.int i))) y4 y5 (fun x hx => hd x (List.mem_cons_of_mem _ hx)) g1 (by omega)
    refine ⟨F', z3, z4, z5, ?_, k1, by rw [List.length_cons]; omega, fun _ => k3 (.inl ne)⟩
    have ha : asgTg [3] false (.int i) [some (.d (home p t b f pe)), some (.d (.list F)), some (.d (.int w)), x3, x4, x5, none] = some [some (.d (home p t b f pe)), some (.d (.list F)), some (.d (.int w)), some (.d (.int i)), x4, x5, none] := by simp only [asgTg, Bool.false_eq_true, if_false, List.set_cons_succ, List.set_cons_zero]
    exact (forV_cons ha hb).trans e
theorem src1 (u : Int) (F : Sim.D) (x3 x4 x5 : Option W) : evI C G (.rng1 (.bin false .add (.idx (.var 0) (.dat (.int 1))) (.dat (.int 1)))) [some (.d (home p t b f pe)), some (.d F), some (.d (.int u)), x3, x4, x5, none] m = .ok (.vals (rangeD 0 (t + 1).toNat)) m := by
  have h3 := H.t3
  have h1 := H.t1
  have q2 : (-4611686018427387904 : Int) ≤ t + 1 := by omega
  have q3 : t + 1 ≤ 16777216 := by omega
  simp [home, atI, ixN, q2, q3]
theorem body1 (u : Int) (hu : 0 ≤ u ∧ u ≤ p - 1) (F : List Sim.D) (x3 x4 x5 : Option W) (hF : ∀ y ∈ F, Good p t b pe.length y) (hl : F.length ≤ 700) :
    ∃ F1 y3 y4 y5, evSs C G XX B1 [some (.d (home p t b f pe)), some (.d (.list F)), some (.d (.int u)), x3, x4, x5, none] m = .nx [some (.d (home p t b f pe)), some (.d (.list F1)), some (.d (.int u)), y3, y4, y5, none] m ∧
      (∀ y ∈ F1, Good p t b pe.length y) ∧ F1.length ≤ F.length + 64 ∧ F1 ≠ [] := by
  have h3 := H.t3
  have h1 := H.t1
  have hn : (rangeD 0 (t + 1).toNat).length = (t + 1).toNat := rng_len _ _
  obtain ⟨F1, y3, y4, y5, e1, g1, g2, g3⟩ := loop2 H C m u hu (rangeD 0 (t + 1).toNat) F x3 x4 x5 (fun x hx => by
    obtain ⟨j, e, a, c⟩ := rng_mem hx
    exact ⟨j, e, a, by omega⟩) hF (by omega)
  refine ⟨F1, y3, y4, y5, ?_, g1, by omega, g3 (.inr fun z => by rw [z] at hn; simp at hn; omega)⟩
  simp only [B1, evSs_2, evS_9, evSs_1]
  rw [src1 H C m]
  simp only [R.thn_ok]
  rw [e1]
  simp only [RS.thn_nx]
theorem loop1 (ds : List Sim.D) : ∀ (F : List Sim.D) (x2 x3 x4 x5 : Option W), (∀ d ∈ ds, ∃ i : Int, d = .int i ∧ 0 ≤ i ∧ i ≤ p - 1) → (∀ y ∈ F, Good p t b pe.length y) → F.length + 64 * ds.length ≤ 700 →
    ∃ F' x2' x3' x4' x5', forV (asgTg [2] false) (evSs C G XX B1) ds [some (.d (home p t b f pe)), some (.d (.list F)), x2, x3, x4, x5, none] m = .nx [some (.d (home p t b f pe)), some (.d (.list F')), x2', x3', x4', x5', none] m ∧
      (∀ y ∈ F', Good p t b pe.length y) ∧ F'.length ≤ F.length + 64 * ds.length ∧ (F ≠ [] ∨ ds ≠ [] → F' ≠ []) := by
  induction ds with
  | nil => exact fun F x2 x3 x4 x5 _ hF _ => ⟨F, x2, x3, x4, x5, rfl, hF, by simp, fun h => by rcases h with h | h; exact h; exact absurd rfl h⟩
  | cons d ds ih =>
    intro F x2 x3 x4 x5 hd hF hl
    obtain ⟨i, rfl, hi1, hi2⟩ := hd d List.mem_cons_self
    have hl' : F.length + 64 * ds.length + 64 ≤ 700 := by rw [List.length_cons] at hl; omega
    obtain ⟨F1, y3, y4, y5, hb, g1, g2, ne⟩ := body1 H C m i ⟨hi1, hi2⟩ F x3 x4 x5 hF (by omega)
    obtain ⟨F', z2, z3, z4, z5, e, k1, k2, k3⟩ := ih F1 (some (.d (.int i))) y3 y4 y5 (fun x hx => hd x (List.mem_cons_of_mem _ hx)) g1 (by omega)
    refine ⟨F', z2, z3, z4, z5, ?_, k1, by rw [List.length_cons]; omega, fun _ => k3 (.inl ne)⟩
    have ha : asgTg [2] false (.int i) [some (.d (home p t b f pe)), some (.d (.list F)), x2, x3, x4, x5, none] = some [some (.d (home p t b f pe)), some (.d (.list F)), some (.d (.int i)), x3, x4, x5, none] := by simp only [asgTg, Bool.false_eq_true, if_false, List.set_cons_succ, List.set_cons_zero]
    exact (forV_cons ha hb).trans e
end
end K31
set_option maxHeartbeats 4000000
namespace K31
open PySem L2 Sim
/-! ### households and stands, typed -/
theorem word_of {v : Sim.D} {xs : List Str} (h : isWord v (xs.map PyData.str) = true) : ∃ x, x ∈ xs ∧ v = .str x := by
  cases v <;> simp only [isWord, Bool.false_eq_true] at h
  rename_i y
  simp only [List.any_map, List.any_eq_true, Function.comp, PyData.eqv, beq_iff_eq] at h
  obtain ⟨x, hx, rfl⟩ := h
  exact ⟨_, hx, rfl⟩
theorem lk_of {v : Sim.D} (h : isWord v wLook = true) : ∃ a : Lk, v = .str a.S := by
  obtain ⟨x, hx, rfl⟩ := word_of (xs := ["home", "note", "walks"]) h
  simp only [List.mem_cons, List.not_mem_nil, or_false] at hx
  rcases hx with rfl | rfl | rfl
  · exact ⟨.home, rfl⟩
  · exact ⟨.note, rfl⟩
  · exact ⟨.walks, rfl⟩
theorem pk_of {v : Sim.D} (h : isWord v wPark = true) : ∃ a : Pk, v = .str a.S := by
  obtain ⟨x, hx, rfl⟩ := word_of (xs := ["any", "home"]) h
  simp only [List.mem_cons, List.not_mem_nil, or_false] at hx
  rcases hx with rfl | rfl
  · exact ⟨.any, rfl⟩
  · exact ⟨.home, rfl⟩
theorem fl_of {v : Sim.D} (h : isWord v wFill = true) : ∃ a : Fl, v = .str a.S := by
  obtain ⟨x, hx, rfl⟩ := word_of (xs := ["always", "low", "never"]) h
  simp only [List.mem_cons, List.not_mem_nil, or_false] at hx
  rcases hx with rfl | rfl | rfl
  · exact ⟨.always, rfl⟩
  · exact ⟨.low, rfl⟩
  · exact ⟨.never, rfl⟩
theorem ky_of {v : Sim.D} (h : isWord v wHook = true) : ∃ a : Ky, v = .str a.S := by
  obtain ⟨x, hx, rfl⟩ := word_of (xs := ["hook", "keeps", "morning"]) h
  simp only [List.mem_cons, List.not_mem_nil, or_false] at hx
  rcases hx with rfl | rfl | rfl
  · exact ⟨.hook, rfl⟩
  · exact ⟨.keeps, rfl⟩
  · exact ⟨.morning, rfl⟩
theorem bool_of {v : Sim.D} (h : isB v = true) : ∃ b, v = .bool b := by cases v <;> simp at h; exact ⟨_, rfl⟩
theorem hab_of {v : Sim.D} (h : habit v = true) : ∃ a : Hab, v = a.D := by
  unfold habit at h
  split at h
  · simp only [Bool.and_eq_true] at h
    obtain ⟨⟨⟨h1, h2⟩, h3⟩, h4, h5, h6⟩ := h
    obtain ⟨a, rfl⟩ := lk_of h4
    obtain ⟨b, rfl⟩ := pk_of h5
    obtain ⟨c, rfl⟩ := fl_of h6
    obtain ⟨d, rfl⟩ := bool_of h1
    obtain ⟨e, rfl⟩ := ky_of h3
    obtain ⟨f, rfl⟩ := bool_of h2
    exact ⟨⟨a, b, c, d, e, f⟩, rfl⟩
  · cases h
theorem wordin {xs : List Str} {x : Str} (h : x ∈ xs) : isWord (.str x) (xs.map PyData.str) = true := by
  simp only [isWord, List.any_map, List.any_eq_true, Function.comp, PyData.eqv, beq_iff_eq]
  exact ⟨x, h, rfl⟩
theorem habit_D (a : Hab) : habit a.D = true := by
  have h1 : isWord (.str a.lk.S) wLook = true := wordin (xs := ["home", "note", "walks"]) (by cases a.lk <;> simp [Lk.S])
  have h2 : isWord (.str a.pk.S) wPark = true := wordin (xs := ["any", "home"]) (by cases a.pk <;> simp [Pk.S])
  have h3 : isWord (.str a.fl.S) wFill = true := wordin (xs := ["always", "low", "never"]) (by cases a.fl <;> simp [Fl.S])
  have h4 : isWord (.str a.ky.S) wHook = true := wordin (xs := ["hook", "keeps", "morning"]) (by cases a.ky <;> simp [Ky.S])
  simp [habit, Hab.D, h1, h2, h3, h4]
theorem fit_str {x : Str} (h : x ∈ okStrs) (w n : Nat) : fit w n (.str x) = true := by
  obtain ⟨a, b⟩ := okStrs_ok x h
  cases n <;> simp [fit, a, b]
theorem fit_int (i : Int) (w n : Nat) : fit w n (.int i) = true := by cases n <;> rfl
theorem fit_bool (i : Bool) (w n : Nat) : fit w n (.bool i) = true := by cases n <;> rfl
theorem fit_hab (a : Hab) (n : Nat) : fit 8 (n + 1) a.D = true := fit_mt (by simp) fun d hd => by
  simp only [List.mem_cons, List.not_mem_nil, or_false] at hd
  rcases hd with rfl | rfl | rfl | rfl | rfl | rfl
  · exact fit_str a.lk.mem _ _
  · exact fit_str a.pk.mem _ _
  · exact fit_str a.fl.mem _ _
  · exact fit_bool _ _ _
  · exact fit_str a.ky.mem _ _
  · exact fit_bool _ _ _
theorem fit_sd (s : Sd) (n : Nat) : fit 8 (n + 1) s.D = true := fit_mt (by simp) fun d hd => by
  simp only [List.mem_cons, List.not_mem_nil, or_false] at hd
  rcases hd with rfl | rfl | rfl | rfl <;> exact fit_int _ _ _
theorem map_of {α : Type} {f : α → Sim.D} : ∀ {ds : List Sim.D}, (∀ d ∈ ds, ∃ a, d = f a) → ∃ xs : List α, ds = xs.map f
  | [], _ => ⟨[], rfl⟩
  | d :: ds, h => by
    obtain ⟨a, rfl⟩ := h d List.mem_cons_self
    obtain ⟨xs, rfl⟩ := map_of fun d hd => h d (List.mem_cons_of_mem _ hd)
    exact ⟨a :: xs, rfl⟩
theorem len_fines (h : Hs) (g : h.ok) : h.f.length ≤ 3 := by
  have := pair_len (h.p - 1) h.f (-1) (by have := g.p1; omega) (fun n hn => by have := g.f1 n hn; omega) g.f2
  have := g.p3
  omega
theorem home_of {q t : Int} {b : Bool} {f pe : List Sim.D} (H : Home q t b f pe) : ∃ h : Hs, home q t b f pe = h.D ∧ h.ok ∧ h.p = q ∧ h.t = t ∧ h.b = b ∧ h.pe.length = pe.length := by
  obtain ⟨hs, rfl⟩ := map_of (f := Hab.D) fun d hd => hab_of (H.efit d hd).2
  have g := H.good
  simp only [home, house, Bool.and_eq_true, decide_eq_true_eq] at g
  have hf := g.1.2
  rw [fines_eq q H.p1 H.p3] at hf
  simp only [Bool.and_eq_true] at hf
  obtain ⟨ns, rfl, h1, h2⟩ := (incr_iff (q - 1) f (-1)).mp hf.2
  refine ⟨⟨q, t, b, ns, hs⟩, rfl, ⟨H.p1, H.p3, H.t1, H.t3, fun i hi => ?_, h2, by have := H.e1; simpa using this, by have := H.e3; simpa using this⟩, rfl, rfl, rfl, by simp⟩
  have := h1 i hi
  show 0 ≤ i ∧ i ≤ q - 1
  omega
theorem fit_hs {h : Hs} (g : h.ok) : fit 8 3 h.D = true := fit_mt (by simp) fun d hd => by
  have l1 := len_fines h g
  have l2 := g.e3
  simp only [List.mem_cons, List.not_mem_nil, or_false] at hd
  rcases hd with rfl | rfl | rfl | rfl | rfl
  · rfl
  · rfl
  · rfl
  · exact fit_mt (by simp; omega) fun d hd => by obtain ⟨i, _, rfl⟩ := List.mem_map.mp hd; exact fit_int _ _ _
  · exact fit_mt (by simp; omega) fun d hd => by obtain ⟨i, _, rfl⟩ := List.mem_map.mp hd; exact fit_hab _ _
theorem house_D {h : Hs} (g : h.ok) : house h.D = true := by
  have e1 := g.e1
  have e3 := g.e3
  have p1 := g.p1
  have p3 := g.p3
  have pp : people (.tuple (h.pe.map Hab.D)) = true := by
    simp only [people, Bool.and_eq_true, decide_eq_true_eq, List.all_eq_true, List.length_map]
    exact ⟨⟨by omega, by omega⟩, fun d hd => by obtain ⟨i, _, rfl⟩ := List.mem_map.mp hd; exact habit_D _⟩
  have ff : fines (h.p - 1) (.tuple (h.f.map .int)) = true := by
    simp only [fines, Bool.and_eq_true, decide_eq_true_eq, intOf_map, up_eq]
    refine ⟨?_, g.f2⟩
    simp only [List.all_eq_true, List.mem_map]
    rintro _ ⟨n, hm, rfl⟩
    have := g.f1 n hm
    simp [isWhole]
    omega
  have t1 := g.t1
  have t3 := g.t3
  simp only [Hs.D, house, ff, pp, isB_b, isWhole, Bool.and_true, Bool.and_eq_true, decide_eq_true_eq]
  omega
theorem stand_of {h : Hs} {y : Sim.D} (e : stand h.p h.t h.b h.pe.length y = true) : ∃ s : Sd, y = s.D ∧ s.ok h := by
  unfold stand at e
  split at e
  · rename_i w f k o
    simp only [Bool.and_eq_true] at e
    obtain ⟨⟨h1, h2⟩, h3, h4⟩ := e
    obtain ⟨w, rfl, a1, a2⟩ := isI_of h1
    obtain ⟨f, rfl, b1, b2⟩ := isI_of h2
    obtain ⟨k, rfl, c1, c2⟩ := isI_of h3
    obtain ⟨o, rfl, d1, d2⟩ := isI_of h4
    exact ⟨⟨w, f, k, o⟩, rfl, a1, a2, b1, b2, c1, c2, d1, d2⟩
  · cases e
theorem stand_D {h : Hs} {s : Sd} (g : s.ok h) : stand h.p h.t h.b h.pe.length s.D = true := by
  simp [stand, Sd.D, isWhole, g.w0, g.w1, g.u0, g.u1, g.k0, g.k1, g.n0, g.n1]
/-! ### the program's defs -/
theorem need_house_D (k : Nat) {h : Hs} (g : h.ok) (m : MH) : R (k + 4) "need_house" [.d h.D] m = .ok (.d .none) m := by
  have := need_house k h.D m (n := 3) (fit_mono (by omega) (Nat.le_refl _) (fit_hs g))
  rw [house_D g] at this
  simpa using this
theorem begun_D (k : Nat) (h : Hs) (m : MH) : R (k + 1) "begun" [.d h.D] m = .ok (.d (begin_ h).D) m := by
  rw [r_begun]
  simp [callFn, f_begun, n_begun, b_begun, startE, Hs.D, atI, ixN, begin_, Sd.D]
theorem looked_at_D (k : Nat) (a : Hab) (s : Sd) (m : MH) : R (k + 1) "looked_at" [.d a.D, .d s.D] m = .ok (.d (.int (looks a s))) m := by
  rw [r_looked_at]
  obtain ⟨lk, pk, fl, tl, ky, fg⟩ := a
  obtain ⟨w, u, kk, n⟩ := s
  by_cases h : 0 ≤ n <;> cases lk <;> simp [callFn, f_looked_at, n_looked_at, b_looked_at, startE, Hab.D, Sd.D, Lk.S, ofString_inj, atI, ixN, looks, h]
theorem z100 {n : Nat} (h : n ≤ 100) : n ≤ sizeLine := sz (by omega)
theorem driven_D (k : Nat) (h : Hs) (s : Sd) (a : Hab) (i : Nat) (pl : Int) (fg : Bool) (hi : h.pe[i]? = some a) (m : MH) : R (k + 1) "driven" [.d h.D, .d s.D, .d (.int i), .d (.int pl), .d (.bool fg)] m = .ok (.d (Rs.D (goes h s a i pl fg))) m := by
  rw [r_driven]
  have e := atI_map (f := Hab.D) hi
  have z2 := z100 (n := 2) (by omega)
  have z3 := z100 (n := 3) (by omega)
  have z4 := z100 (n := 4) (by omega)
  by_cases h1 : a.fl = .always ∨ a.fl = .low ∧ s.u - 1 = 0 <;> by_cases h2 : a.tl = true ∧ h.b = true ∧ fg = false <;> by_cases h3 : a.ky = .hook <;>
    simp [callFn, f_driven, n_driven, b_driven, startE, Hab.D, Hs.D, Sd.D, Rs.D, Wds.D, asgTg, setAll, e, goes, fills, opt, h1, h2, h3, z2, z3, z4, ix5_1, ix5_2, ix5_4, ix6_2, ix6_3, ix6_4]
  all_goals
    refine ⟨fun x y z => absurd ⟨x, y, z⟩ h2, fun x y => ?_⟩
    cases fg
    · exact absurd ⟨x, y, rfl⟩ h2
    · rfl
theorem key_in (k : Int) (i : Nat) (m : MH) : cmpW .nin (.d (.int k)) (.d (.tuple [.int (-1), .int i])) m = .ok (decide (k ≠ -1 ∧ k ≠ i)) m := by
  rw [cmp_nin_t (.int _ _) (by intro e he; simp only [List.mem_cons, List.not_mem_nil, or_false] at he; rcases he with rfl | rfl <;> exact .int _ _)]
  simp only [List.any_cons, List.any_nil, PyData.eqv, Bool.or_false]
  congr 1
  rw [Bool.eq_iff_iff]
  simp
  constructor
  · exact fun h => ⟨fun e => h.1 e.symm, fun e => h.2 e.symm⟩
  · exact fun h => ⟨fun e => h.1 e.symm, fun e => h.2 e.symm⟩
theorem drive_D (k : Nat) (h : Hs) (s : Sd) (a : Hab) (i : Nat) (pl : Int) (fg : Bool) (hi : h.pe[i]? = some a) (m : MH) : R (k + 2) "drive" [.d h.D, .d s.D, .d (.int i), .d (.int pl), .d (.bool fg)] m = .ok (.d (Rs.D (drv h s a i pl fg))) m := by
  rw [r_drive]
  have e := atI_map (f := Hab.D) hi
  have l := looked_at_D k a s m
  have d1 := driven_D k h s a i pl fg hi m
  have d2 := driven_D k h { s with u := h.t } a i pl fg hi m
  have wl := goes_len h { s with u := h.t } a i pl fg
  have z6 : 2 + (goes h { s with u := h.t } a i pl fg).2.length ≤ sizeLine := z100 (by omega)
  simp only [Hab.D] at l
  simp only [Sd.D, Hs.D] at l d1 d2
  unfold drv
  by_cases h1 : s.k ≠ -1 ∧ s.k ≠ i
  · simp [callFn, f_drive, n_drive, b_drive, startE, Hab.D, Hs.D, Sd.D, Rs.D, Wds.D, asgTg, e, key_in, h1, ix5_4]
  · have tail : (a.lk = .walks ∨ looks a s = s.w) → (callFn (R (k + 1)) G XX f_drive [.d h.D, .d s.D, .d (.int i), .d (.int pl), .d (.bool fg)] m) = .ok (.d (Rs.D (if 0 < s.u then goes h s a i pl fg else if a.fl = .never then (s, ["empty"]) else ((goes h { s with u := h.t } a i pl fg).1, "empty" :: "fills" :: (goes h { s with u := h.t } a i pl fg).2)))) m := by
      intro h2
      by_cases h3 : 0 < s.u
      · rcases h2 with h2 | h2 <;> simp [callFn, f_drive, n_drive, b_drive, startE, Hab.D, Hs.D, Sd.D, Rs.D, Wds.D, asgTg, e, key_in, h1, h2, h3, l, d1, ix5_4, ix6_0]
      · by_cases h4 : a.fl = .never
        · rw [h4] at l
          rcases h2 with h2 | h2 <;> simp [callFn, f_drive, n_drive, b_drive, startE, Hab.D, Hs.D, Sd.D, Rs.D, Wds.D, asgTg, e, key_in, h1, h2, h3, h4, l, ix5_4, ix6_0, ix6_2]
        · rcases h2 with h2 | h2 <;> simp [callFn, f_drive, n_drive, b_drive, startE, Hab.D, Hs.D, Sd.D, Rs.D, Wds.D, asgTg, e, key_in, h1, h2, h3, h4, l, d2, ix5_1, ix5_4, ix6_0, ix6_2, z6]
    rw [if_neg h1]
    by_cases w1 : a.lk = .walks
    · rw [if_neg (by simp [w1])]
      exact tail (.inl w1)
    · by_cases w2 : looks a s = s.w
      · rw [if_neg (by simp [w2])]
        exact tail (.inr w2)
      · rw [if_pos ⟨w1, w2⟩]
        simp [callFn, f_drive, n_drive, b_drive, startE, Hab.D, Hs.D, Sd.D, Rs.D, Wds.D, asgTg, e, key_in, h1, w1, w2, l, ix5_4, ix6_0]
end K31
set_option maxHeartbeats 4000000
namespace K31
open PySem L2 Sim
theorem fined_in (w : Int) (f : List Int) (m : MH) : cmpW .in_ (.d (.int w)) (.d (.tuple (f.map PyData.int))) m = .ok (decide (w ∈ f)) m := Enc.int.int_ (by omega) w f
theorem dawn_D (k : Nat) (h : Hs) (s : Sd) (g : s.ok h) (m : MH) : R (k + 1) "dawn" [.d h.D, .d s.D] m = .ok (.d (Rs.D (dawn h s))) m := by
  rw [r_dawn]
  have z2 := z100 (n := 2) (by omega)
  have z1 := z100 (n := 1) (by omega)
  by_cases h1 : 0 ≤ s.k
  · have hk : s.k = (s.k.toNat : Int) := by omega
    have hl : s.k.toNat < h.pe.length := by have := g.k1; omega
    have e := atI_map (f := Hab.D) (List.getElem?_eq_getElem hl)
    rw [← hk] at e
    have hu : hung h s = decide (h.pe[s.k.toNat].ky = .morning) := by simp [hung, h1, List.getElem?_eq_getElem hl]
    by_cases h2 : h.pe[s.k.toNat].ky = .morning <;> by_cases h3 : s.w ∈ h.f <;>
      simp [callFn, f_dawn, n_dawn, b_dawn, startE, Hab.D, Hs.D, Sd.D, Rs.D, Wds.D, asgTg, e, fined_in, h1, h2, h3, hu, Sim.dawn, opt, ix5_3, ix5_4, ix6_4, z1, z2]
  · have hu : hung h s = false := by simp [hung, h1]
    by_cases h3 : s.w ∈ h.f <;>
      simp [callFn, f_dawn, n_dawn, b_dawn, startE, Hab.D, Hs.D, Sd.D, Rs.D, Wds.D, asgTg, fined_in, h1, h3, hu, Sim.dawn, opt, ix5_3, ix5_4, ix6_4, z1, z2]
theorem dd_dawn (d : Dd) (m : MH) : cmpW .eq (.d d.D) (.d (.tuple [.str "morning"])) m = .ok (decide (d = .dawn)) m := encDd.ceq (by omega) d .dawn
theorem step_D (k : Nat) (h : Hs) (s : Sd) (g : s.ok h) (d : Dd) (hd : ∀ i pl fg, d = .go i pl fg → i < h.pe.length) (m : MH) : R (k + 3) "step" [.d h.D, .d s.D, .d d.D] m = .ok (.d (Rs.D (Sim.step h s d))) m := by
  rw [r_step]
  have dw := dawn_D (k + 1) h s g m
  have c := dd_dawn d m
  cases d with
  | dawn =>
    simp only [Dd.D] at c ⊢
    simp [callFn, f_step, n_step, b_step, startE, c, dw, Sim.step]
  | go i pl fg =>
    obtain ⟨a, hi⟩ : ∃ a, h.pe[i]? = some a := ⟨_, List.getElem?_eq_getElem (hd i pl fg rfl)⟩
    have dr := drive_D k h s a i pl fg hi m
    simp only [Dd.D] at c ⊢
    simp [callFn, f_step, n_step, b_step, startE, c, dr, asgTg, Sim.step, hi]
/-! the deeds that are possible -/
def DIN : SSs := (.cons (.expr (.meth false "append" (.var 2) (.cons (.tup (.cons (.dat (.str "drive")) (.cons (.var 3) (.cons (.var 5) (.cons (.dat (.bool false)) .nil))))) .nil))) (.cons (.ite (.idx (.var 4) (.dat (.int 5))) (.cons (.asg 6 (.call "drive" (.cons (.var 0) (.cons (.var 1) (.cons (.var 3) (.cons (.var 5) (.cons (.dat (.bool false)) .nil))))))) (.cons (.ite (.cmp .ne (.idx (.call "drive" (.cons (.var 0) (.cons (.var 1) (.cons (.var 3) (.cons (.var 5) (.cons (.dat (.bool true)) .nil)))))) (.dat (.int 0))) (.idx (.var 6) (.dat (.int 0)))) (.cons (.expr (.meth false "append" (.var 2) (.cons (.tup (.cons (.dat (.str "drive")) (.cons (.var 3) (.cons (.var 5) (.cons (.dat (.bool true)) .nil))))) .nil))) .nil) .nil) .nil)) .nil) .nil))
def DOUT : SSs := (.cons (.for_ [5] false (.rng1 (.ite (.cmp .eq (.idx (.var 4) (.dat (.int 1))) (.dat (.str "any"))) (.idx (.var 0) (.dat (.int 0))) (.dat (.int 1)))) DIN) .nil)
theorem deeds_eq : b_deeds_of = (.cons (.asg 2 (.lst true .nil)) (.cons (.for_ [3, 4] true (.enum (.idx (.var 0) (.dat (.int 4)))) DOUT) (.cons (.ret (.bin false .add (.var 2) (.lst false (.cons (.tup (.cons (.dat (.str "morning")) .nil)) .nil)))) .nil))) := rfl
theorem din (k : Nat) (h : Hs) (s : Sd) (a : Hab) (i : Nat) (pl : Int) (hi : h.pe[i]? = some a) (m : MH) (F : List Sim.D) (hF : F.length + 2 ≤ 1000) (x6 : Option W) : ∃ x6', evSs (R (k + 2)) G XX DIN [some (.d h.D), some (.d s.D), some (.r m.length), some (.d (.int i)), some (.d a.D), some (.d (.int pl)), x6] (m ++ [.lst F]) =
    .nx [some (.d h.D), some (.d s.D), some (.r m.length), some (.d (.int i)), some (.d a.D), some (.d (.int pl)), x6'] (m ++ [.lst (F ++ (deedsAt h s i a pl).map Dd.D)]) := by
  have d1 := fun m => drive_D k h s a i pl false hi m
  have d2 := fun m => drive_D k h s a i pl true hi m
  have z1 : F.length < sizeLine := by have := sz (n := F.length + 1) (by omega); omega
  have z2 : F.length + 1 < sizeLine := by have := sz (n := F.length + 2) (by omega); omega
  have i5 : atI [.str a.lk.S, .str a.pk.S, .str a.fl.S, .bool a.tl, .str a.ky.S, .bool a.fg] 5 = some (PyData.bool a.fg) := ix6_5 _ _ _ _ _ _
  have e0 : ∀ (x y : Sim.D), atI [x, y] 0 = some x := ix2_0
  have c := fun (x y : Sd) (m : MH) => encSd.cne (m := m) (by omega) x y
  have pre : ∀ F : List Sim.D, preMeth "append" (.r m.length) (m ++ [.lst F]) = true := fun F => by simp [preMeth]
  have app : ∀ (F : List Sim.D) (v : Sim.D), F.length < sizeLine → mAppend (.r m.length) [.d v] (m ++ [.lst F]) = .ok (.d .none) (m ++ [.lst (F ++ [v])]) := fun F v h => by simp [mAppend, h]
  cases hf : a.fg with
  | false =>
    refine ⟨x6, ?_⟩
    simp [DIN, pre, app, z1, Hab.D, ix6_5, hf, deedsAt, Dd.D]
  | true =>
    simp only [Hab.D, hf] at d1 d2 ⊢
    by_cases hne : (drv h s a i pl true).1 = (drv h s a i pl false).1
    · refine ⟨some (.d (Rs.D (drv h s a i pl false))), ?_⟩
      simp [DIN, pre, app, z1, ix6_5, d1, d2, Rs.D, e0, c, hne, deedsAt, hf, Dd.D]
    · refine ⟨some (.d (Rs.D (drv h s a i pl false))), ?_⟩
      simp [DIN, pre, app, z1, z2, ix6_5, d1, d2, Rs.D, e0, c, hne, deedsAt, hf, Dd.D]
theorem place_src (C : CallS) (h : Hs) (g : h.ok) (s : Sd) (a : Hab) (i : Nat) (x2 x5 x6 : Option W) (m : MH) : evI C G (.rng1 (.ite (.cmp .eq (.idx (.var 4) (.dat (.int 1))) (.dat (.str "any"))) (.idx (.var 0) (.dat (.int 0))) (.dat (.int 1)))) [some (.d h.D), some (.d s.D), x2, some (.d (.int i)), some (.d a.D), x5, x6] m = .ok (.vals ((places h a).map PyData.int)) m := by
  have p1 := g.p1
  have p3 := g.p3
  by_cases h1 : a.pk = .any
  · have r1 : (-4611686018427387904 : Int) ≤ h.p := by omega
    have r2 : h.p ≤ 16777216 := by omega
    simp [Hab.D, Hs.D, ix6_1, ix5_0, h1, Pk.S, places, r1, r2, rangeD_nat]
  · have : rangeD 0 1 = [PyData.int 0] := by simp [rangeD, List.range_succ]
    simp [Hab.D, Hs.D, ix6_1, ix5_0, h1, places, this]
theorem dout (k : Nat) (h : Hs) (g : h.ok) (s : Sd) (a : Hab) (i : Nat) (hi : h.pe[i]? = some a) (m : MH) (F : List Sim.D) (hF : F.length + 6 ≤ 1000) (x5 x6 : Option W) : ∃ x5' x6', evSs (R (k + 2)) G XX DOUT [some (.d h.D), some (.d s.D), some (.r m.length), some (.d (.int i)), some (.d a.D), x5, x6] (m ++ [.lst F]) =
    .nx [some (.d h.D), some (.d s.D), some (.r m.length), some (.d (.int i)), some (.d a.D), x5', x6'] (m ++ [.lst (F ++ (deedsOf h s i a).map Dd.D)]) := by
  obtain ⟨e', h1, x5', x6', rfl⟩ := forV_flat (asg := asgTg [5] false) (body := evSs (R (k + 2)) G XX DIN) (f := PyData.int) (g := fun pl => (deedsAt h s i a pl).map Dd.D) (m := m) (c := 2) (N := 1000)
    (Pe := fun e => ∃ x5 x6, e = [some (.d h.D), some (.d s.D), some (.r m.length), some (.d (.int i)), some (.d a.D), x5, x6]) (places h a) [some (.d h.D), some (.d s.D), some (.r m.length), some (.d (.int i)), some (.d a.D), x5, x6] F
    (fun pl _ e F ⟨x5, x6, he⟩ hl => by
      subst he
      obtain ⟨x6', e2⟩ := din k h s a i pl hi m F hl x6
      exact ⟨_, _, rfl, e2, _, _, rfl⟩)
    (fun pl _ => by rw [List.length_map]; exact deedsAt_len h s i a pl) ⟨_, _, rfl⟩ (by have := places_len g a; omega)
  refine ⟨x5', x6', ?_⟩
  simp only [DOUT, evSs_2, evSs_1, evS_9]
  rw [place_src (R (k + 2)) h g s a i _ x5 x6 _]
  simp only [R.thn_ok, h1, RS.thn_nx, deedsOf, List.map_flatMap]
theorem deeds_of_D (k : Nat) (h : Hs) (g : h.ok) (s : Sd) (m : MH) : R (k + 3) "deeds_of" [.d h.D, .d s.D] m = .ok (.d (.list ((deeds h s).map Dd.D))) m := by
  rw [r_deeds_of]
  obtain ⟨e', h1, x3, x4, x5, x6, rfl⟩ := forV_flat (asg := asgTg [3, 4] true) (body := evSs (R (k + 2)) G XX DOUT) (f := fun q : Nat × Hab => PyData.tuple [.int q.1, q.2.D]) (g := fun q => (deedsOf h s q.1 q.2).map Dd.D) (m := m) (c := 6) (N := 1000)
    (Pe := fun e => ∃ x3 x4 x5 x6, e = [some (.d h.D), some (.d s.D), some (.r m.length), x3, x4, x5, x6]) (enumN 0 h.pe) [some (.d h.D), some (.d s.D), some (.r m.length), none, none, none, none] []
    (fun q hq e F ⟨x3, x4, x5, x6, he⟩ hl => by
      subst he
      obtain ⟨i, a⟩ := q
      have hi := (enumN_mem hq).2
      obtain ⟨x5', x6', e2⟩ := dout k h g s a i (by simpa using hi) m F hl x5 x6
      exact ⟨_, _, rfl, e2, _, _, _, _, rfl⟩)
    (fun q _ => by rw [List.length_map]; exact deedsOf_len g s q.1 q.2) ⟨_, _, _, _, rfl⟩ (by rw [enumN_len]; have := g.e3; simp; omega)
  have zl : ((enumN 0 h.pe).flatMap fun q => (deedsOf h s q.1 q.2).map Dd.D).length + 1 ≤ sizeLine := by
    have h1 := flat_len (f := fun q : Nat × Hab => (deedsOf h s q.1 q.2).map Dd.D) (c := 6) (xs := enumN 0 h.pe) fun q _ => by rw [List.length_map]; exact deedsOf_len g s q.1 q.2
    rw [enumN_len] at h1
    have := g.e3
    exact sz (by omega)
  have e4 : atI [.int h.p, .int h.t, .bool h.b, .tuple (h.f.map .int), .tuple (h.pe.map Hab.D)] 4 = some (PyData.tuple (h.pe.map Hab.D)) := ix5_4 _ _ _ _ _
  have src : ∀ m, evI (R (k + 2)) G (.enum (.idx (.var 0) (.dat (.int 4)))) [some (.d h.D), some (.d s.D), some (.r (List.length m)), none, none, none, none] (m ++ [.lst []]) = .ok (.vals ((enumN 0 h.pe).map fun q => .tuple [.int q.1, q.2.D])) (m ++ [.lst []]) := fun m => by
    simp [Hs.D, e4, enumD_map]
  simp only [callFn, f_deeds_of, n_deeds_of, deeds_eq, startE, List.length_cons, List.length_nil, if_true, List.map_cons, List.map_nil, Nat.reduceSub, Nat.reduceAdd, List.replicate, List.cons_append, List.nil_append, evSs_2, evS_1, evE_13, evA_1, R.bind_ok, newL_t, R.thn_ok, List.set_cons_succ, List.set_cons_zero, RS.thn_nx, evS_9, src]
  rw [h1]
  simp only [RS.thn_nx, evSs_2, evSs_1, evS_6, evE_8, evE_13, evE_12, evE_1, evE_2, evA_2, evA_1, List.getElem?_cons_succ, List.getElem?_cons_zero, R.bind_ok, newL_f, List.nil_append, binW, rd_top', rd_d, binD, List.length_cons, List.length_nil, Nat.zero_add, if_pos zl, R.thn_ok, RS.thn_rt, fin_rt, end_d, app_take]
  simp [deeds, List.map_flatMap, Dd.D]
end K31
set_option maxHeartbeats 4000000
namespace K31
open PySem L2 Sim
/-! ### the law's own defs of deeds -/
theorem law_first_D (k : Nat) (h : Hs) (m : MH) : R (k + 1) "_law_first" [.d h.D] m = .ok (.d (begin_ h).D) m := by
  rw [r__law_first]
  simp [callFn, f__law_first, n__law_first, b__law_first, startE, Hs.D, ix5_1, begin_, Sd.D]
theorem law_sought_D (k : Nat) (a : Hab) (s : Sd) (h0 : -1 ≤ s.n) (m : MH) : R (k + 1) "_law_sought" [.d a.D, .d (.int s.w), .d (.int s.n)] m = .ok (.d (.bool (decide (a.lk = .walks ∨ looks a s = s.w)))) m := by
  rw [r__law_sought]
  by_cases h1 : a.lk = .walks
  · simp [callFn, f__law_sought, n__law_sought, b__law_sought, startE, Hab.D, ix6_0, h1, Lk.S]
  · by_cases h2 : a.lk = .note
    · by_cases h3 : s.n = -1
      · have h4 : ¬ 0 ≤ s.n := by omega
        simp [callFn, f__law_sought, n__law_sought, b__law_sought, startE, Hab.D, ix6_0, h2, h3, looks, Lk.S, ofString_inj]
        exact eq_comm
      · have h4 : 0 ≤ s.n := by omega
        simp [callFn, f__law_sought, n__law_sought, b__law_sought, startE, Hab.D, ix6_0, h2, h3, h4, looks, Lk.S, ofString_inj]
        exact eq_comm
    · simp [callFn, f__law_sought, n__law_sought, b__law_sought, startE, Hab.D, ix6_0, h1, h2, looks]
      exact eq_comm
def LDT : SSs := (.cons (.par [7, 10] (.cons (.bin false .sub (.var 7) (.dat (.int 1))) (.cons (.bin false .add (.var 10) (.lst false (.cons (.dat (.str "drives")) .nil))) .nil))) (.cons (.ite (.or (.cmp .eq (.idx (.var 9) (.dat (.int 2))) (.dat (.str "always"))) (.and (.cmp .eq (.var 7) (.dat (.int 0))) (.cmp .eq (.idx (.var 9) (.dat (.int 2))) (.dat (.str "low"))))) (.cons (.par [7, 10] (.cons (.idx (.var 0) (.dat (.int 1))) (.cons (.bin false .add (.var 10) (.lst false (.cons (.dat (.str "fills")) .nil))) .nil))) .nil) .nil) (.cons (.ite (.and (.idx (.var 9) (.dat (.int 3))) (.and (.idx (.var 0) (.dat (.int 2))) (.not (.var 4)))) (.cons (.par [8, 10] (.cons (.var 3) (.cons (.bin false .add (.var 10) (.lst false (.cons (.dat (.str "writes")) .nil))) .nil))) .nil) .nil) (.cons (.asg 5 (.ite (.cmp .eq (.idx (.var 9) (.dat (.int 4))) (.dat (.str "hook"))) (.neg (.dat (.int 1))) (.var 2))) (.cons (.ret (.tup (.cons (.tup (.cons (.var 3) (.cons (.var 7) (.cons (.var 5) (.cons (.var 8) .nil))))) (.cons (.blt false "tuple" (.cons (.bin false .add (.var 10) (.bin false .mul (.lst false (.cons (.dat (.str "hangs")) .nil)) (.blt false "int" (.cons (.cmp .eq (.var 5) (.neg (.dat (.int 1)))) .nil)))) .nil)) .nil)))) .nil)))))
def LDH : SSs := (.cons (.ite (.cmp .eq (.var 7) (.dat (.int 0))) (.cons (.asg 10 (.lst false (.cons (.dat (.str "empty")) .nil))) (.cons (.ite (.cmp .eq (.idx (.var 9) (.dat (.int 2))) (.dat (.str "never"))) (.cons (.ret (.tup (.cons (.var 1) (.cons (.tup (.cons (.dat (.str "empty")) .nil)) .nil)))) .nil) .nil) (.cons (.par [7, 10] (.cons (.idx (.var 0) (.dat (.int 1))) (.cons (.bin false .add (.var 10) (.lst false (.cons (.dat (.str "fills")) .nil))) .nil))) .nil))) .nil) LDT)
theorem law_drive_eq : b__law_drive = (.cons (.asgT [6, 7, 5, 8] (.var 1)) (.cons (.par [9, 10] (.cons (.idx (.idx (.var 0) (.dat (.int 4))) (.var 2)) (.cons (.lst false .nil) .nil))) (.cons (.ite (.and (.cmp .ge (.var 5) (.dat (.int 0))) (.cmp .ne (.var 5) (.var 2))) (.cons (.ret (.tup (.cons (.var 1) (.cons (.tup (.cons (.dat (.str "keyless")) .nil)) .nil)))) .nil) .nil) (.cons (.ite (.not (.call "_law_sought" (.cons (.var 9) (.cons (.var 6) (.cons (.var 8) .nil))))) (.cons (.ret (.tup (.cons (.var 1) (.cons (.tup (.cons (.dat (.str "missed")) .nil)) .nil)))) .nil) .nil) LDH)))) := rfl
theorem ldt (C : CallS) (h : Hs) (s : Sd) (u : Int) (a : Hab) (i : Nat) (pl : Int) (fg : Bool) (x1 : Option W) (x5 : Int) (x6 : Option W) (T : Wds) (hT : T.length ≤ 10) (m : MH) :
    evSs C G XX LDT [some (.d h.D), x1, some (.d (.int i)), some (.d (.int pl)), some (.d (.bool fg)), some (.d (.int x5)), x6, some (.d (.int u)), some (.d (.int s.n)), some (.d a.D), some (.d (.list (T.map .str)))] m
      = .rt (.d (Rs.D ((goes h { s with u := u } a i pl fg).1, T ++ (goes h { s with u := u } a i pl fg).2))) m := by
  have z : ∀ n : Nat, n ≤ 10 → T.length + n ≤ sizeLine := fun n h => z100 (by omega)
  have z0 := z 0 (by omega)
  have z1 := z 1 (by omega)
  have z2 : T.length + 1 + 1 ≤ sizeLine := z 2 (by omega)
  have z3 : T.length + 1 + 1 + 1 ≤ sizeLine := z 3 (by omega)
  have z4 : T.length + 1 + 1 + 1 + 1 ≤ sizeLine := z 4 (by omega)
  have hi : ((i : Int) = -1) = False := by simp
  have mb := fun (x : Sim.D) (b : Bool) (m : MH) => mul_b (x := x) (b := b) (m := m)
  have m1 := fun (x : Sim.D) (m : MH) => mul_b (x := x) (b := true) (m := m)
  have m0 := fun (x : Sim.D) (m : MH) => mul_b (x := x) (b := false) (m := m)
  simp only [if_true, Bool.false_eq_true, if_false] at m1 m0
  by_cases h1 : a.fl = .always ∨ u - 1 = 0 ∧ a.fl = .low <;> by_cases h2 : a.tl = true ∧ h.b = true ∧ fg = false <;> by_cases h3 : a.ky = .hook <;>
    (have h1' := h1
     rw [and_comm (a := u - 1 = 0)] at h1'
     simp [LDT, Hab.D, Hs.D, Sd.D, Rs.D, Wds.D, setAll, goes, fills, opt, h1, h1', h2, h3, hi, int_b, m1, m0, z0, z1, z2, z3, z4, ix5_1, ix5_2, ix6_2, ix6_3, ix6_4])
  all_goals
    refine ⟨fun x y z => absurd ⟨x, y, z⟩ h2, fun x y => ?_⟩
    cases fg
    · exact absurd ⟨x, y, rfl⟩ h2
    · rfl
theorem ldh (C : CallS) (h : Hs) (s : Sd) (a : Hab) (i : Nat) (pl : Int) (fg : Bool) (h0 : 0 ≤ s.u) (x5 : Int) (x6 : Option W) (m : MH) :
    evSs C G XX LDH [some (.d h.D), some (.d s.D), some (.d (.int i)), some (.d (.int pl)), some (.d (.bool fg)), some (.d (.int x5)), x6, some (.d (.int s.u)), some (.d (.int s.n)), some (.d a.D), some (.d (.list []))] m
      = .rt (.d (Rs.D (if 0 < s.u then goes h s a i pl fg else if a.fl = .never then (s, ["empty"]) else ((goes h { s with u := h.t } a i pl fg).1, "empty" :: "fills" :: (goes h { s with u := h.t } a i pl fg).2)))) m := by
  have z2 := z100 (n := 1 + 1) (by omega)
  have e4 : atI [.int h.p, .int h.t, .bool h.b, .tuple (h.f.map .int), .tuple (h.pe.map Hab.D)] 1 = some (PyData.int h.t) := ix5_1 _ _ _ _ _
  have e2 : atI [.str a.lk.S, .str a.pk.S, .str a.fl.S, .bool a.tl, .str a.ky.S, .bool a.fg] 2 = some (PyData.str a.fl.S) := ix6_2 _ _ _ _ _ _
  by_cases h1 : s.u = 0
  · have h2 : ¬ 0 < s.u := by omega
    by_cases h3 : a.fl = .never
    · rw [if_neg h2, if_pos h3]
      simp [LDH, h1, h3, Hab.D, ix6_2, Fl.S, Rs.D, Wds.D]
    · have := ldt C h s h.t a i pl fg (some (.d s.D)) x5 x6 ["empty", "fills"] (by simp) m
      rw [if_neg h2, if_neg h3]
      simp only [List.map_cons, List.map_nil] at this
      simp only [Hs.D, Hab.D] at this ⊢
      simp [LDH, h1, h3, e2, e4, z2, setAll, this]
  · have h2 : 0 < s.u := by omega
    have := ldt C h s s.u a i pl fg (some (.d s.D)) x5 x6 [] (by simp) m
    rw [if_pos h2]
    simp only [List.map_nil] at this
    simp [LDH, h1, this]
theorem law_drive_D (k : Nat) (h : Hs) (s : Sd) (g : s.ok h) (a : Hab) (i : Nat) (pl : Int) (fg : Bool) (hi : h.pe[i]? = some a) (m : MH) : R (k + 2) "_law_drive" [.d h.D, .d s.D, .d (.int i), .d (.int pl), .d (.bool fg)] m = .ok (.d (Rs.D (drv h s a i pl fg))) m := by
  rw [r__law_drive]
  have e := atI_map (f := Hab.D) hi
  have sg := law_sought_D k a s g.n0 m
  have k0 := g.k0
  have lh := ldh (R (k + 1)) h s a i pl fg g.u0 s.k (some (.d (.int s.w))) m
  have e4 : atI [.int h.p, .int h.t, .bool h.b, .tuple (h.f.map .int), .tuple (h.pe.map Hab.D)] 4 = some (PyData.tuple (h.pe.map Hab.D)) := ix5_4 _ _ _ _ _
  simp only [Hs.D, Sd.D] at lh
  unfold drv
  by_cases h1 : s.k ≠ -1 ∧ s.k ≠ i
  · have h1' : 0 ≤ s.k := by omega
    simp [callFn, f__law_drive, n__law_drive, law_drive_eq, startE, Hs.D, Sd.D, Rs.D, Wds.D, asgTg, setAll, e, e4, h1, h1']
  · have h1' : ¬ (0 ≤ s.k ∧ s.k ≠ i) := by omega
    rw [if_neg h1]
    by_cases h2 : a.lk ≠ .walks ∧ looks a s ≠ s.w
    · have h2' : ¬ (a.lk = .walks ∨ looks a s = s.w) := by simpa using h2
      rw [if_pos h2]
      simp only [h2', decide_false] at sg
      simp only [not_and, ne_eq, Decidable.not_not] at h1'
      by_cases h3 : 0 ≤ s.k
      · have h4 := h1' h3
        simp [callFn, f__law_drive, n__law_drive, law_drive_eq, startE, Hs.D, Sd.D, Rs.D, Wds.D, asgTg, setAll, e, e4, h4, sg]
      · simp [callFn, f__law_drive, n__law_drive, law_drive_eq, startE, Hs.D, Sd.D, Rs.D, Wds.D, asgTg, setAll, e, e4, h3, sg]
    · have h2' : (a.lk = .walks ∨ looks a s = s.w) := by
        by_cases q : a.lk = .walks
        · exact .inl q
        · exact .inr (Decidable.of_not_not fun z => h2 ⟨q, z⟩)
      rw [if_neg h2]
      simp only [h2', decide_true] at sg
      simp only [not_and, ne_eq, Decidable.not_not] at h1'
      by_cases h3 : 0 ≤ s.k
      · have h4 := h1' h3
        rw [h4] at lh
        simp [callFn, f__law_drive, n__law_drive, law_drive_eq, startE, Hs.D, Sd.D, asgTg, setAll, e, e4, h4, sg, lh]
      · simp [callFn, f__law_drive, n__law_drive, law_drive_eq, startE, Hs.D, Sd.D, asgTg, setAll, e, e4, h3, sg, lh]
theorem law_next_D (k : Nat) (h : Hs) (s : Sd) (g : s.ok h) (d : Dd) (hd : ∀ i pl fg, d = .go i pl fg → i < h.pe.length) (m : MH) : R (k + 3) "_law_next" [.d h.D, .d s.D, .d d.D] m = .ok (.d (Rs.D (Sim.step h s d))) m := by
  rw [r__law_next]
  cases d with
  | go i pl fg =>
    obtain ⟨a, hi⟩ : ∃ a, h.pe[i]? = some a := ⟨_, List.getElem?_eq_getElem (hd i pl fg rfl)⟩
    have dr := law_drive_D k h s g a i pl fg hi m
    simp [callFn, f__law_next, n__law_next, b__law_next, startE, Dd.D, ix4_0, ix4_1, ix4_2, ix4_3, dr, Sim.step, hi]
  | dawn =>
    have z0 := z100 (n := 0) (by omega)
    have z1 := z100 (n := 1) (by omega)
    have z2 := z100 (n := 1 + 1) (by omega)
    have m1 := fun (x : Sim.D) (m : MH) => mul_b (x := x) (b := true) (m := m)
    have m0 := fun (x : Sim.D) (m : MH) => mul_b (x := x) (b := false) (m := m)
    simp only [if_true, Bool.false_eq_true, if_false] at m1 m0
    have k0 := g.k0
    have ne : ((Str.ofString "morning") = Str.ofString "drive") = False := by simp [ofString_inj]
    by_cases h1 : 0 ≤ s.k
    · have hk : s.k = (s.k.toNat : Int) := by omega
      have hl : s.k.toNat < h.pe.length := by have := g.k1; omega
      have e := atI_map (f := Hab.D) (List.getElem?_eq_getElem hl)
      rw [← hk] at e
      have hu : hung h s = decide (h.pe[s.k.toNat].ky = .morning) := by simp [hung, h1, List.getElem?_eq_getElem hl]
      have hm : ¬ s.k = -1 := by omega
      by_cases h2 : h.pe[s.k.toNat].ky = .morning <;> by_cases h3 : s.w ∈ h.f <;>
        simp [callFn, f__law_next, n__law_next, b__law_next, startE, Dd.D, ix1_0, ne, Hab.D, Hs.D, Sd.D, Rs.D, Wds.D, asgTg, e, fined_in, hm, h2, h3, hu, Sim.step, Sim.dawn, opt, ix5_3, ix5_4, ix6_4, int_b, m1, m0, z0, z1, z2]
    · have hu : hung h s = false := by simp [hung, h1]
      have hm : s.k = -1 := by omega
      by_cases h3 : s.w ∈ h.f <;>
        simp [callFn, f__law_next, n__law_next, b__law_next, startE, Dd.D, ix1_0, ne, Hs.D, Sd.D, Rs.D, Wds.D, asgTg, fined_in, hm, h3, hu, Sim.step, Sim.dawn, opt, ix5_3, ix5_4, ix6_4, int_b, m1, m0, z0, z1, z2]
/-! all deeds, by the law -/
def AIN : SSs := (.cons (.expr (.meth false "append" (.var 2) (.cons (.tup (.cons (.dat (.str "drive")) (.cons (.var 3) (.cons (.var 5) (.cons (.dat (.bool false)) .nil))))) .nil))) (.cons (.asg 6 (.call "_law_drive" (.cons (.var 0) (.cons (.var 1) (.cons (.var 3) (.cons (.var 5) (.cons (.dat (.bool false)) .nil))))))) (.cons (.asg 7 (.call "_law_drive" (.cons (.var 0) (.cons (.var 1) (.cons (.var 3) (.cons (.var 5) (.cons (.dat (.bool true)) .nil))))))) (.cons (.ite (.and (.idx (.var 4) (.dat (.int 5))) (.cmp .ne (.idx (.var 6) (.dat (.int 0))) (.idx (.var 7) (.dat (.int 0))))) (.cons (.expr (.meth false "append" (.var 2) (.cons (.tup (.cons (.dat (.str "drive")) (.cons (.var 3) (.cons (.var 5) (.cons (.dat (.bool true)) .nil))))) .nil))) .nil) .nil) .nil))))
def AOUT : SSs := (.cons (.for_ [5] false (.val (.ite (.cmp .eq (.idx (.var 4) (.dat (.int 1))) (.dat (.str "home"))) (.lst false (.cons (.dat (.int 0)) .nil)) (.blt false "list range!" (.cons (.dat (.int 0)) (.cons (.idx (.var 0) (.dat (.int 0))) .nil))))) AIN) .nil)
theorem all_deeds_eq : b__law_all_deeds = (.cons (.asg 2 (.lst true .nil)) (.cons (.for_ [3, 4] true (.enum (.idx (.var 0) (.dat (.int 4)))) AOUT) (.cons (.ret (.bin false .add (.var 2) (.lst false (.cons (.tup (.cons (.dat (.str "morning")) .nil)) .nil)))) .nil))) := rfl
theorem ain (k : Nat) (h : Hs) (s : Sd) (g : s.ok h) (a : Hab) (i : Nat) (pl : Int) (hi : h.pe[i]? = some a) (m : MH) (F : List Sim.D) (hF : F.length + 2 ≤ 1000) (x6 x7 : Option W) : ∃ x6' x7', evSs (R (k + 2)) G XX AIN [some (.d h.D), some (.d s.D), some (.r m.length), some (.d (.int i)), some (.d a.D), some (.d (.int pl)), x6, x7] (m ++ [.lst F]) =
    .nx [some (.d h.D), some (.d s.D), some (.r m.length), some (.d (.int i)), some (.d a.D), some (.d (.int pl)), x6', x7'] (m ++ [.lst (F ++ (deedsAt h s i a pl).map Dd.D)]) := by
  have d1 := fun m => law_drive_D k h s g a i pl false hi m
  have d2 := fun m => law_drive_D k h s g a i pl true hi m
  have z1 : F.length < sizeLine := by have := sz (n := F.length + 1) (by omega); omega
  have z2 : F.length + 1 < sizeLine := by have := sz (n := F.length + 2) (by omega); omega
  have e0 : ∀ (x y : Sim.D), atI [x, y] 0 = some x := ix2_0
  have c := fun (x y : Sd) (m : MH) => encSd.cne (m := m) (by omega) x y
  have pre : ∀ F : List Sim.D, preMeth "append" (.r m.length) (m ++ [.lst F]) = true := fun F => by simp [preMeth]
  have app : ∀ (F : List Sim.D) (v : Sim.D), F.length < sizeLine → mAppend (.r m.length) [.d v] (m ++ [.lst F]) = .ok (.d .none) (m ++ [.lst (F ++ [v])]) := fun F v h => by simp [mAppend, h]
  have cm : ((drv h s a i pl false).1 = (drv h s a i pl true).1) = ((drv h s a i pl true).1 = (drv h s a i pl false).1) := propext eq_comm
  refine ⟨some (.d (Rs.D (drv h s a i pl false))), some (.d (Rs.D (drv h s a i pl true))), ?_⟩
  cases hf : a.fg with
  | false =>
    simp only [Hab.D, hf] at d1 d2 ⊢
    simp [AIN, pre, app, z1, d1, d2, ix6_5, hf, deedsAt, Dd.D]
  | true =>
    simp only [Hab.D, hf] at d1 d2 ⊢
    by_cases hne : (drv h s a i pl true).1 = (drv h s a i pl false).1
    · simp [AIN, pre, app, z1, ix6_5, d1, d2, Rs.D, e0, c, cm, hne, deedsAt, hf, Dd.D]
    · simp [AIN, pre, app, z1, z2, ix6_5, d1, d2, Rs.D, e0, c, cm, hne, deedsAt, hf, Dd.D]
theorem aplace_src (C : CallS) (h : Hs) (g : h.ok) (s : Sd) (a : Hab) (i : Nat) (x2 x5 x6 x7 : Option W) (m : MH) : evI C G (.val (.ite (.cmp .eq (.idx (.var 4) (.dat (.int 1))) (.dat (.str "home"))) (.lst false (.cons (.dat (.int 0)) .nil)) (.blt false "list range!" (.cons (.dat (.int 0)) (.cons (.idx (.var 0) (.dat (.int 0))) .nil))))) [some (.d h.D), some (.d s.D), x2, some (.d (.int i)), some (.d a.D), x5, x6, x7] m = .ok (.vals ((places h a).map PyData.int)) m := by
  have p1 := g.p1
  have p3 := g.p3
  cases hp : a.pk with
  | any =>
    have r1 : (-2305843009213693952 : Int) ≤ h.p := by omega
    have r2 : h.p < 2305843009213693952 := by omega
    have r3 : h.p ≤ 16777216 := by omega
    simp [Hab.D, Hs.D, ix6_1, ix5_0, hp, Pk.S, ofString_inj, places, bListRange, r1, r2, r3, rangeD_nat]
  | home => simp [Hab.D, Hs.D, ix6_1, ix5_0, hp, Pk.S, ofString_inj, places]
theorem aout (k : Nat) (h : Hs) (gh : h.ok) (s : Sd) (g : s.ok h) (a : Hab) (i : Nat) (hi : h.pe[i]? = some a) (m : MH) (F : List Sim.D) (hF : F.length + 6 ≤ 1000) (x5 x6 x7 : Option W) : ∃ x5' x6' x7', evSs (R (k + 2)) G XX AOUT [some (.d h.D), some (.d s.D), some (.r m.length), some (.d (.int i)), some (.d a.D), x5, x6, x7] (m ++ [.lst F]) =
    .nx [some (.d h.D), some (.d s.D), some (.r m.length), some (.d (.int i)), some (.d a.D), x5', x6', x7'] (m ++ [.lst (F ++ (deedsOf h s i a).map Dd.D)]) := by
  obtain ⟨e', h1, x5', x6', x7', rfl⟩ := forV_flat (asg := asgTg [5] false) (body := evSs (R (k + 2)) G XX AIN) (f := PyData.int) (g := fun pl => (deedsAt h s i a pl).map Dd.D) (m := m) (c := 2) (N := 1000)
    (Pe := fun e => ∃ x5 x6 x7, e = [some (.d h.D), some (.d s.D), some (.r m.length), some (.d (.int i)), some (.d a.D), x5, x6, x7]) (places h a) [some (.d h.D), some (.d s.D), some (.r m.length), some (.d (.int i)), some (.d a.D), x5, x6, x7] F
    (fun pl _ e F ⟨x5, x6, x7, he⟩ hl => by
      subst he
      obtain ⟨x6', x7', e2⟩ := ain k h s g a i pl hi m F hl x6 x7
      exact ⟨_, _, rfl, e2, _, _, _, rfl⟩)
    (fun pl _ => by rw [List.length_map]; exact deedsAt_len h s i a pl) ⟨_, _, _, rfl⟩ (by have := places_len gh a; omega)
  refine ⟨x5', x6', x7', ?_⟩
  simp only [AOUT, evSs_2, evSs_1, evS_9]
  rw [aplace_src (R (k + 2)) h gh s a i _ x5 x6 x7 _]
  simp only [R.thn_ok, h1, RS.thn_nx, deedsOf, List.map_flatMap]
theorem law_all_deeds_D (k : Nat) (h : Hs) (gh : h.ok) (s : Sd) (g : s.ok h) (m : MH) : R (k + 3) "_law_all_deeds" [.d h.D, .d s.D] m = .ok (.d (.list ((deeds h s).map Dd.D))) m := by
  rw [r__law_all_deeds]
  obtain ⟨e', h1, x3, x4, x5, x6, x7, rfl⟩ := forV_flat (asg := asgTg [3, 4] true) (body := evSs (R (k + 2)) G XX AOUT) (f := fun q : Nat × Hab => PyData.tuple [.int q.1, q.2.D]) (g := fun q => (deedsOf h s q.1 q.2).map Dd.D) (m := m) (c := 6) (N := 1000)
    (Pe := fun e => ∃ x3 x4 x5 x6 x7, e = [some (.d h.D), some (.d s.D), some (.r m.length), x3, x4, x5, x6, x7]) (enumN 0 h.pe) [some (.d h.D), some (.d s.D), some (.r m.length), none, none, none, none, none] []
    (fun q hq e F ⟨x3, x4, x5, x6, x7, he⟩ hl => by
      subst he
      obtain ⟨i, a⟩ := q
      have hi := (enumN_mem hq).2
      obtain ⟨x5', x6', x7', e2⟩ := aout k h gh s g a i (by simpa using hi) m F hl x5 x6 x7
      exact ⟨_, _, rfl, e2, _, _, _, _, _, rfl⟩)
    (fun q _ => by rw [List.length_map]; exact deedsOf_len gh s q.1 q.2) ⟨_, _, _, _, _, rfl⟩ (by rw [enumN_len]; have := gh.e3; simp; omega)
  have zl : ((enumN 0 h.pe).flatMap fun q => (deedsOf h s q.1 q.2).map Dd.D).length + 1 ≤ sizeLine := by
    have h1 := flat_len (f := fun q : Nat × Hab => (deedsOf h s q.1 q.2).map Dd.D) (c := 6) (xs := enumN 0 h.pe) fun q _ => by rw [List.length_map]; exact deedsOf_len gh s q.1 q.2
    rw [enumN_len] at h1
    have := gh.e3
    exact sz (by omega)
  have e4 : atI [.int h.p, .int h.t, .bool h.b, .tuple (h.f.map .int), .tuple (h.pe.map Hab.D)] 4 = some (PyData.tuple (h.pe.map Hab.D)) := ix5_4 _ _ _ _ _
  have src : ∀ m, evI (R (k + 2)) G (.enum (.idx (.var 0) (.dat (.int 4)))) [some (.d h.D), some (.d s.D), some (.r (List.length m)), none, none, none, none, none] (m ++ [.lst []]) = .ok (.vals ((enumN 0 h.pe).map fun q => .tuple [.int q.1, q.2.D])) (m ++ [.lst []]) := fun m => by
    simp [Hs.D, e4, enumD_map]
  simp only [callFn, f__law_all_deeds, n__law_all_deeds, all_deeds_eq, startE, List.length_cons, List.length_nil, if_true, List.map_cons, List.map_nil, Nat.reduceSub, Nat.reduceAdd, List.replicate, List.cons_append, List.nil_append, evSs_2, evS_1, evE_13, evA_1, R.bind_ok, newL_t, R.thn_ok, List.set_cons_succ, List.set_cons_zero, RS.thn_nx, evS_9, src]
  rw [h1]
  simp only [RS.thn_nx, evSs_2, evSs_1, evS_6, evE_8, evE_13, evE_12, evE_1, evE_2, evA_2, evA_1, List.getElem?_cons_succ, List.getElem?_cons_zero, R.bind_ok, newL_f, List.nil_append, binW, rd_top', rd_d, binD, List.length_cons, List.length_nil, Nat.zero_add, if_pos zl, R.thn_ok, RS.thn_rt, fin_rt, end_d, app_take]
  simp [deeds, List.map_flatMap, Dd.D]
end K31
set_option maxHeartbeats 4000000
namespace K31
open PySem L2 Sim
/-! ### what is possible -/
def passes (v : Sim.D) : Bool := match v with
  | .tuple [_, y, z, w] => !isB y && !isB z && isB w
  | .tuple _ => true
  | _ => false
def possB (h : Hs) (s : Sd) (v : Sim.D) : Bool := passes v && (deeds h s).any fun d => PyData.eqv d.D v
theorem eqv_str {x : Str} {v : Sim.D} (h : PyData.eqv (.str x) v = true) : v = .str x := by
  cases v <;> simp [PyData.eqv] at h
  rw [h]
theorem eqv_int {x : Int} {v : Sim.D} (n : isB v = false) (h : PyData.eqv (.int x) v = true) : v = .int x := by
  cases v <;> simp [PyData.eqv] at h n
  rw [h]
theorem eqv_bool {x : Bool} {v : Sim.D} (n : isB v = true) (h : PyData.eqv (.bool x) v = true) : v = .bool x := by
  cases v <;> simp [PyData.eqv] at h n
  rw [h]
theorem eqv_dd {d : Dd} {v : Sim.D} (p : passes v = true) (h : PyData.eqv d.D v = true) : v = d.D := by
  cases d with
  | dawn =>
    cases v <;> simp only [Dd.D, PyData.eqv, Bool.false_eq_true] at h
    rename_i ds
    match ds, h with
    | [x], h =>
      simp only [PyData.eqvAll, Bool.and_true] at h
      rw [eqv_str h]; rfl
    | [], h => simp [PyData.eqvAll] at h
    | _ :: _ :: _, h => simp [PyData.eqvAll] at h
  | go i pl fg =>
    cases v <;> simp only [Dd.D, PyData.eqv, Bool.false_eq_true] at h
    rename_i ds
    match ds, h, p with
    | [x, y, z, w], h, p =>
      simp only [passes, Bool.and_eq_true, Bool.not_eq_true'] at p
      simp only [PyData.eqvAll, Bool.and_true, Bool.and_eq_true] at h
      rw [eqv_str h.1, eqv_int p.1.1 h.2.1, eqv_int p.1.2 h.2.2.1, eqv_bool p.2 h.2.2.2]; rfl
    | [], h, _ => simp [PyData.eqvAll] at h
    | [_], h, _ => simp [PyData.eqvAll] at h
    | [_, _], h, _ => simp [PyData.eqvAll] at h
    | [_, _, _], h, _ => simp [PyData.eqvAll] at h
    | _ :: _ :: _ :: _ :: _ :: _, h, _ => simp [PyData.eqvAll] at h
theorem fit_dd (d : Dd) : fit 8 1 d.D = true := by
  cases d
  · exact fit_mt (by simp) fun d hd => by rw [List.mem_singleton.mp hd]; exact fit_str (by simp [okStrs]) _ _
  · refine fit_mt (by simp) fun d hd => ?_
    simp only [List.mem_cons, List.not_mem_nil, or_false] at hd
    rcases hd with rfl | rfl | rfl | rfl
    · exact fit_str (by simp [okStrs]) _ _
    · exact fit_int _ _ _
    · exact fit_int _ _ _
    · exact fit_bool _ _ _
theorem possB_ex {h : Hs} {s : Sd} {v : Sim.D} (e : possB h s v = true) : ∃ d, v = Dd.D d ∧ d ∈ deeds h s := by
  simp only [possB, Bool.and_eq_true, List.any_eq_true] at e
  obtain ⟨p, d, hd, e⟩ := e
  exact ⟨d, eqv_dd p e, hd⟩
theorem passes_D (d : Dd) : passes d.D = true := by cases d <;> simp [passes, Dd.D]
theorem possB_D (h : Hs) (s : Sd) (d : Dd) : possB h s d.D = decide (d ∈ deeds h s) := by
  have := encDd.any d (deeds h s)
  simp only [List.any_map, Function.comp] at this
  simp only [possB, passes_D, Bool.true_and]
  exact this
theorem mem_deeds {h : Hs} {s : Sd} {d : Dd} (g : h.ok) (hd : d ∈ deeds h s) : ∀ i pl fg, d = .go i pl fg → i < h.pe.length ∧ 0 ≤ pl ∧ pl ≤ h.p - 1 := by
  intro i pl fg e
  subst e
  have p1 := g.p1
  simp only [deeds, List.mem_append, List.mem_flatMap, List.mem_singleton, reduceCtorEq, or_false] at hd
  obtain ⟨⟨j, a⟩, h1, h2⟩ := hd
  have ha := (enumN_mem h1).2
  simp only [deedsOf, List.mem_flatMap] at h2
  obtain ⟨pl', h3, h4⟩ := h2
  have hpl : 0 ≤ pl' ∧ pl' ≤ h.p - 1 := by
    unfold places at h3
    split at h3
    · simp only [List.mem_map, List.mem_range] at h3
      obtain ⟨x, hx, rfl⟩ := h3
      simp only [Int.ofNat_eq_natCast]
      omega
    · simp only [List.mem_singleton] at h3
      subst h3
      omega
  have key : j = i ∧ pl' = pl := by
    unfold deedsAt at h4
    simp only [List.mem_cons, Dd.go.injEq] at h4
    rcases h4 with ⟨a, b, _⟩ | h4
    · exact ⟨a.symm, b.symm⟩
    · split at h4
      · simp only [List.mem_singleton, Dd.go.injEq] at h4
        exact ⟨h4.1.symm, h4.2.1.symm⟩
      · cases h4
  obtain ⟨rfl, rfl⟩ := key
  have : j < h.pe.length := by
    have := (List.getElem?_eq_some_iff.mp ha).1
    omega
  exact ⟨this, hpl⟩
theorem need_house_bad (k : Nat) {v : Sim.D} {n : Nat} (hv : fit 50 n v = true) (g : house v = false) (m : MH) : R (k + 4) "need_house" [.d v] m = .exc "InvalidHouse" [] m := by
  have := need_house k v m hv
  rw [g] at this
  simpa using this
end K31
set_option maxHeartbeats 4000000
namespace K31
open PySem L2 Sim
/-! ### what is drawn, typed -/
theorem Home_D {h : Hs} (g : h.ok) : Home h.p h.t h.b (h.f.map .int) (h.pe.map Hab.D) where
  p1 := g.p1
  p3 := g.p3
  t1 := g.t1
  t3 := g.t3
  f3 := by rw [List.length_map]; exact len_fines h g
  e1 := by rw [List.length_map]; exact g.e1
  e3 := by rw [List.length_map]; exact g.e3
  good := house_D g
  fit := fit_hs g
  ffit := fun d hd => by obtain ⟨i, _, rfl⟩ := List.mem_map.mp hd; exact fit_int _ _ _
  efit := fun d hd => by obtain ⟨i, _, rfl⟩ := List.mem_map.mp hd; exact ⟨fit_hab _ _, habit_D _⟩
theorem home_draw (k p : Nat) (most : Int) (h1 : 1 ≤ most) (h3 : most ≤ 3) (m : MH) (hm : Has p m) : ∃ a b h, R (k + 4) "_law_home" [.r p, .d (.int most)] m = .ok (.d (Hs.D h)) (put p a b m) ∧ h.ok ∧ (h.pe.length : Int) ≤ most := by
  obtain ⟨a, b, d, e, q, t, bb, f, pe, rfl, H, hl⟩ := law_home_ k p most h1 h3 m hm
  obtain ⟨h, e2, g, _, _, _, e3⟩ := home_of H
  exact ⟨a, b, h, by rw [e, e2], g, by rw [e3]; exact hl⟩
end K31
set_option maxHeartbeats 4000000
namespace K31
open PySem L2 Sim
/-! ### the walk through what can be reached -/

def kv (F : Tab) : List (Sim.D × Sim.D) := kvsOf Sd.D Cs.D F
def keysD (F : Tab) : List Sim.D := F.map fun p => p.1.D
theorem cs_snoc (c : List Dd) (d : Dd) : PyData.tuple (c.map Dd.D ++ [d.D]) = Cs.D (c ++ [d]) := by simp [Cs.D]
theorem keysD_snoc (F : Tab) (b : Nat) (hb : b ≤ F.length) (p : Sd × List Dd) : keysD ((F ++ [p]).drop b) = keysD (F.drop b) ++ [p.1.D] := by
  rw [List.drop_append_of_le_length hb]
  simp [keysD]
theorem keysD_len (F : Tab) : (keysD F).length = F.length := by simp [keysD]
theorem inv_len {h : Hs} (g : h.ok) {s0 : Sd} (gs0 : s0.ok h) {i : Nat} {F : Tab} (iv : Inv0 (nexts h) s0 i F) : F.length ≤ 192 := table_len g gs0 iv.nd iv.path
theorem bst_fold {h : Hs} {i : Nat} {F : Tab} {s : Sd} {c : List Dd} (hs : F[i]? = some (s, c)) : bst (nexts h) i F = (deeds h s).foldl (fun F d => ex1 c F (d, (Sim.step h s d).1)) F := by
  unfold bst
  rw [hs]
  simp only [expand, nexts, List.foldl_map]
theorem bst_ge (h : Hs) (i : Nat) (F : Tab) : F.length ≤ (bst (nexts h) i F).length := by
  obtain ⟨G, e⟩ := bst_pre (nexts h) i F
  rw [e, List.length_append]
  omega
/-- the walk of one line -/
def Turns (h : Hs) (s0 : Sd) (F0 : Tab) (a : Nat) (x1 x3 : Option W) (m Rm : MH) (j : Nat) (e : Sim.Env) (m' : MH) : Prop :=
  ∃ F, F = itr (nexts h) j a F0 ∧ Inv0 (nexts h) s0 (a + j) F ∧ F0.length ≤ F.length ∧ (∃ x5 x6 x7, e = [some (.d h.D), x1, some (.r m.length), x3, some (.r (m.length + 1 + Rm.length)), x5, x6, x7]) ∧ m' = hp (kv F) m (Rm ++ [.lst (keysD (F.drop F0.length))])
theorem turns_0 (h : Hs) (s0 : Sd) (F : Tab) (a : Nat) (iv : Inv0 (nexts h) s0 a F) (x1 x3 x5 x6 x7 : Option W) (m Rm : MH) : Turns h s0 F a x1 x3 m Rm 0 [some (.d h.D), x1, some (.r m.length), x3, some (.r (m.length + 1 + Rm.length)), x5, x6, x7] (hp (kv F) m (Rm ++ [.lst []])) :=
  ⟨F, rfl, iv, Nat.le_refl _, ⟨_, _, _, rfl⟩, by rw [List.drop_length]; rfl⟩
/-- the line that is walked: data, or a list of the heap -/
def Line (w : W) (m Rm : MH) (ds : List Sim.D) : Prop := w = .d (.list ds) ∨ ∃ p, w = .r (m.length + 1 + p) ∧ Rm[p]? = some (.lst ds)
theorem Line.rd {w : W} {m Rm : MH} {ds : List Sim.D} (h : Line w m Rm ds) (kvs : List (Sim.D × Sim.D)) : rd (hp kvs m Rm) w = some (.list ds) := by
  rcases h with rfl | ⟨p, rfl, e⟩
  · rfl
  · exact rd_lst (by rw [hp_at]; exact e)
theorem line_test {w : W} {m Rm : MH} {F : Tab} (h : Line w m Rm (keysD F)) (kvs : List (Sim.D × Sim.D)) : cmpW .ne w (.d (.list [])) (hp kvs m Rm) = .ok (!decide (F = [])) (hp kvs m Rm) := by
  have e : (keysD F) = (F.map (·.1)).map Sd.D := by simp [keysD]
  rw [cmpW_rd (x' := .d (.list (keysD F))) (by rw [h.rd]; rfl), e]
  have := encSd.list.cne (m := hp kvs m Rm) (by omega) (F.map (·.1)) []
  rw [List.map_nil] at this
  rw [this]
  simp
end K31
set_option maxHeartbeats 4000000
namespace K31
open PySem L2 Sim
/-! ### the law's own walk -/
/-! ### right stands -/
theorem pair_in (x y : Int) (m : MH) : cmpW .in_ (.d (.int x)) (.d (.tuple [.int (-1), .int y])) m = .ok (decide (x = -1 ∨ x = y)) m := by
  have := Enc.int.int_ (m := m) (by omega) x [-1, y]
  simp only [List.map_cons, List.map_nil] at this
  rw [this]
  simp
def optD (o : Option (List Dd)) : Sim.D := match o with
  | some c => Cs.D c
  | none => .none
end K31
set_option maxHeartbeats 4000000
namespace K31
open PySem L2 Sim
/-! ### the law's own walk through pairs -/
def optC (o : Option (List Dd)) : Sim.D := match o with
  | some c => Cs.D c
  | none => .none
def kp (F : PTab) : List (Sim.D × Sim.D) := kvsOf PrD Cs.D F
def kpD (F : PTab) : List Sim.D := F.map fun p => PrD p.1
theorem kpD_len (F : PTab) : (kpD F).length = F.length := by simp [kpD]
theorem odd_false {h h' : Hs} {q : Pr} {d : Dd} (e : odd h h' q d = false) : d ∈ deeds h q.1 ∧ d ∈ deeds h' q.2 ∧ (Sim.step h q.1 d).2 = (Sim.step h' q.2 d).2 := by
  simpa [odd] using e
theorem c_snoc (c : List Dd) (d : Dd) : PyData.tuple (c.map Dd.D ++ [d.D]) = Cs.D (c ++ [d]) := by simp [Cs.D]
theorem wds_ok (h : Hs) (s : Sd) (d : Dd) : ∀ x ∈ (Sim.step h s d).2, x ∈ okStrs := Sim.step_words h s d
def LE (h h' : Hs) (q : Pr) (m : MH) (i : Option W) (x2 x7 x10 x11 x12 : Option W) : Sim.Env := [some (.d h.D), some (.d h'.D), x2, some (.r m.length), some (.r (m.length + 1)), i, some (.d (PrD q)), x7, some (.d (.list ((deeds h q.1).map Dd.D))), some (.d (.list ((deeds h' q.2).map Dd.D))), x10, x11, x12]
theorem lp_go (k : Nat) {h h' : Hs} (g : h.ok) (g' : h'.ok) {q : Pr} (gq : q.1.ok h ∧ q.2.ok h') {d : Dd} (e : odd h h' q d = false) (F : PTab) (c : List Dd) (hl : lk F q = some c) (hF : F.length ≤ 40000) (hc : c.length ≤ 40000) (i x2 x10 x11 x12 : Option W) (m : MH) :
    ∃ x10' x11' x12', evSs (R (k + 3)) G XX L__law_parting_1 (LE h h' q m i x2 (some (.d d.D)) x10 x11 x12) (hp (kp F) m [.lst (kpD F)]) =
      .nx (LE h h' q m i x2 (some (.d d.D)) x10' x11' x12') (hp (kp (ex1 c F (d, stp h h' q d))) m [.lst (kpD (ex1 c F (d, stp h h' q d)))]) := by
  obtain ⟨m1, m2, we⟩ := odd_false e
  refine ⟨some (.d (Cs.D (c ++ [d]))), some (.d (Rs.D (Sim.step h q.1 d))), some (.d (Rs.D (Sim.step h' q.2 d))), ?_⟩
  have s1 := fun m => law_next_D k h q.1 gq.1 d (fun i pl fg e => (mem_deeds g m1 i pl fg e).1) m
  have s2 := fun m => law_next_D k h' q.2 gq.2 d (fun i pl fg e => (mem_deeds g' m2 i pl fg e).1) m
  have n1 := fun m => encDd.ninl (m := m) (by omega) d (deeds h q.1)
  have n2 := fun m => encDd.ninl (m := m) (by omega) d (deeds h' q.2)
  have w1 := fun m => show cmpW .ne (.d (Wds.D (Sim.step h q.1 d).2)) (.d (Wds.D (Sim.step h' q.2 d).2)) m = .ok false m by
    rw [cne_wds (wds_ok h q.1 d) (wds_ok h' q.2 d), we]; simp
  have ni := keyPr.cnin (V := Cs.D) (hp_rd (kvs := kp F) (m := m) (R := [.lst (kpD F)])) (stp h h' q d)
  have ix := keyPr.idx (V := Cs.D) (hp_rd (kvs := kp F) (m := m) (R := [.lst (kpD F)])) hl
  have e0 : ∀ (x y : Sim.D), atI [x, y] 0 = some x := ix2_0
  have e1 : ∀ (x y : Sim.D), atI [x, y] 1 = some y := ix2_1
  have z1 : c.length + 1 ≤ sizeLine := szp (by omega)
  have z2 : F.length < sizeLine := by have := szp (n := F.length + 1) (by omega); omega
  have z3 : (kpD F).length < sizeLine := by rw [kpD_len]; omega
  have ix' : idxW (.r m.length) (.d (.tuple [q.1.D, q.2.D])) (hp (kp F) m [.lst (kpD F)]) = .ok (.d (.tuple (c.map Dd.D))) (hp (kp F) m [.lst (kpD F)]) := ix
  have ni' : cmpW .nin (.d (.tuple [(Sim.step h q.1 d).1.D, (Sim.step h' q.2 d).1.D])) (.r m.length) (hp (kp F) m [.lst (kpD F)]) = .ok (!hasK F (stp h h' q d)) (hp (kp F) m [.lst (kpD F)]) := ni
  cases hk : hasK F (stp h h' q d) with
  | true =>
    have ee : ex1 c F (d, stp h h' q d) = F := by simp [ex1, hk]
    rw [hk] at ni'
    rw [ee]
    simp [L__law_parting_1, LE, PrD, s1, s2, n1, n2, m1, m2, Rs.D, w1, e0, e1, ni', ix', z1, c_snoc, setAll]
  | false =>
    have ee : ex1 c F (d, stp h h' q d) = F ++ [(stp h h' q d, c ++ [d])] := by simp [ex1, hk]
    have sb := keyPr.sub (V := Cs.D) (F := F) (m := hp (kp F) m [.lst (kpD F)]) (p := m.length) hp_dct z2 (stp h h' q d) (c ++ [d])
    rw [put_new _ hk, hp_set] at sb
    rw [hk] at ni'
    have kd : kpD (F ++ [(stp h h' q d, c ++ [d])]) = kpD F ++ [.tuple [(Sim.step h q.1 d).1.D, (Sim.step h' q.2 d).1.D]] := by simp [kpD, PrD, stp]
    have sb' : subW (.r m.length) (.d (.tuple [(Sim.step h q.1 d).1.D, (Sim.step h' q.2 d).1.D])) (.d (Cs.D (c ++ [d]))) (hp (kp F) m [.lst (kpD F)]) = .ok () (hp (kp (F ++ [(stp h h' q d, c ++ [d])])) m [.lst (kpD F)]) := sb
    have pre : ∀ kvs, preMeth "append" (.r (m.length + 1)) (hp kvs m [.lst (kpD F)]) = true := fun kvs => hp_pre (R := [])
    have app : ∀ kvs v, mAppend (.r (m.length + 1)) [.d v] (hp kvs m [.lst (kpD F)]) = .ok (.d .none) (hp kvs m [.lst (kpD F ++ [v])]) := fun kvs v => hp_app (R := []) z3
    rw [ee, kd]
    simp [L__law_parting_1, LE, PrD, s1, s2, n1, n2, m1, m2, Rs.D, w1, e0, e1, ni', ix', z1, c_snoc, setAll, sb', pre, app]
theorem lp_odd (k : Nat) {h h' : Hs} (g : h.ok) (g' : h'.ok) {q : Pr} (gq : q.1.ok h ∧ q.2.ok h') {d : Dd} (e : odd h h' q d = true) (F : PTab) (c : List Dd) (hl : lk F q = some c) (hc : c.length ≤ 40000) (i x2 x10 x11 x12 : Option W) (m : MH) :
    evSs (R (k + 3)) G XX L__law_parting_1 (LE h h' q m i x2 (some (.d d.D)) x10 x11 x12) (hp (kp F) m [.lst (kpD F)]) = .rt (.d (Cs.D (c ++ [d]))) (hp (kp F) m [.lst (kpD F)]) := by
  have n1 := fun m => encDd.ninl (m := m) (by omega) d (deeds h q.1)
  have n2 := fun m => encDd.ninl (m := m) (by omega) d (deeds h' q.2)
  have ix := keyPr.idx (V := Cs.D) (hp_rd (kvs := kp F) (m := m) (R := [.lst (kpD F)])) hl
  have e0 : ∀ (x y : Sim.D), atI [x, y] 0 = some x := ix2_0
  have e1 : ∀ (x y : Sim.D), atI [x, y] 1 = some y := ix2_1
  have z1 : c.length + 1 ≤ sizeLine := szp (by omega)
  have ix' : idxW (.r m.length) (.d (.tuple [q.1.D, q.2.D])) (hp (kp F) m [.lst (kpD F)]) = .ok (.d (.tuple (c.map Dd.D))) (hp (kp F) m [.lst (kpD F)]) := ix
  by_cases m1 : d ∈ deeds h q.1
  · by_cases m2 : d ∈ deeds h' q.2
    · have we : (Sim.step h q.1 d).2 ≠ (Sim.step h' q.2 d).2 := by simpa [odd, m1, m2] using e
      have s1 := fun m => law_next_D k h q.1 gq.1 d (fun i pl fg e => (mem_deeds g m1 i pl fg e).1) m
      have s2 := fun m => law_next_D k h' q.2 gq.2 d (fun i pl fg e => (mem_deeds g' m2 i pl fg e).1) m
      have w1 := fun m => show cmpW .ne (.d (Wds.D (Sim.step h q.1 d).2)) (.d (Wds.D (Sim.step h' q.2 d).2)) m = .ok true m by
        rw [cne_wds (wds_ok h q.1 d) (wds_ok h' q.2 d)]; simp [we]
      simp [L__law_parting_1, LE, PrD, s1, s2, n1, n2, m1, m2, Rs.D, w1, e0, e1, ix', z1, c_snoc, setAll]
    · simp [L__law_parting_1, LE, PrD, n1, n2, m1, m2, ix', z1, c_snoc]
  · simp [L__law_parting_1, LE, PrD, n1, m1, ix', z1, c_snoc]
end K31
set_option maxHeartbeats 4000000
namespace K31
open PySem L2 Sim
theorem lp_row (k : Nat) {h h' : Hs} (g : h.ok) (g' : h'.ok) (F : PTab) (i : Nat) (iv : Inv0 (nbp h h') (begin_ h, begin_ h') i F) (q : Pr) (c : List Dd) (hs : F[i]? = some (q, c)) (x2 x6 x7 x8 x9 x10 x11 x12 : Option W) (m : MH) :
    (∃ d m', (bth h h' q).find? (odd h h' q) = some d ∧ m'.take m.length = m ∧ evSs (R (k + 3)) G XX L__law_parting_0 [some (.d h.D), some (.d h'.D), x2, some (.r m.length), some (.r (m.length + 1)), some (.d (.int i)), x6, x7, x8, x9, x10, x11, x12] (hp (kp F) m [.lst (kpD F)]) = .rt (.d (Cs.D (c ++ [d]))) m') ∨
    ((bth h h' q).find? (odd h h' q) = none ∧ ∃ x6' x7' x8' x9' x10' x11' x12', evSs (R (k + 3)) G XX L__law_parting_0 [some (.d h.D), some (.d h'.D), x2, some (.r m.length), some (.r (m.length + 1)), some (.d (.int i)), x6, x7, x8, x9, x10, x11, x12] (hp (kp F) m [.lst (kpD F)]) =
      .nx [some (.d h.D), some (.d h'.D), x2, some (.r m.length), some (.r (m.length + 1)), some (.d (.int ((i : Int) + 1))), x6', x7', x8', x9', x10', x11', x12'] (hp (kp (bst (nbp h h') i F)) m [.lst (kpD (bst (nbp h h') i F))])) := by
  have gq := pr_ok g g' (iv.path _ (List.mem_of_getElem? hs))
  have d1 := fun m => law_all_deeds_D k h g q.1 gq.1 m
  have d2 := fun m => law_all_deeds_D k h' g' q.2 gq.2 m
  have e0 : ∀ (x y : Sim.D), atI [x, y] 0 = some x := ix2_0
  have e1 : ∀ (x y : Sim.D), atI [x, y] 1 = some y := ix2_1
  have at1 : (hp (kp F) m [.lst (kpD F)])[m.length + 1]? = some (.lst (kpD F)) := hp_top (R := [])
  have ix : idxW (.r (m.length + 1)) (.d (.int (i : Int))) (hp (kp F) m [.lst (kpD F)]) = .ok (.d (.tuple [q.1.D, q.2.D])) (hp (kp F) m [.lst (kpD F)]) := by
    have := atI_nat (l := kpD F) (i := i) (a := PrD q) (by simp [kpD, hs])
    simp [idxW, rd_lst at1, idxD, this, PrD]
  have ss := fun m => sset_bth g g' q m
  rw [List.map_append] at ss
  have zz : (deeds h q.1).length + (deeds h' q.2).length ≤ sizeLine := by
    have := (bth_len g g' q).1
    rw [List.length_append] at this
    exact sz (by omega)
  have l3 := (List.getElem?_eq_some_iff.mp hs).1
  rcases forV_stop (asg := asgTg [7] false) (body := evSs (R (k + 3)) G XX L__law_parting_1) (f := Dd.D) (nxt := fun F d => ex1 c F (d, stp h h' q d)) (od := odd h h' q) (V := fun d => .d (Cs.D (c ++ [d]))) (Q := fun m' => m'.take m.length = m)
    (Pe := fun F e m' => Inv0 (nbp h h') (begin_ h, begin_ h') i F ∧ F[i]? = some (q, c) ∧ (∃ x7 x10 x11 x12, e = LE h h' q m (some (.d (.int ((i : Int) + 1)))) x2 x7 x10 x11 x12) ∧ m' = hp (kp F) m [.lst (kpD F)])
    (bth h h' q) F (LE h h' q m (some (.d (.int ((i : Int) + 1)))) x2 x7 x10 x11 x12) (hp (kp F) m [.lst (kpD F)])
    (fun d hd ho F e m' ⟨iv, hs, ⟨x7, x10, x11, x12, he⟩, hm⟩ => by
      subst he; subst hm
      obtain ⟨iv2, hs2, _⟩ := iv.row hs (mem_nbp hd ho)
      have hl := lk_of_mem iv.nd (List.mem_of_getElem? hs)
      have l1 := ptab_len g g' iv
      have l2 : c.length ≤ i := iv.ix i _ hs
      have l3 := (List.getElem?_eq_some_iff.mp hs).1
      obtain ⟨x10', x11', x12', ee⟩ := lp_go k g g' gq ho F c hl (by omega) (by omega) (some (.d (.int ((i : Int) + 1)))) x2 x10 x11 x12 m
      exact ⟨_, _, _, rfl, ee, iv2, hs2, ⟨_, _, _, _, rfl⟩, rfl⟩)
    (fun d hd ho F e m' ⟨iv, hs, ⟨x7, x10, x11, x12, he⟩, hm⟩ => by
      subst he; subst hm
      have hl := lk_of_mem iv.nd (List.mem_of_getElem? hs)
      have l1 := ptab_len g g' iv
      have l2 : c.length ≤ i := iv.ix i _ hs
      have l3 := (List.getElem?_eq_some_iff.mp hs).1
      exact ⟨_, _, rfl, lp_odd k g g' gq ho F c hl (by omega) (some (.d (.int ((i : Int) + 1)))) x2 x10 x11 x12 m, hp_take⟩)
    ⟨iv, hs, ⟨_, _, _, _, rfl⟩, rfl⟩ with ⟨d, m', f1, f2, f3⟩ | ⟨f1, e', m', f2, iv', hs', ⟨x7', x10', x11', x12', rfl⟩, rfl⟩
  · refine .inl ⟨d, m', f1, f3, ?_⟩
    simp only [LE] at f2
    simp [L__law_parting_0, ix, d1, d2, e0, e1, ss, zz, setAll, PrD] at f2 ⊢
    simp [f2]
  · refine .inr ⟨f1, some (.d (PrD q)), x7', some (.d (.list ((deeds h q.1).map Dd.D))), some (.d (.list ((deeds h' q.2).map Dd.D))), x10', x11', x12', ?_⟩
    rw [bst_pair hs f1]
    simp only [LE] at f2
    simp [L__law_parting_0, ix, d1, d2, e0, e1, ss, zz, setAll, PrD] at f2 ⊢
    simp [f2]
theorem pit_ge (h h' : Hs) (i : Nat) (F : PTab) : F.length ≤ (bst (nbp h h') i F).length := by
  obtain ⟨G, e⟩ := bst_pre (nbp h h') i F
  rw [e, List.length_append]
  omega
/-- how a loop through pairs ends -/
def PEnd (h h' : Hs) (m : MH) (w : Sim.RS) : Prop := ∃ r, Ends h h' r ∧ ((r = none ∧ ∃ e' m', m'.take m.length = m ∧ w = .nx e' m') ∨ ∃ m', m'.take m.length = m ∧ r ≠ none ∧ w = .rt (.d (optC r)) m')
theorem law_parting_D (k : Nat) {h h' : Hs} (g : h.ok) (g' : h'.ok) (m : MH) : ∃ r, Ends h h' r ∧ R (k + 4) "_law_parting" [.d h.D, .d h'.D] m = .ok (.d (optC r)) m := by
  have wh : ∀ x2 x6 x7 x8 x9 x10 x11 x12, PEnd h h' m (whileF (evT (R (k + 3)) G (.cmp .lt (.var 5) (.blt false "len" (.cons (.var 4) .nil)))) (evSs (R (k + 3)) G XX L__law_parting_0) whileMost [some (.d h.D), some (.d h'.D), x2, some (.r m.length), some (.r (m.length + 1)), some (.d (.int 0)), x6, x7, x8, x9, x10, x11, x12] (hp (kp (pit h h' 0)) m [.lst (kpD (pit h h' 0))])) := by
    intro x2 x6 x7 x8 x9 x10 x11 x12
    refine whileF_run (Z := PEnd h h' m)
      (P := fun n e m' => ∃ (i : Nat) (x6 x7 x8 x9 x10 x11 x12 : Option W), n = 40000 - i ∧ Inv0 (nbp h h') (begin_ h, begin_ h') i (pit h h' i) ∧ i ≤ (pit h h' i).length ∧ (∀ j, j < i → ∃ q c, (pit h h' j)[j]? = some (q, c) ∧ (bth h h' q).find? (odd h h' q) = none) ∧
        e = [some (.d h.D), some (.d h'.D), x2, some (.r m.length), some (.r (m.length + 1)), some (.d (.int i)), x6, x7, x8, x9, x10, x11, x12] ∧ m' = hp (kp (pit h h' i)) m [.lst (kpD (pit h h' i))])
      ?_ _ 40000 _ _ ⟨0, _, _, _, _, _, _, _, rfl, Inv0.start _, Nat.zero_le _, (fun j hj => absurd hj (Nat.not_lt_zero j)), rfl, rfl⟩ (by rw [while_most]; omega)
    rintro n e m' ⟨i, x6, x7, x8, x9, x10, x11, x12, rfl, iv, hi, hall, rfl, rfl⟩
    generalize eF : pit h h' i = F at *
    have at1 : (hp (kp F) m [.lst (kpD F)])[m.length + 1]? = some (.lst (kpD F)) := hp_top (R := [])
    have ln : bLen [.r (m.length + 1)] (hp (kp F) m [.lst (kpD F)]) = .ok (.d (.int F.length)) (hp (kp F) m [.lst (kpD F)]) := by
      simp [bLen, rd_lst at1, kpD_len]
    have tst : evT (R (k + 3)) G (.cmp .lt (.var 5) (.blt false "len" (.cons (.var 4) .nil))) [some (.d h.D), some (.d h'.D), x2, some (.r m.length), some (.r (m.length + 1)), some (.d (.int i)), x6, x7, x8, x9, x10, x11, x12] (hp (kp F) m [.lst (kpD F)]) = .ok (decide (i < F.length)) (hp (kp F) m [.lst (kpD F)]) := by
      simp [ln]
    rw [tst]
    by_cases hd : i < F.length
    · have l1 := ptab_len g g' iv
      have hs : F[i]? = some ((F[i]).1, (F[i]).2) := List.getElem?_eq_getElem hd
      refine .inr ⟨hp (kp F) m [.lst (kpD F)], by simp [hd], ?_⟩
      rcases lp_row k g g' F i iv _ _ hs x2 x6 x7 x8 x9 x10 x11 x12 m with ⟨d, m', f1, f2, f3⟩ | ⟨f1, x6', x7', x8', x9', x10', x11', x12', f2⟩
      · rw [f3]
        exact ⟨some ((F[i]).2 ++ [d]), ⟨i, hall, .inr ⟨_, _, d, by rw [eF]; exact hs, f1, rfl⟩⟩, .inr ⟨m', f2, by simp, rfl⟩⟩
      · rw [f2, show ((i : Int) + 1) = ((i + 1 : Nat) : Int) by omega]
        have en : pit h h' (i + 1) = bst (nbp h h') i F := by
          unfold pit at eF ⊢
          rw [itr_succ, Nat.zero_add, eF]
        refine ⟨40000 - (i + 1), by omega, i + 1, _, _, _, _, _, _, _, rfl, ?_, ?_, fun j hj => ?_, rfl, by rw [en]⟩
        · rw [en]; exact iv.step hd
        · rw [en]
          have := pit_ge h h' i F
          omega
        · by_cases e : j < i
          · exact hall j e
          · have : j = i := by omega
            subst this
            exact ⟨_, _, by rw [eF]; exact hs, f1⟩
    · exact .inl ⟨hp (kp F) m [.lst (kpD F)], by simp [hd], none, ⟨i, hall, .inl ⟨by rw [eF]; exact List.getElem?_eq_none (by omega), rfl⟩⟩, .inl ⟨rfl, _, _, hp_take, rfl⟩⟩
  have kt := keyPr.keyT (begin_ h, begin_ h')
  have f1 : ∀ m, R (k + 3) "_law_first" [.d h.D] m = .ok (.d (begin_ h).D) m := fun m => law_first_D (k + 2) h m
  have f2 : ∀ m, R (k + 3) "_law_first" [.d h'.D] m = .ok (.d (begin_ h').D) m := fun m => law_first_D (k + 2) h' m
  have e0 : m ++ [.dct [(PrD (begin_ h, begin_ h'), .tuple [])], .lst [PrD (begin_ h, begin_ h')]] = hp (kp (pit h h' 0)) m [.lst (kpD (pit h h' 0))] := rfl
  have e2 : m ++ [.dct [(PrD (begin_ h, begin_ h'), .tuple [])]] ++ [.lst [PrD (begin_ h, begin_ h')]] = hp (kp (pit h h' 0)) m [.lst (kpD (pit h h' 0))] := by simp [e0]
  have pe : PyData.tuple [(begin_ h).D, (begin_ h').D] = PrD (begin_ h, begin_ h') := rfl
  have st : startE n__law_parting.length [W.d h.D, W.d h'.D] = [some (.d h.D), some (.d h'.D), none, none, none, none, none, none, none, none, none, none, none] := rfl
  obtain ⟨r, er, hr⟩ := wh (some (.d (PrD (begin_ h, begin_ h')))) none none none none none none none
  refine ⟨r, er, ?_⟩
  rw [r__law_parting]
  rcases hr with ⟨rfl, e', m', f3, f4⟩ | ⟨m', f3, _, f4⟩
  all_goals
    simp only [callFn, show f__law_parting.np = 2 from rfl, show f__law_parting.N = n__law_parting from rfl, st, show f__law_parting.body = b__law_parting from rfl, show f__law_parting.keep = false from rfl, b__law_parting, evSs_2, evSs_1, evS_1, evS_3, evW_2, evW_1, evE_14, evE_23, evE_1, evE_2, evE_12, evE_13, evA_1, evA_2, f1, f2, pe, List.getElem?_cons_succ, List.getElem?_cons_zero, R.nox_ok, R.bind_ok, kt, newD_t, newL_t, R.thn_ok, List.length_cons, List.length_nil, List.length_append, Nat.zero_add, Nat.reduceAdd, if_true, setAll, List.zip_cons_cons, List.zip_nil_right, List.foldl_cons, List.foldl_nil, List.set_cons_succ, List.set_cons_zero, RS.thn_nx, e2, evS_10, f4, T__law_parting_0, evS_6, RS.thn_rt, fin_rt, Nat.lt_irrefl, if_false, optC]
    simp [f3]
end K31
set_option maxHeartbeats 4000000
namespace K31
open PySem L2 Sim
/-! ### the program's walk through pairs, level by level -/
def kq (F : PTab) : List (Sim.D × Sim.D) := kvsOf PrD (fun _ : List Dd => PyData.bool true) F
def rws (F : PTab) : List Sim.D := F.map rowD
theorem rws_len (F : PTab) : (rws F).length = F.length := by simp [rws]
theorem rws_snoc (F : PTab) (b : Nat) (hb : b ≤ F.length) (p : Pr × List Dd) : rws ((F ++ [p]).drop b) = rws (F.drop b) ++ [rowD p] := by
  rw [List.drop_append_of_le_length hb]
  simp [rws]
def PE_ (h h' : Hs) (q : Pr) (c : List Dd) (m Rm : MH) (x2 x4 x8 x11 x12 : Option W) : Sim.Env := [some (.d h.D), some (.d h'.D), x2, some (.r m.length), x4, some (.r (m.length + 1 + Rm.length)), some (.d (PrD q)), some (.d (Cs.D c)), x8, some (.d (.list ((deeds h q.1).map Dd.D))), some (.d (.list ((deeds h' q.2).map Dd.D))), x11, x12]
theorem pp_go (k : Nat) {h h' : Hs} (g : h.ok) (g' : h'.ok) {q : Pr} (gq : q.1.ok h ∧ q.2.ok h') {d : Dd} (e : odd h h' q d = false) (F : PTab) (c : List Dd) (b : Nat) (hb : b ≤ F.length) (hF : F.length ≤ 40000) (hc : c.length ≤ 40000) (x2 x4 x11 x12 : Option W) (m Rm : MH) :
    ∃ x11' x12', evSs (R (k + 3)) G XX L_parted_2 (PE_ h h' q c m Rm x2 x4 (some (.d d.D)) x11 x12) (hp (kq F) m (Rm ++ [.lst (rws (F.drop b))])) =
      .nx (PE_ h h' q c m Rm x2 x4 (some (.d d.D)) x11' x12') (hp (kq (ex1 c F (d, stp h h' q d))) m (Rm ++ [.lst (rws ((ex1 c F (d, stp h h' q d)).drop b))])) := by
  obtain ⟨m1, m2, we⟩ := odd_false e
  refine ⟨some (.d (Rs.D (Sim.step h q.1 d))), some (.d (Rs.D (Sim.step h' q.2 d))), ?_⟩
  have s1 := fun m => step_D k h q.1 gq.1 d (fun i pl fg e => (mem_deeds g m1 i pl fg e).1) m
  have s2 := fun m => step_D k h' q.2 gq.2 d (fun i pl fg e => (mem_deeds g' m2 i pl fg e).1) m
  have n1 := fun m => encDd.ninl (m := m) (by omega) d (deeds h q.1)
  have n2 := fun m => encDd.ninl (m := m) (by omega) d (deeds h' q.2)
  have w1 := fun m => show cmpW .ne (.d (Wds.D (Sim.step h q.1 d).2)) (.d (Wds.D (Sim.step h' q.2 d).2)) m = .ok false m by
    rw [cne_wds (wds_ok h q.1 d) (wds_ok h' q.2 d), we]; simp
  have ni := keyPr.cnin (V := fun _ : List Dd => PyData.bool true) (hp_rd (kvs := kq F) (m := m) (R := Rm ++ [.lst (rws (F.drop b))])) (stp h h' q d)
  have e0 : ∀ (x y : Sim.D), atI [x, y] 0 = some x := ix2_0
  have e1 : ∀ (x y : Sim.D), atI [x, y] 1 = some y := ix2_1
  have z1 : c.length + 1 ≤ sizeLine := szp (by omega)
  have z2 : F.length < sizeLine := by have := szp (n := F.length + 1) (by omega); omega
  have z3 : (rws (F.drop b)).length < sizeLine := by rw [rws_len, List.length_drop]; omega
  have ni' : cmpW .nin (.d (.tuple [(Sim.step h q.1 d).1.D, (Sim.step h' q.2 d).1.D])) (.r m.length) (hp (kq F) m (Rm ++ [.lst (rws (F.drop b))])) = .ok (!hasK F (stp h h' q d)) (hp (kq F) m (Rm ++ [.lst (rws (F.drop b))])) := ni
  cases hk : hasK F (stp h h' q d) with
  | true =>
    have ee : ex1 c F (d, stp h h' q d) = F := by simp [ex1, hk]
    rw [hk] at ni'
    rw [ee]
    simp [L_parted_2, PE_, PrD, s1, s2, n1, n2, m1, m2, Rs.D, w1, e0, e1, ni', setAll]
  | false =>
    have ee : ex1 c F (d, stp h h' q d) = F ++ [(stp h h' q d, c ++ [d])] := by simp [ex1, hk]
    have sb := keyPr.sub (V := fun _ : List Dd => PyData.bool true) (F := F) (m := hp (kq F) m (Rm ++ [.lst (rws (F.drop b))])) (p := m.length) hp_dct z2 (stp h h' q d) (c ++ [d])
    rw [put_new _ hk, hp_set] at sb
    rw [hk] at ni'
    have kd : rws ((F ++ [(stp h h' q d, c ++ [d])]).drop b) = rws (F.drop b) ++ [.tuple [.tuple [(Sim.step h q.1 d).1.D, (Sim.step h' q.2 d).1.D], .tuple (c.map Dd.D ++ [d.D])]] := by rw [rws_snoc _ _ hb]; simp [rowD, PrD, stp, Cs.D]
    have sb' : subW (.r m.length) (.d (.tuple [(Sim.step h q.1 d).1.D, (Sim.step h' q.2 d).1.D])) (.d (.bool true)) (hp (kq F) m (Rm ++ [.lst (rws (F.drop b))])) = .ok () (hp (kq (F ++ [(stp h h' q d, c ++ [d])])) m (Rm ++ [.lst (rws (F.drop b))])) := sb
    rw [ee, kd]
    simp [L_parted_2, PE_, PrD, s1, s2, n1, n2, m1, m2, Rs.D, w1, e0, e1, ni', z1, Cs.D, setAll, sb', hp_pre, hp_app z3]
theorem pp_odd (k : Nat) {h h' : Hs} (g : h.ok) (g' : h'.ok) {q : Pr} (gq : q.1.ok h ∧ q.2.ok h') {d : Dd} (e : odd h h' q d = true) (c : List Dd) (hc : c.length ≤ 40000) (x2 x4 x11 x12 : Option W) (m Rm M : MH) :
    evSs (R (k + 3)) G XX L_parted_2 (PE_ h h' q c m Rm x2 x4 (some (.d d.D)) x11 x12) M = .rt (.d (Cs.D (c ++ [d]))) M := by
  have n1 := fun m => encDd.ninl (m := m) (by omega) d (deeds h q.1)
  have n2 := fun m => encDd.ninl (m := m) (by omega) d (deeds h' q.2)
  have e0 : ∀ (x y : Sim.D), atI [x, y] 0 = some x := ix2_0
  have e1 : ∀ (x y : Sim.D), atI [x, y] 1 = some y := ix2_1
  have z1 : c.length + 1 ≤ sizeLine := szp (by omega)
  by_cases m1 : d ∈ deeds h q.1
  · by_cases m2 : d ∈ deeds h' q.2
    · have we : (Sim.step h q.1 d).2 ≠ (Sim.step h' q.2 d).2 := by simpa [odd, m1, m2] using e
      have s1 := fun m => step_D k h q.1 gq.1 d (fun i pl fg e => (mem_deeds g m1 i pl fg e).1) m
      have s2 := fun m => step_D k h' q.2 gq.2 d (fun i pl fg e => (mem_deeds g' m2 i pl fg e).1) m
      have w1 := fun m => show cmpW .ne (.d (Wds.D (Sim.step h q.1 d).2)) (.d (Wds.D (Sim.step h' q.2 d).2)) m = .ok true m by
        rw [cne_wds (wds_ok h q.1 d) (wds_ok h' q.2 d)]; simp [we]
      simp [L_parted_2, PE_, PrD, s1, s2, n1, n2, m1, m2, Rs.D, w1, e0, e1, z1, Cs.D, setAll]
    · simp [L_parted_2, PE_, PrD, n1, n2, m1, m2, z1, Cs.D]
  · simp [L_parted_2, PE_, PrD, n1, m1, z1, Cs.D]
def PE0 (h h' : Hs) (m Rm : MH) (x2 x4 x6 x7 x8 x9 x10 x11 x12 : Option W) : Sim.Env := [some (.d h.D), some (.d h'.D), x2, some (.r m.length), x4, some (.r (m.length + 1 + Rm.length)), x6, x7, x8, x9, x10, x11, x12]
theorem pp_row (k : Nat) {h h' : Hs} (g : h.ok) (g' : h'.ok) (F : PTab) (i : Nat) (iv : Inv0 (nbp h h') (begin_ h, begin_ h') i F) (q : Pr) (c : List Dd) (hs : F[i]? = some (q, c)) (b : Nat) (hb : b ≤ F.length) (x2 x4 x8 x9 x10 x11 x12 : Option W) (m Rm : MH) :
    (∃ d m', (bth h h' q).find? (odd h h' q) = some d ∧ m'.take m.length = m ∧ evSs (R (k + 3)) G XX L_parted_1 (PE0 h h' m Rm x2 x4 (some (.d (PrD q))) (some (.d (Cs.D c))) x8 x9 x10 x11 x12) (hp (kq F) m (Rm ++ [.lst (rws (F.drop b))])) = .rt (.d (Cs.D (c ++ [d]))) m') ∨
    ((bth h h' q).find? (odd h h' q) = none ∧ ∃ x8' x9' x10' x11' x12', evSs (R (k + 3)) G XX L_parted_1 (PE0 h h' m Rm x2 x4 (some (.d (PrD q))) (some (.d (Cs.D c))) x8 x9 x10 x11 x12) (hp (kq F) m (Rm ++ [.lst (rws (F.drop b))])) =
      .nx (PE0 h h' m Rm x2 x4 (some (.d (PrD q))) (some (.d (Cs.D c))) x8' x9' x10' x11' x12') (hp (kq (bst (nbp h h') i F)) m (Rm ++ [.lst (rws ((bst (nbp h h') i F).drop b))]))) := by
  have gq := pr_ok g g' (iv.path _ (List.mem_of_getElem? hs))
  have d1 := fun m => deeds_of_D k h g q.1 m
  have d2 := fun m => deeds_of_D k h' g' q.2 m
  have e0 : ∀ (x y : Sim.D), atI [x, y] 0 = some x := ix2_0
  have e1 : ∀ (x y : Sim.D), atI [x, y] 1 = some y := ix2_1
  have ss := fun m => sset_bth g g' q m
  rw [List.map_append] at ss
  have zz : (deeds h q.1).length + (deeds h' q.2).length ≤ sizeLine := by
    have := (bth_len g g' q).1
    rw [List.length_append] at this
    exact sz (by omega)
  rcases forV_stop (asg := asgTg [8] false) (body := evSs (R (k + 3)) G XX L_parted_2) (f := Dd.D) (nxt := fun F d => ex1 c F (d, stp h h' q d)) (od := odd h h' q) (V := fun d => .d (Cs.D (c ++ [d]))) (Q := fun m' => m'.take m.length = m)
    (Pe := fun F e m' => Inv0 (nbp h h') (begin_ h, begin_ h') i F ∧ F[i]? = some (q, c) ∧ b ≤ F.length ∧ (∃ x8 x11 x12, e = PE_ h h' q c m Rm x2 x4 x8 x11 x12) ∧ m' = hp (kq F) m (Rm ++ [.lst (rws (F.drop b))]))
    (bth h h' q) F (PE_ h h' q c m Rm x2 x4 x8 x11 x12) (hp (kq F) m (Rm ++ [.lst (rws (F.drop b))]))
    (fun d hd ho F e m' ⟨iv, hs, hb, ⟨x8, x11, x12, he⟩, hm⟩ => by
      subst he; subst hm
      obtain ⟨iv2, hs2, _⟩ := iv.row hs (mem_nbp hd ho)
      have l1 := ptab_len g g' iv
      have l2 : c.length ≤ i := iv.ix i _ hs
      have l3 := (List.getElem?_eq_some_iff.mp hs).1
      obtain ⟨x11', x12', ee⟩ := pp_go k g g' gq ho F c b hb (by omega) (by omega) x2 x4 x11 x12 m Rm
      obtain ⟨G', eG⟩ := ex1_pre c F (d, stp h h' q d)
      exact ⟨_, _, _, rfl, ee, iv2, hs2, by rw [eG, List.length_append]; omega, ⟨_, _, _, rfl⟩, rfl⟩)
    (fun d hd ho F e m' ⟨iv, hs, hb, ⟨x8, x11, x12, he⟩, hm⟩ => by
      subst he; subst hm
      have l1 := ptab_len g g' iv
      have l2 : c.length ≤ i := iv.ix i _ hs
      have l3 := (List.getElem?_eq_some_iff.mp hs).1
      exact ⟨_, _, rfl, pp_odd k g g' gq ho c (by omega) x2 x4 x11 x12 m Rm _, hp_take⟩)
    ⟨iv, hs, hb, ⟨_, _, _, rfl⟩, rfl⟩ with ⟨d, m', f1, f2, f3⟩ | ⟨f1, e', m', f2, iv', hs', hb', ⟨x8', x11', x12', rfl⟩, rfl⟩
  · refine .inl ⟨d, m', f1, f3, ?_⟩
    simp only [PE_] at f2
    simp [L_parted_1, PE0, d1, d2, e0, e1, ss, zz, setAll, PrD] at f2 ⊢
    simp [f2]
  · refine .inr ⟨f1, x8', some (.d (.list ((deeds h q.1).map Dd.D))), some (.d (.list ((deeds h' q.2).map Dd.D))), x11', x12', ?_⟩
    rw [bst_pair hs f1]
    simp only [PE_] at f2
    simp [L_parted_1, PE0, d1, d2, e0, e1, ss, zz, setAll, PrD] at f2 ⊢
    simp [f2]
end K31
set_option maxHeartbeats 4000000
namespace K31
open PySem L2 Sim
def Fine (h h' : Hs) (i : Nat) : Prop := ∃ q c, (pit h h' i)[i]? = some (q, c) ∧ (bth h h' q).find? (odd h h' q) = none
def PRet (h h' : Hs) (m : MH) (w : W) (m' : MH) : Prop := ∃ r, Ends h h' r ∧ r ≠ none ∧ w = .d (optC r) ∧ m'.take m.length = m
def PTurn (h h' : Hs) (a : Nat) (x2 x4 : Option W) (m Rm : MH) (j : Nat) (e : Sim.Env) (m' : MH) : Prop :=
  Inv0 (nbp h h') (begin_ h, begin_ h') (a + j) (pit h h' (a + j)) ∧ (pit h h' a).length ≤ (pit h h' (a + j)).length ∧ (∀ i, i < a + j → Fine h h' i) ∧ (∃ x6 x7 x8 x9 x10 x11 x12, e = PE0 h h' m Rm x2 x4 x6 x7 x8 x9 x10 x11 x12) ∧ m' = hp (kq (pit h h' (a + j))) m (Rm ++ [.lst (rws ((pit h h' (a + j)).drop (pit h h' a).length))])
theorem pit_succ (h h' : Hs) (i : Nat) : pit h h' (i + 1) = bst (nbp h h') i (pit h h' i) := by
  unfold pit
  rw [itr_succ, Nat.zero_add]
theorem pit_add (h h' : Hs) (a j : Nat) : ∃ G', pit h h' (a + j) = pit h h' a ++ G' := by
  unfold pit
  rw [itr_add]
  exact itr_pre _ _ _ _
theorem pturn_step (k : Nat) {h h' : Hs} (g : h.ok) (g' : h'.ok) (a : Nat) (x2 x4 : Option W) (m Rm : MH) (j : Nat) (d : Sim.D) (e : Sim.Env) (m' : MH) (hd : (rws ((pit h h' a).drop a))[j]? = some d) (ht : PTurn h h' a x2 x4 m Rm j e m') :
    ∃ e1, asgTg [6, 7] true d e = some e1 ∧ ((∃ e2 m2, evSs (R (k + 3)) G XX L_parted_1 e1 m' = .nx e2 m2 ∧ PTurn h h' a x2 x4 m Rm (j + 1) e2 m2) ∨ ∃ w m2, evSs (R (k + 3)) G XX L_parted_1 e1 m' = .rt w m2 ∧ PRet h h' m w m2) := by
  obtain ⟨iv, hb, hall, ⟨x6, x7, x8, x9, x10, x11, x12, rfl⟩, rfl⟩ := ht
  unfold rws at hd
  rw [List.getElem?_map, List.getElem?_drop] at hd
  cases hp : (pit h h' a)[a + j]? with
  | none => rw [hp] at hd; cases hd
  | some p =>
    rw [hp] at hd
    cases hd
    obtain ⟨q, c⟩ := p
    obtain ⟨G', eG⟩ := pit_add h h' a j
    have hs : (pit h h' (a + j))[a + j]? = some (q, c) := by rw [eG, List.getElem?_append_left (List.getElem?_eq_some_iff.mp hp).1, hp]
    refine ⟨PE0 h h' m Rm x2 x4 (some (.d (PrD q))) (some (.d (Cs.D c))) x8 x9 x10 x11 x12, by simp [asgTg, PE0, rowD, setAll], ?_⟩
    rcases pp_row k g g' (pit h h' (a + j)) (a + j) iv q c hs (pit h h' a).length hb x2 x4 x8 x9 x10 x11 x12 m Rm with ⟨d, m', f1, f2, f3⟩ | ⟨f1, x8', x9', x10', x11', x12', f2⟩
    · exact .inr ⟨_, _, f3, some (c ++ [d]), ⟨a + j, hall, .inr ⟨q, c, d, hs, f1, rfl⟩⟩, by simp, rfl, f2⟩
    · refine .inl ⟨_, _, f2, ?_⟩
      rw [← pit_succ]
      refine ⟨?_, ?_, fun i hi => ?_, ⟨_, _, _, _, _, _, _, rfl⟩, rfl⟩
      · rw [← Nat.add_assoc, pit_succ]; exact iv.step (List.getElem?_eq_some_iff.mp hs).1
      · rw [← Nat.add_assoc, pit_succ]; exact Nat.le_trans hb (pit_ge h h' _ _)
      · by_cases e : i < a + j
        · exact hall i e
        · have : i = a + j := by omega
          subst this
          exact ⟨q, c, hs, f1⟩
theorem rws_test {w : W} {m Rm : MH} {F : PTab} (h : Line w m Rm (rws F)) (kvs : List (Sim.D × Sim.D)) : cmpW .ne w (.d (.list [])) (hp kvs m Rm) = .ok (!decide (F = [])) (hp kvs m Rm) := by
  rw [cmpW_rd (x' := .d (.list (rws F))) (by rw [h.rd]; rfl)]
  have := encRow.list.cne (m := hp kvs m Rm) (by omega) F []
  rw [List.map_nil] at this
  rw [rws, this]
theorem pp_level (k : Nat) {h h' : Hs} (g : h.ok) (g' : h'.ok) (a : Nat) (iv : Inv0 (nbp h h') (begin_ h, begin_ h') a (pit h h' a)) (ha : a ≤ (pit h h' a).length) (hall : ∀ i, i < a → Fine h h' i) (w : W) (x2 x5 x6 x7 x8 x9 x10 x11 x12 : Option W) (m Rm : MH) (hw : Line w m Rm (rws ((pit h h' a).drop a))) :
    (∃ v m2, evSs (R (k + 3)) G XX L_parted_0 [some (.d h.D), some (.d h'.D), x2, some (.r m.length), some w, x5, x6, x7, x8, x9, x10, x11, x12] (hp (kq (pit h h' a)) m Rm) = .rt v m2 ∧ PRet h h' m v m2) ∨
    ∃ x6' x7' x8' x9' x10' x11' x12' Rm' w', evSs (R (k + 3)) G XX L_parted_0 [some (.d h.D), some (.d h'.D), x2, some (.r m.length), some w, x5, x6, x7, x8, x9, x10, x11, x12] (hp (kq (pit h h' a)) m Rm) =
        .nx [some (.d h.D), some (.d h'.D), x2, some (.r m.length), some w', some w', x6', x7', x8', x9', x10', x11', x12'] (hp (kq (pit h h' (pit h h' a).length)) m Rm') ∧
      Inv0 (nbp h h') (begin_ h, begin_ h') (pit h h' a).length (pit h h' (pit h h' a).length) ∧ (pit h h' a).length ≤ (pit h h' (pit h h' a).length).length ∧ (∀ i, i < (pit h h' a).length → Fine h h' i) ∧ Line w' m Rm' (rws ((pit h h' (pit h h' a).length).drop (pit h h' a).length)) := by
  have hlen : a + (rws ((pit h h' a).drop a)).length = (pit h h' a).length := by rw [rws_len, List.length_drop]; omega
  have new : (hp (kq (pit h h' a)) m Rm).length = m.length + 1 + Rm.length := hp_len
  have nl : hp (kq (pit h h' a)) m Rm ++ [.lst []] = hp (kq (pit h h' a)) m (Rm ++ [.lst []]) := hp_new
  have t0 : PTurn h h' a x2 (some w) m Rm 0 (PE0 h h' m Rm x2 (some w) x6 x7 x8 x9 x10 x11 x12) (hp (kq (pit h h' a)) m (Rm ++ [.lst []])) :=
    ⟨iv, Nat.le_refl _, hall, ⟨_, _, _, _, _, _, _, rfl⟩, by rw [Nat.add_zero, List.drop_length]; rfl⟩
  have fin : ∀ e' m', PTurn h h' a x2 (some w) m Rm (rws ((pit h h' a).drop a)).length e' m' → ∃ x6' x7' x8' x9' x10' x11' x12', e' = PE0 h h' m Rm x2 (some w) x6' x7' x8' x9' x10' x11' x12' ∧
      m' = hp (kq (pit h h' (pit h h' a).length)) m (Rm ++ [.lst (rws ((pit h h' (pit h h' a).length).drop (pit h h' a).length))]) ∧ Inv0 (nbp h h') (begin_ h, begin_ h') (pit h h' a).length (pit h h' (pit h h' a).length) ∧ (pit h h' a).length ≤ (pit h h' (pit h h' a).length).length ∧ (∀ i, i < (pit h h' a).length → Fine h h' i) := by
    rintro e' m' ⟨iv', hb, hall', ⟨x6, x7, x8, x9, x10, x11, x12, rfl⟩, rfl⟩
    rw [hlen] at iv' hb hall' ⊢
    exact ⟨_, _, _, _, _, _, _, rfl, rfl, iv', hb, hall'⟩
  have st := pturn_step k g g' a x2 (some w) m Rm
  generalize eF : pit h h' a = F at *
  rcases hw with rfl | ⟨p, rfl, ep⟩
  · rcases forV_walkR (asg := asgTg [6, 7] true) (body := evSs (R (k + 3)) G XX L_parted_1) (ds := rws (F.drop a)) (P := PTurn h h' a x2 (some (.d (.list (rws (F.drop a))))) m Rm) (Z := PRet h h' m) st t0 with ⟨e', m', e1, tt⟩ | ⟨v, m2, e1, z⟩
    · obtain ⟨x6', x7', x8', x9', x10', x11', x12', rfl, rfl, iv', hb, hall'⟩ := fin e' m' tt
      refine .inr ⟨x6', x7', x8', x9', x10', x11', x12', Rm ++ [.lst (rws ((pit h h' F.length).drop F.length))], .r (m.length + 1 + Rm.length), ?_, iv', hb, hall', .inr ⟨Rm.length, rfl, by simp⟩⟩
      simp only [PE0] at e1
      simp [L_parted_0, T_parted_1, new, nl, e1]
    · refine .inl ⟨v, m2, ?_, z⟩
      simp only [PE0] at e1
      simp [L_parted_0, T_parted_1, new, nl, e1]
  · have ep' : (Rm ++ [.lst []])[p]? = some (.lst (rws (F.drop a))) := by rw [List.getElem?_append_left (List.getElem?_eq_some_iff.mp ep).1]; exact ep
    have at1 : (hp (kq F) m (Rm ++ [.lst []]))[m.length + 1 + p]? = some (.lst (rws (F.drop a))) := by rw [hp_at]; exact ep'
    have sr : srcOf (.r (m.length + 1 + p)) (hp (kq F) m (Rm ++ [.lst []])) = some (.dyn (m.length + 1 + p)) := by simp only [srcOf, at1]
    have le : lenAt (hp (kq F) m (Rm ++ [.lst []])) (m.length + 1 + p) = (rws (F.drop a)).length := lenAt_of at1
    rcases forP_walkR (asg := asgTg [6, 7] true) (body := evSs (R (k + 3)) G XX L_parted_1) (ds := rws (F.drop a)) (p := m.length + 1 + p) (P := PTurn h h' a x2 (some (.r (m.length + 1 + p))) m Rm) (Z := PRet h h' m)
      (fun j e m' ⟨_, _, _, _, hm⟩ => by rw [hm, hp_at, List.getElem?_append_left (List.getElem?_eq_some_iff.mp ep).1]; exact ep) st t0 with ⟨e', m', e1, tt⟩ | ⟨v, m2, e1, z⟩
    · obtain ⟨x6', x7', x8', x9', x10', x11', x12', rfl, rfl, iv', hb, hall'⟩ := fin e' m' tt
      refine .inr ⟨x6', x7', x8', x9', x10', x11', x12', Rm ++ [.lst (rws ((pit h h' F.length).drop F.length))], .r (m.length + 1 + Rm.length), ?_, iv', hb, hall', .inr ⟨Rm.length, rfl, by simp⟩⟩
      simp only [PE0] at e1
      simp [L_parted_0, T_parted_1, new, nl, sr, le, e1]
    · refine .inl ⟨v, m2, ?_, z⟩
      simp only [PE0] at e1
      simp [L_parted_0, T_parted_1, new, nl, sr, le, e1]
theorem parted_D (k : Nat) {h h' : Hs} (g : h.ok) (g' : h'.ok) (m : MH) : ∃ r, Ends h h' r ∧ R (k + 4) "parted" [.d h.D, .d h'.D] m = .ok (.d (optC r)) m := by
  have wh : ∀ x2 x5 x6 x7 x8 x9 x10 x11 x12, PEnd h h' m (whileF (evT (R (k + 3)) G (.cmp .ne (.var 4) (.lst false .nil))) (evSs (R (k + 3)) G XX L_parted_0) whileMost [some (.d h.D), some (.d h'.D), x2, some (.r m.length), some (.d (.list (rws ((pit h h' 0).drop 0)))), x5, x6, x7, x8, x9, x10, x11, x12] (hp (kq (pit h h' 0)) m [])) := by
    intro x2 x5 x6 x7 x8 x9 x10 x11 x12
    refine whileF_run (Z := PEnd h h' m)
      (P := fun n e m' => ∃ (a : Nat) (Rm : MH) (w : W) (x5 x6 x7 x8 x9 x10 x11 x12 : Option W), n = 40000 - a ∧ Inv0 (nbp h h') (begin_ h, begin_ h') a (pit h h' a) ∧ a ≤ (pit h h' a).length ∧ (∀ j, j < a → Fine h h' j) ∧ Line w m Rm (rws ((pit h h' a).drop a)) ∧
        e = [some (.d h.D), some (.d h'.D), x2, some (.r m.length), some w, x5, x6, x7, x8, x9, x10, x11, x12] ∧ m' = hp (kq (pit h h' a)) m Rm)
      ?_ _ 40000 _ _ ⟨0, _, _, _, _, _, _, _, _, _, _, rfl, Inv0.start _, Nat.zero_le _, (fun j hj => absurd hj (Nat.not_lt_zero j)), .inl rfl, rfl, rfl⟩ (by rw [while_most]; omega)
    rintro n e m' ⟨a, Rm, w, x5, x6, x7, x8, x9, x10, x11, x12, rfl, iv, ha, hall, hw, rfl, rfl⟩
    have tst : evT (R (k + 3)) G (.cmp .ne (.var 4) (.lst false .nil)) [some (.d h.D), some (.d h'.D), x2, some (.r m.length), some w, x5, x6, x7, x8, x9, x10, x11, x12] (hp (kq (pit h h' a)) m Rm) = .ok (!decide ((pit h h' a).drop a = [])) (hp (kq (pit h h' a)) m Rm) := by
      simp [rws_test hw]
    rw [tst]
    by_cases hd : (pit h h' a).drop a = []
    · have hl : (pit h h' a).length = a := by have := List.drop_eq_nil_iff.mp hd; omega
      exact .inl ⟨hp (kq (pit h h' a)) m Rm, by simp [hd], none, ⟨a, hall, .inl ⟨List.getElem?_eq_none (by omega), rfl⟩⟩, .inl ⟨rfl, _, _, hp_take, rfl⟩⟩
    · have hl : a < (pit h h' a).length := Nat.lt_of_not_le fun z => hd (List.drop_eq_nil_iff.mpr z)
      have l1 := ptab_len g g' iv
      refine .inr ⟨hp (kq (pit h h' a)) m Rm, by simp [hd], ?_⟩
      rcases pp_level k g g' a iv ha hall w x2 x5 x6 x7 x8 x9 x10 x11 x12 m Rm hw with ⟨v, m2, e1, r, z1, z2, rfl, z4⟩ | ⟨x6', x7', x8', x9', x10', x11', x12', Rm', w', e1, iv', hb, hall', hw'⟩
      · rw [e1]
        exact ⟨r, z1, .inr ⟨m2, z4, z2, rfl⟩⟩
      · rw [e1]
        exact ⟨40000 - (pit h h' a).length, by omega, (pit h h' a).length, Rm', w', _, _, _, _, _, _, _, _, rfl, iv', hb, hall', hw', rfl, rfl⟩
  have f1 : ∀ m, R (k + 3) "begun" [.d h.D] m = .ok (.d (begin_ h).D) m := fun m => begun_D (k + 2) h m
  have f2 : ∀ m, R (k + 3) "begun" [.d h'.D] m = .ok (.d (begin_ h').D) m := fun m => begun_D (k + 2) h' m
  have z0 : (0 : Nat) < sizeLine := by rw [sizeLine_eq]; omega
  have sb := keyPr.sub (V := fun _ : List Dd => PyData.bool true) (F := []) (m := hp [] m []) (p := m.length) hp_dct z0 (begin_ h, begin_ h') []
  have e0 : m ++ [.dct []] = hp [] m [] := rfl
  have pe : PyData.tuple [(begin_ h).D, (begin_ h').D] = PrD (begin_ h, begin_ h') := rfl
  have sb' : subW (.r m.length) (.d (PrD (begin_ h, begin_ h'))) (.d (.bool true)) (hp [] m []) = .ok () (hp (kq (pit h h' 0)) m []) := by
    rw [show subW (.r m.length) (.d (PrD (begin_ h, begin_ h'))) (.d (.bool true)) (hp [] m []) = _ from sb, hp_set]
    rfl
  have rw0 : PyData.list [.tuple [PrD (begin_ h, begin_ h'), .tuple []]] = .list (rws ((pit h h' 0).drop 0)) := rfl
  have st : startE n_parted.length [W.d h.D, W.d h'.D] = [some (.d h.D), some (.d h'.D), none, none, none, none, none, none, none, none, none, none, none] := rfl
  obtain ⟨r, er, hr⟩ := wh (some (.d (PrD (begin_ h, begin_ h')))) none none none none none none none none
  refine ⟨r, er, ?_⟩
  rw [r_parted]
  rcases hr with ⟨rfl, e', m', f3, f4⟩ | ⟨m', f3, _, f4⟩
  all_goals
    simp only [callFn, show f_parted.np = 2 from rfl, show f_parted.N = n_parted from rfl, st, show f_parted.body = b_parted from rfl, show f_parted.keep = false from rfl, b_parted, evSs_2, evSs_1, evS_1, evS_4, evW_2, evW_1, evE_14, evE_22, evE_1, evE_2, evE_12, evE_13, evA_1, evA_2, f1, f2, pe, List.getElem?_cons_succ, List.getElem?_cons_zero, R.nox_ok, R.bind_ok, newD_t, newL_f, e0, sb', rw0, R.thn_ok, List.length_cons, List.length_nil, List.length_append, Nat.zero_add, Nat.reduceAdd, if_true, List.set_cons_succ, List.set_cons_zero, RS.thn_nx, evS_10, f4, T_parted_0, evS_6, RS.thn_rt, fin_rt, Nat.lt_irrefl, if_false, optC]
    simp [f3]
end K31
set_option maxHeartbeats 4000000
namespace K31
open PySem L2 Sim
/-! ### alike, parting and their errors -/
theorem xHH : XX "InvalidHouse" "InvalidHouse" = true := by simp [XX, XL, ofString_inj]
theorem xUH : XX "Unlike" "InvalidHouse" = false := by simp [XX, XL, ofString_inj]
theorem xUU : XX "Unlike" "Unlike" = true := by simp [XX, XL, ofString_inj]
theorem need_both_ok (k : Nat) {h h' : Hs} (g : h.ok) (g' : h'.ok) (e1 : h.p = h'.p) (e2 : h.pe.length = h'.pe.length) (m : MH) : R (k + 5) "need_both" [.d h.D, .d h'.D] m = .ok (.d .none) m := by
  rw [r_need_both]
  replace e1 := eq_true e1
  have e3 : ((h.pe.length : Int) = h'.pe.length) = True := eq_true (by omega)
  have n1 := fun m => need_house_D k g m
  have n2 := fun m => need_house_D k g' m
  simp only [Hs.D] at n1 n2 ⊢
  simp [callFn, f_need_both, n_need_both, b_need_both, startE, n1, n2, ix5_0, ix5_4, e1, e3]
theorem need_both_un (k : Nat) {h h' : Hs} (g : h.ok) (g' : h'.ok) (e : ¬ (h.p = h'.p ∧ h.pe.length = h'.pe.length)) (m : MH) : R (k + 5) "need_both" [.d h.D, .d h'.D] m = .exc "Unlike" [] m := by
  rw [r_need_both]
  have n1 := fun m => need_house_D k g m
  have n2 := fun m => need_house_D k g' m
  simp only [Hs.D] at n1 n2 ⊢
  by_cases e1 : h.p = h'.p
  · have e2 : ((h.pe.length : Int) = h'.pe.length) = False := eq_false fun z => e ⟨e1, by omega⟩
    replace e1 := eq_true e1
    simp [callFn, f_need_both, n_need_both, b_need_both, startE, n1, n2, ix5_0, ix5_4, e1, e2]
  · simp [callFn, f_need_both, n_need_both, b_need_both, startE, n1, n2, ix5_0, ix5_4, e1]
theorem need_both_b1 (k : Nat) {v u : Sim.D} {n : Nat} (hv : fit 50 n v = true) (b : house v = false) (m : MH) : R (k + 5) "need_both" [.d v, .d u] m = .exc "InvalidHouse" [] m := by
  rw [r_need_both]
  have n1 := fun m => need_house_bad k hv b m
  simp [callFn, f_need_both, n_need_both, b_need_both, startE, n1]
theorem need_both_b2 (k : Nat) {h : Hs} (g : h.ok) {v : Sim.D} {n : Nat} (hv : fit 50 n v = true) (b : house v = false) (m : MH) : R (k + 5) "need_both" [.d h.D, .d v] m = .exc "InvalidHouse" [] m := by
  rw [r_need_both]
  have n1 := fun m => need_house_D k g m
  have n2 := fun m => need_house_bad k hv b m
  simp [callFn, f_need_both, n_need_both, b_need_both, startE, n1, n2]
theorem opt_is (r : Option (List Dd)) (m : MH) : cmpW .is_ (.d (optC r)) (.d .none) m = .ok (decide (r = none)) m := by
  cases r <;> rfl
theorem alike_D (k : Nat) {h h' : Hs} (g : h.ok) (g' : h'.ok) (e1 : h.p = h'.p) (e2 : h.pe.length = h'.pe.length) {r : Option (List Dd)} (er : Ends h h' r) (m : MH) : R (k + 6) "alike" [.d h.D, .d h'.D] m = .ok (.d (.bool (decide (r = none)))) m := by
  rw [r_alike]
  have nb := fun m => need_both_ok k g g' e1 e2 m
  obtain ⟨r', er', ep⟩ := parted_D (k + 1) g g' m
  have := er.unique er'
  subst this
  have ep' : R (k + 5) "parted" [.d h.D, .d h'.D] m = .ok (.d (optC r)) m := ep
  have oi := fun m => opt_is r m
  simp [callFn, f_alike, n_alike, b_alike, startE, nb, ep', oi]
theorem parting_D (k : Nat) {h h' : Hs} (g : h.ok) (g' : h'.ok) (e1 : h.p = h'.p) (e2 : h.pe.length = h'.pe.length) {r : Option (List Dd)} (er : Ends h h' r) (m : MH) : R (k + 6) "parting" [.d h.D, .d h'.D] m = .ok (.d (optC r)) m := by
  rw [r_parting]
  have nb := fun m => need_both_ok k g g' e1 e2 m
  obtain ⟨r', er', ep⟩ := parted_D (k + 1) g g' m
  have := er.unique er'
  subst this
  have ep' : R (k + 5) "parted" [.d h.D, .d h'.D] m = .ok (.d (optC r)) m := ep
  simp [callFn, f_parting, n_parting, b_parting, startE, nb, ep']
theorem alike_exc (k : Nat) {v u : Sim.D} {x : Str} {m : MH} (nb : R (k + 5) "need_both" [.d v, .d u] m = .exc x [] m) : R (k + 6) "alike" [.d v, .d u] m = .exc x [] m := by
  rw [r_alike]
  simp [callFn, f_alike, n_alike, b_alike, startE, nb]
theorem parting_exc (k : Nat) {v u : Sim.D} {x : Str} {m : MH} (nb : R (k + 5) "need_both" [.d v, .d u] m = .exc x [] m) : R (k + 6) "parting" [.d v, .d u] m = .exc x [] m := by
  rw [r_parting]
  simp [callFn, f_parting, n_parting, b_parting, startE, nb]
theorem oc0 (k : Nat) {h h' : Hs} (g : h.ok) (g' : h'.ok) (e1 : h.p = h'.p) (e2 : h.pe.length = h'.pe.length) {r : Option (List Dd)} (er : Ends h h' r) (m : MH) : R (k + 7) "_law_outcome" [.d (.int 0), .d h.D, .d h'.D] m = .ok (.d (.bool (decide (r = none)))) m := by
  rw [r__law_outcome]
  simp [callFn, f__law_outcome, n__law_outcome, b__law_outcome, startE, alike_D k g g' e1 e2 er]
theorem oc1 (k : Nat) {h h' : Hs} (g : h.ok) (g' : h'.ok) (e1 : h.p = h'.p) (e2 : h.pe.length = h'.pe.length) {r : Option (List Dd)} (er : Ends h h' r) (m : MH) : R (k + 7) "_law_outcome" [.d (.int 1), .d h.D, .d h'.D] m = .ok (.d (optC r)) m := by
  rw [r__law_outcome]
  simp [callFn, f__law_outcome, n__law_outcome, b__law_outcome, startE, parting_D k g g' e1 e2 er]
theorem oc_house (k : Nat) (c : Int) {v u : Sim.D} {m : MH} (nb : R (k + 5) "need_both" [.d v, .d u] m = .exc "InvalidHouse" [] m) : R (k + 7) "_law_outcome" [.d (.int c), .d v, .d u] m = .ok (.d (.str "house!")) m := by
  rw [r__law_outcome]
  by_cases hc : c = 0 <;> simp [callFn, f__law_outcome, n__law_outcome, b__law_outcome, startE, hc, alike_exc k nb, parting_exc k nb, evHs, xHH]
theorem oc_unlike (k : Nat) (c : Int) {v u : Sim.D} {m : MH} (nb : R (k + 5) "need_both" [.d v, .d u] m = .exc "Unlike" [] m) : R (k + 7) "_law_outcome" [.d (.int c), .d v, .d u] m = .ok (.d (.str "unlike!")) m := by
  rw [r__law_outcome]
  by_cases hc : c = 0 <;> simp [callFn, f__law_outcome, n__law_outcome, b__law_outcome, startE, hc, alike_exc k nb, parting_exc k nb, evHs, xUH, xUU]
end K31
set_option maxHeartbeats 4000000
namespace K31
open PySem L2 Sim
/-! ### another household, drawn -/
def habL (a : Hab) : List Sim.D := [.str a.lk.S, .str a.pk.S, .str a.fl.S, .bool a.tl, .str a.ky.S, .bool a.fg]
def rowT (n : Nat) : List Sim.D := match n with
  | 0 => wLook
  | 1 => wPark
  | 2 => wFill
  | 3 => bothB
  | 4 => wHook
  | _ => bothB
theorem rep_hab (n : Nat) (hn : n < 6) (a : Hab) (d : Sim.D) (hd : d ∈ rowT n) : ∃ a' : Hab, (habL a).take n ++ d :: (habL a).drop (n + 1) = habL a' := by
  obtain ⟨lk, pk, fl, tl, ky, fg⟩ := a
  match n, hn with
  | 0, _ =>
    simp only [rowT, wLook, List.mem_cons, List.not_mem_nil, or_false] at hd
    rcases hd with rfl | rfl | rfl
    · exact ⟨⟨.home, pk, fl, tl, ky, fg⟩, rfl⟩
    · exact ⟨⟨.note, pk, fl, tl, ky, fg⟩, rfl⟩
    · exact ⟨⟨.walks, pk, fl, tl, ky, fg⟩, rfl⟩
  | 1, _ =>
    simp only [rowT, wPark, List.mem_cons, List.not_mem_nil, or_false] at hd
    rcases hd with rfl | rfl
    · exact ⟨⟨lk, .any, fl, tl, ky, fg⟩, rfl⟩
    · exact ⟨⟨lk, .home, fl, tl, ky, fg⟩, rfl⟩
  | 2, _ =>
    simp only [rowT, wFill, List.mem_cons, List.not_mem_nil, or_false] at hd
    rcases hd with rfl | rfl | rfl
    · exact ⟨⟨lk, pk, .always, tl, ky, fg⟩, rfl⟩
    · exact ⟨⟨lk, pk, .low, tl, ky, fg⟩, rfl⟩
    · exact ⟨⟨lk, pk, .never, tl, ky, fg⟩, rfl⟩
  | 3, _ =>
    simp only [rowT, bothB, List.mem_cons, List.not_mem_nil, or_false] at hd
    rcases hd with rfl | rfl
    · exact ⟨⟨lk, pk, fl, false, ky, fg⟩, rfl⟩
    · exact ⟨⟨lk, pk, fl, true, ky, fg⟩, rfl⟩
  | 4, _ =>
    simp only [rowT, wHook, List.mem_cons, List.not_mem_nil, or_false] at hd
    rcases hd with rfl | rfl | rfl
    · exact ⟨⟨lk, pk, fl, tl, .hook, fg⟩, rfl⟩
    · exact ⟨⟨lk, pk, fl, tl, .keeps, fg⟩, rfl⟩
    · exact ⟨⟨lk, pk, fl, tl, .morning, fg⟩, rfl⟩
  | 5, _ =>
    simp only [rowT, bothB, List.mem_cons, List.not_mem_nil, or_false] at hd
    rcases hd with rfl | rfl
    · exact ⟨⟨lk, pk, fl, tl, ky, false⟩, rfl⟩
    · exact ⟨⟨lk, pk, fl, tl, ky, true⟩, rfl⟩
theorem cut_drop (ds : List Sim.D) (n : Nat) : cutL ds (some (n : Int)) none = ds.drop n := by
  unfold cutL
  rw [HT.sIx_nat, HT.sIx_none]
  by_cases h : n ≤ ds.length
  · rw [Nat.min_eq_left h, List.take_of_length_le (by rw [List.length_drop]; omega)]
  · rw [Nat.min_eq_right (by omega), List.drop_eq_nil_of_le (Nat.le_refl _), List.drop_eq_nil_of_le (by omega)]
    simp
theorem row_at (n : Nat) (hn : n < 6) : atI table (n : Int) = some (.list (rowT n)) := by
  match n, hn with
  | 0, _ => rfl
  | 1, _ => rfl
  | 2, _ => rfl
  | 3, _ => rfl
  | 4, _ => rfl
  | 5, _ => rfl
theorem row_len (n : Nat) : 0 < (rowT n).length ∧ (rowT n).length < 10 := by
  unfold rowT
  split <;> decide
theorem law_other_D (k p : Nat) (h : Hs) (g : h.ok) (m : MH) (hm : Has p m) : ∃ a b h', R (k + 3) "_law_other" [.r p, .d h.D] m = .ok (.d (Hs.D h')) (put p a b m) ∧ h'.ok ∧ h'.p = h.p ∧ h'.pe.length = h.pe.length := by
  have hl := hm.lt
  obtain ⟨a1, b1, n, e1, l, u⟩ := law_pick (k + 1) p 8 m hm (by omega) (by omega)
  have hm1 : Has p (put p a1 b1 m) := put_has hl
  have z4 : 2 + 1 ≤ sizeLine := z100 (by omega)
  have z5 : 2 + 1 + 2 ≤ sizeLine := z100 (by omega)
  have z6 : 1 + 1 ≤ sizeLine := z100 (by omega)
  have z7 : 1 + 1 + 3 ≤ sizeLine := z100 (by omega)
  have z8 : 4 + 1 ≤ sizeLine := z100 (by omega)
  have c1 : ∀ a b c d e : Sim.D, cutL [a, b, c, d, e] none (some 1) = [a] := fun _ _ _ _ _ => rfl
  have c2 : ∀ a b c d e : Sim.D, cutL [a, b, c, d, e] none (some 2) = [a, b] := fun _ _ _ _ _ => rfl
  have c3 : ∀ a b c d e : Sim.D, cutL [a, b, c, d, e] (some 3) none = [d, e] := fun _ _ _ _ _ => rfl
  have c4 : ∀ a b c d e : Sim.D, cutL [a, b, c, d, e] (some 2) none = [c, d, e] := fun _ _ _ _ _ => rfl
  have c5 : ∀ a b c d e : Sim.D, cutL [a, b, c, d, e] none (some 4) = [a, b, c, d] := fun _ _ _ _ _ => rfl
  rw [r__law_other]
  by_cases h6 : n = 6
  · subst h6
    obtain ⟨a2, b2, x, e2, l2, u2⟩ := law_pick (k + 1) p 2 (put p a1 b1 m) hm1 (by omega) (by omega)
    rw [put_put] at e2
    refine ⟨a2, b2, { h with b := decide (x = 0) }, ?_, ⟨g.p1, g.p3, g.t1, g.t3, g.f1, g.f2, g.e1, g.e3⟩, rfl, rfl⟩
    simp [callFn, f__law_other, n__law_other, b__law_other, startE, e1, e2, Hs.D, c2, c3, z4, z5]
  · by_cases h7 : n = 7
    · subst h7
      obtain ⟨a2, b2, x, e2, l2, u2⟩ := law_pick (k + 1) p 3 (put p a1 b1 m) hm1 (by omega) (by omega)
      rw [put_put] at e2
      refine ⟨a2, b2, { h with t := 1 + x }, ?_, ⟨g.p1, g.p3, by show 1 ≤ 1 + x; omega, by show 1 + x ≤ 3; omega, g.f1, g.f2, g.e1, g.e3⟩, rfl, rfl⟩
      simp [callFn, f__law_other, n__law_other, b__law_other, startE, e1, e2, Hs.D, c1, c4, z6, z7]
    · have pe1 := g.e1
      have pe3 := g.e3
      obtain ⟨a2, b2, i, e2, l2, u2⟩ := law_pick (k + 1) p h.pe.length (put p a1 b1 m) hm1 (by omega) (by omega)
      rw [put_put] at e2
      have hn : n = (n.toNat : Int) := by omega
      have hn6 : n.toNat < 6 := by omega
      have hi : i = (i.toNat : Int) := by omega
      have hil : i.toNat < h.pe.length := by omega
      generalize n.toNat = nn at hn hn6
      generalize i.toNat = ii at hi hil
      subst hn; subst hi
      obtain ⟨a3, b3, d, e3, hd⟩ := law_chosen k p (rowT nn) (put p a2 b2 m) (put_has hl) (row_len nn).1 (by have := (row_len nn).2; omega)
      rw [put_put] at e3
      obtain ⟨A, hA⟩ : ∃ A, h.pe[ii]? = some A := ⟨_, List.getElem?_eq_getElem hil⟩
      obtain ⟨A', hA'⟩ := rep_hab nn hn6 A d hd
      have ix := atI_map (f := Hab.D) hA
      have tb := fun m => law_table (k + 1) m
      have rt := row_at nn hn6
      have ct := cut_take (habL A) nn
      have cd : cutL (habL A) (some ((nn : Int) + 1)) none = (habL A).drop (nn + 1) := cut_drop (habL A) (nn + 1)
      have ct2 := cut_take (h.pe.map Hab.D) ii
      have cd2 : cutL (h.pe.map Hab.D) (some ((ii : Int) + 1)) none = (h.pe.map Hab.D).drop (ii + 1) := cut_drop (h.pe.map Hab.D) (ii + 1)
      have l6 : (habL A).length = 6 := rfl
      have n6 : ¬ ((nn : Int) = 6) := h6
      have n7 : ¬ ((nn : Int) = 7) := h7
      have AD : A.D = .tuple (habL A) := rfl
      have s1 : min nn 6 + 1 ≤ sizeLine := z100 (by omega)
      have s2 : min nn 6 + 1 + (5 - nn) ≤ sizeLine := z100 (by omega)
      have s3 : min ii h.pe.length + 1 ≤ sizeLine := z100 (by omega)
      have s4 : min ii h.pe.length + 1 + (h.pe.length - (ii + 1)) ≤ sizeLine := z100 (by omega)
      refine ⟨a3, b3, { h with pe := h.pe.take ii ++ A' :: h.pe.drop (ii + 1) }, ?_, ⟨g.p1, g.p3, g.t1, g.t3, g.f1, g.f2, ?_, ?_⟩, rfl, ?_⟩
      · have fin : (.tuple ((h.pe.map Hab.D).take ii ++ .tuple ((habL A).take nn ++ d :: (habL A).drop (nn + 1)) :: (h.pe.map Hab.D).drop (ii + 1)) : Sim.D) = .tuple ((h.pe.take ii ++ A' :: h.pe.drop (ii + 1)).map Hab.D) := by
          rw [hA']
          simp [Hab.D, habL, List.map_take, List.map_drop]
        simp only [Hs.D, ← fin] 
        simp [callFn, f__law_other, n__law_other, b__law_other, startE, e1, e2, e3, Hs.D, c5, z8, n6, n7, ix5_4, ix, tb, rt, AD, ct, cd, ct2, cd2, l6, s1, s2, s3, s4, List.length_take, List.length_drop]
      · show 1 ≤ (h.pe.take ii ++ A' :: h.pe.drop (ii + 1)).length
        rw [List.length_append, List.length_cons]; omega
      · show (h.pe.take ii ++ A' :: h.pe.drop (ii + 1)).length ≤ 3
        simp; omega
      · show (h.pe.take ii ++ A' :: h.pe.drop (ii + 1)).length = h.pe.length
        simp; omega
end K31
set_option maxHeartbeats 4000000
namespace K31
open PySem L2 Sim
/-! ### the law -/
theorem lay_optC (r : Option (List Dd)) : Lay 64 (optC r) := by
  cases r with
  | none => exact .none _
  | some c => exact (encCs.lay c).mono (by omega)
theorem cmp_loop (k : Nat) {h h' : Hs} (g : h.ok) (g' : h'.ok) (e1 : h.p = h'.p) (e2 : h.pe.length = h'.pe.length) (x0 x1 x2 x3 x5 x7 x8 x9 x10 x11 x12 : Option W) (m : MH) :
    ∃ x12', evSs (R (k + 7)) G XX L_law_1 [x0, x1, x2, x3, some (.d h.D), x5, some (.d h'.D), x7, x8, x9, x10, x11, x12] m = .nx [x0, x1, x2, x3, some (.d h.D), x5, some (.d h'.D), x7, x8, x9, x10, x11, x12'] m := by
  obtain ⟨r, er, ep⟩ := law_parting_D (k + 3) g g' m
  have ep' : R (k + 7) "_law_parting" [.d h.D, .d h'.D] m = .ok (.d (optC r)) m := ep
  have o0 := fun m => oc0 k g g' e1 e2 er m
  have o1 := fun m => oc1 k g g' e1 e2 er m
  have ne := fun m => cmp_ne_self (m := m) (lay_optC r)
  have oi := fun m => opt_is r m
  have ib := fun m => is_bool (k + 6) (decide (r = none)) (decide (r = none)) m
  refine ⟨some (.d (optC r)), ?_⟩
  simp [L_law_1, ep', o0, o1, ne, oi, ib]
def moreH (h : Hs) : Hs := { h with p := h.p % 3 + 1, f := [] }
def fewL : List Hab → List Hab
  | [a] => [a, a]
  | [a, b] => [a, b, a]
  | a :: _ => [a]
  | [] => []
def fewH (h : Hs) : Hs := { h with pe := fewL h.pe }
theorem pe_cases {h : Hs} (g : h.ok) : (∃ a, h.pe = [a]) ∨ (∃ a b, h.pe = [a, b]) ∨ ∃ a b c, h.pe = [a, b, c] := by
  have e1 := g.e1
  have e3 := g.e3
  match hp : h.pe with
  | [] => rw [hp] at e1; simp at e1
  | [a] => exact .inl ⟨a, rfl⟩
  | [a, b] => exact .inr (.inl ⟨a, b, rfl⟩)
  | [a, b, c] => exact .inr (.inr ⟨a, b, c, rfl⟩)
  | a :: b :: c :: d :: l => rw [hp] at e3; simp at e3
theorem more_ok {h : Hs} (g : h.ok) : (moreH h).ok := ⟨by show 1 ≤ h.p % 3 + 1; omega, by show h.p % 3 + 1 ≤ 3; omega, g.t1, g.t3, (fun i hi => nomatch hi), List.Pairwise.nil, g.e1, g.e3⟩
theorem few_ok {h : Hs} (g : h.ok) : (fewH h).ok ∧ ¬ h.pe.length = (fewH h).pe.length := by
  rcases pe_cases g with ⟨a, e⟩ | ⟨a, b, e⟩ | ⟨a, b, c, e⟩
  all_goals
    have e' : (fewH h).pe = fewL h.pe := rfl
    rw [e] at e'
    refine ⟨⟨g.p1, g.p3, g.t1, g.t3, g.f1, g.f2, by rw [e']; simp [fewL], by rw [e']; simp [fewL]⟩, by rw [e', e]; simp [fewL]⟩
theorem call_loop (k : Nat) {h : Hs} (g : h.ok) (c : Int) (x0 x1 x2 x3 x5 x6 x10 x11 x12 : Option W) (m : MH) :
    evSs (R (k + 7)) G XX L_law_2 [x0, x1, x2, x3, some (.d h.D), x5, x6, some (.d (moreH h).D), some (.d (fewH h).D), some (.d (.int c)), x10, x11, x12] m = .nx [x0, x1, x2, x3, some (.d h.D), x5, x6, some (.d (moreH h).D), some (.d (fewH h).D), some (.d (.int c)), x10, x11, x12] m := by
  have p1 := g.p1
  have p3 := g.p3
  have o1 := fun m => oc_unlike k c (need_both_un k g (more_ok g) (fun e => by have : h.p = h.p % 3 + 1 := e.1; omega) m)
  have o2 := fun m => oc_unlike k c (need_both_un k g (few_ok g).1 (fun e => (few_ok g).2 e.2) m)
  have o3 := fun m => oc_house k c (need_both_b1 k (v := .tuple [.int h.p, .int h.t]) (u := (moreH h).D) (n := 3) rfl rfl m)
  have o4 := fun m => oc_house k c (need_both_b2 k g (v := .none) (n := 3) rfl rfl m)
  have cut : cutL [.int h.p, .int h.t, .bool h.b, .tuple (h.f.map .int), .tuple (h.pe.map Hab.D)] none (some 2) = [.int h.p, .int h.t] := rfl
  have sl : ∀ m, slcW false (.d h.D) none (some 2) m = .ok (.d (.tuple [.int h.p, .int h.t])) m := fun m => by simp [slcW, Hs.D, cut]
  simp [L_law_2, o1, o2, o3, o4, sl]
theorem tail_law (k : Nat) {h : Hs} (g : h.ok) (x0 x1 x2 x3 x5 x6 x7 x8 x9 x10 x11 x12 : Option W) (m : MH) :
    ∃ x9', evSs (R (k + 7)) G XX T_law_1 [x0, x1, x2, x3, some (.d h.D), x5, x6, x7, x8, x9, x10, x11, x12] m = .nx [x0, x1, x2, x3, some (.d h.D), x5, x6, some (.d (moreH h).D), some (.d (fewH h).D), x9', x10, x11, x12] m := by
  have c0 := call_loop k g 0 x0 x1 x2 x3 x5 x6 x10 x11 x12 m
  have c1 := call_loop k g 1 x0 x1 x2 x3 x5 x6 x10 x11 x12 m
  have z5 : 4 + 1 ≤ sizeLine := z100 (by omega)
  refine ⟨some (.d (.int 1)), ?_⟩
  have cut : ∀ a b c d e : Sim.D, cutL [a, b, c, d, e] none (some 4) = [a, b, c, d] := fun _ _ _ _ _ => rfl
  have k1 : ∀ a : Sim.D, cutL [a, a, a] none (some 2) = [a, a] := fun _ => rfl
  have k2 : ∀ a b : Sim.D, cutL [a, b, a, b, a, b] none (some 3) = [a, b, a] := fun _ _ => rfl
  have k3 : ∀ a b c : Sim.D, cutL [a, b, c, a, b, c, a, b, c] none (some 1) = [a] := fun _ _ _ => rfl
  have m1 : ∀ (a : Sim.D) (m : MH), binW false .mul (.d (.tuple [a])) (.d (.int 3)) m = .ok (.d (.tuple [a, a, a])) m := fun _ _ => rfl
  have m2 : ∀ (a b : Sim.D) (m : MH), binW false .mul (.d (.tuple [a, b])) (.d (.int 3)) m = .ok (.d (.tuple [a, b, a, b, a, b])) m := fun _ _ _ => rfl
  have m3 : ∀ (a b c : Sim.D) (m : MH), binW false .mul (.d (.tuple [a, b, c])) (.d (.int 3)) m = .ok (.d (.tuple [a, b, c, a, b, c, a, b, c])) m := fun _ _ _ _ => rfl
  have as : ∀ (v : Sim.D) (e : Sim.Env), asgTg [9] false v e = some (e.set 9 (some (.d v))) := fun _ _ => rfl
  have rg : rangeD 0 2 = [.int 0, .int 1] := rfl
  rcases pe_cases g with ⟨a, e⟩ | ⟨a, b, e⟩ | ⟨a, b, c, e⟩
  all_goals
    simp only [moreH, fewH, Hs.D, e, fewL, List.map_cons, List.map_nil] at c0 c1 ⊢
    simp [T_law_1, ix5_0, ix5_1, ix5_2, ix5_4, cut, k1, k2, k3, m1, m2, m3, z5, rg, as, forV, c0, c1]
end K31
set_option maxHeartbeats 4000000
namespace K31
open PySem L2 Sim
theorem body_law (k : Nat) (ns : List Int) (j : Nat) (xs : List (Option W)) (hxs : xs.length = 11) (m : MH) : ∃ ys m', ys.length = 12 ∧ evSs (R (k + 7)) G XX L_law_0 (some (.s ns) :: some (.d (.int j)) :: xs) m = .nx (some (.s ns) :: ys) m' := by
  match xs, hxs with
  | [x2, x3, x4, x5, x6, x7, x8, x9, x10, x11, x12], _ =>
    obtain ⟨a, b, e1⟩ := law_source (k + 6) ns j m
    have hm : Has m.length (m ++ [.lst [.int a, .int b]]) := ⟨a, b, app_top⟩
    obtain ⟨a1, b1, h, e2, gh, _⟩ := home_draw (k + 3) m.length 3 (by omega) (by omega) (m ++ [.lst [.int a, .int b]]) hm
    have hm1 : Has m.length (put m.length a1 b1 (m ++ [.lst [.int a, .int b]])) := put_has (by simp)
    generalize put m.length a1 b1 (m ++ [.lst [.int a, .int b]]) = m1 at e2 hm1
    obtain ⟨a2, b2, h2, e3, g2, p2, l2⟩ := law_other_D (k + 4) m.length h gh m1 hm1
    have hm2 : Has m.length (put m.length a2 b2 m1) := put_has hm1.lt
    generalize put m.length a2 b2 m1 = m2 at e3 hm2
    obtain ⟨a3, b3, h3, e4, g3, p3, l3⟩ := law_other_D (k + 4) m.length h2 g2 m2 hm2
    generalize put m.length a3 b3 m2 = m3 at e4
    have as : ∀ (v : Sim.D) (e : Sim.Env), asgTg [6] false v e = some (e.set 6 (some (.d v))) := fun _ _ => rfl
    obtain ⟨y1, q1⟩ := cmp_loop k gh g2 p2.symm l2.symm (some (.s ns)) (some (.d (.int j))) x2 (some (.r m.length)) (some (.d h2.D)) x7 x8 x9 x10 x11 x12 m3
    obtain ⟨y2, q2⟩ := cmp_loop k gh g3 (by rw [p3, p2]) (by rw [l3, l2]) (some (.s ns)) (some (.d (.int j))) x2 (some (.r m.length)) (some (.d h2.D)) x7 x8 x9 x10 x11 y1 m3
    obtain ⟨y3, q3⟩ := cmp_loop k gh gh rfl rfl (some (.s ns)) (some (.d (.int j))) x2 (some (.r m.length)) (some (.d h2.D)) x7 x8 x9 x10 x11 y2 m3
    obtain ⟨y9, t1⟩ := tail_law k gh (some (.s ns)) (some (.d (.int j))) x2 (some (.r m.length)) (some (.d h2.D)) (some (.d h.D)) x7 x8 x9 x10 x11 y3 m3
    refine ⟨[some (.d (.int j)), x2, some (.r m.length), some (.d h.D), some (.d h2.D), some (.d h.D), some (.d (moreH h).D), some (.d (fewH h).D), y9, x10, x11, y3], m3, rfl, ?_⟩
    simp [L_law_0, e1, e2, e3, e4, forV, as, q1, q2, q3, t1]
def EA1 : Hs := ⟨2, 2, true, [], [⟨.note, .any, .always, true, .hook, false⟩]⟩
def EA2 : Hs := ⟨2, 1, true, [], [⟨.note, .any, .always, true, .hook, false⟩]⟩
def EB1 : Hs := ⟨2, 2, true, [], [⟨.home, .any, .never, false, .keeps, false⟩]⟩
def EB2 : Hs := ⟨2, 1, true, [], [⟨.home, .any, .never, false, .keeps, false⟩]⟩
theorem EA1_ok : EA1.ok := ⟨by decide, by decide, by decide, by decide, by decide, by decide, by decide, by decide⟩
theorem EA2_ok : EA2.ok := ⟨by decide, by decide, by decide, by decide, by decide, by decide, by decide, by decide⟩
theorem EB1_ok : EB1.ok := ⟨by decide, by decide, by decide, by decide, by decide, by decide, by decide, by decide⟩
theorem EB2_ok : EB2.ok := ⟨by decide, by decide, by decide, by decide, by decide, by decide, by decide, by decide⟩
def rowB : List Dd := [.go 0 0 false, .go 0 0 false]
theorem ends_A : Ends EA1 EA2 none := prtF_ends 300 0 _ rfl (fun j hj => absurd hj (Nat.not_lt_zero j)) (by decide +kernel)
theorem ends_B : Ends EB1 EB2 (some rowB) := prtF_ends 300 0 _ rfl (fun j hj => absurd hj (Nat.not_lt_zero j)) (by decide +kernel)
theorem end_law (k : Nat) (xs : List (Option W)) (hxs : xs.length = 12) (x0 : Option W) (m : MH) : evSs (R (k + 7)) G XX T_law_0 (x0 :: xs) m = .rt (.d (.bool true)) m := by
  match xs, hxs with
  | [x1, x2, x3, x4, x5, x6, x7, x8, x9, x10, x11, x12], _ =>
    have e1 : ∀ m, R (k + 7) "alike" [.d EA1.D, .d EA2.D] m = .ok (.d (.bool true)) m := fun m => alike_D (k + 1) EA1_ok EA2_ok rfl rfl ends_A m
    have e2 : ∀ m, R (k + 7) "parting" [.d EB1.D, .d EB2.D] m = .ok (.d (Cs.D rowB)) m := fun m => parting_D (k + 1) EB1_ok EB2_ok rfl rfl ends_B m
    have c := encCs.ceq (m := m) (by omega) rowB rowB
    simp only [EA1, EA2, EB1, EB2, rowB, Hs.D, Hab.D, Cs.D, Dd.D, List.map_cons, List.map_nil, Lk.S, Pk.S, Fl.S, Ky.S, show ((0 : Nat) : Int) = 0 from rfl, decide_true] at e1 e2 c
    simp [T_law_0, asgTg, e1, e2, c, setAll]
theorem law_true (ns : List Int) (hl : ns.length ≤ 63) : ∃ m', R 8 "law" [.s ns] [] = .ok (.d (.bool true)) m' := by
  rw [r_law]
  obtain ⟨n, hn⟩ := src_main (R 7) G ns 4 10 (by omega) (by omega) (by omega) (List.replicate 12 none) []
  obtain ⟨e', m', e1, ys, rfl, hy⟩ := forV_keep (asg := asgTg [1] false) (body := evSs (R 7) G XX L_law_0) (Pe := fun e m => ∃ ys : List (Option W), e = some (.s ns) :: ys ∧ ys.length = 12) ((List.range n).map fun j : Nat => PyData.int j) (some (.s ns) :: List.replicate 12 none) []
    (fun d hd e m ⟨ys, he, hy⟩ => by
      subst he
      obtain ⟨j, _, rfl⟩ := List.mem_map.mp hd
      match ys, hy with
      | y :: ys, hy =>
        obtain ⟨zs, m', hz, e⟩ := body_law 0 ns j ys (by simpa using hy) m
        exact ⟨_, _, _, rfl, e, zs, rfl, hz⟩) ⟨_, rfl, by simp⟩
  have e2 := end_law 0 ys hy (some (.s ns)) m'
  refine ⟨m'.take 0, ?_⟩
  have st : startE n_law.length [W.s ns] = some (.s ns) :: List.replicate 12 none := rfl
  have l1 : ([W.s ns].length = f_law.np) := rfl
  simp only [callFn, if_pos l1, show f_law.N = n_law from rfl, st, show f_law.body = b_law from rfl, show f_law.keep = false from rfl, b_law, evSs_2, evS_9]
  rw [hn]
  simp only [R.thn_ok, e1, RS.thn_nx, e2, fin_rt, end_d]
  rfl
end K31
set_option maxHeartbeats 4000000
namespace K31
open PySem PySem.Spec PyProof.Rows L2 Sim
theorem ba_is_whole : BindsAll "is_whole" (top 10) ["value", "low", "high"] := fun _ _ _ _ _ _ us hl => match us, hl with | [_, _, _], _ => rfl
theorem so_is_whole : scOk n_is_whole ["value", "low", "high"] (defScope (top 10)) = true := by decide +kernel
theorem fd_is_whole : FL.find? (fun g => decide (g.name = ("is_whole" : Str))) = some f_is_whole := find_at (fn := f_is_whole) 0 nd rfl
theorem ba_is_word : BindsAll "is_word" (top 11) ["value", "words"] := fun _ _ _ _ _ _ us hl => match us, hl with | [_, _], _ => rfl
theorem so_is_word : scOk n_is_word ["value", "words"] (defScope (top 11)) = true := by decide +kernel
theorem fd_is_word : FL.find? (fun g => decide (g.name = ("is_word" : Str))) = some f_is_word := find_at (fn := f_is_word) 1 nd rfl
theorem ba_is_right_habit : BindsAll "is_right_habit" (top 12) ["value"] := fun _ _ _ _ _ _ us hl => match us, hl with | [_], _ => rfl
theorem so_is_right_habit : scOk n_is_right_habit ["value"] (defScope (top 12)) = true := by decide +kernel
theorem fd_is_right_habit : FL.find? (fun g => decide (g.name = ("is_right_habit" : Str))) = some f_is_right_habit := find_at (fn := f_is_right_habit) 2 nd rfl
theorem ba_is_fines : BindsAll "is_fines" (top 13) ["places", "value"] := fun _ _ _ _ _ _ us hl => match us, hl with | [_, _], _ => rfl
theorem so_is_fines : scOk n_is_fines ["places", "value"] (defScope (top 13)) = true := by decide +kernel
theorem fd_is_fines : FL.find? (fun g => decide (g.name = ("is_fines" : Str))) = some f_is_fines := find_at (fn := f_is_fines) 3 nd rfl
theorem ba_is_right_house : BindsAll "is_right_house" (top 14) ["value"] := fun _ _ _ _ _ _ us hl => match us, hl with | [_], _ => rfl
theorem so_is_right_house : scOk n_is_right_house ["value"] (defScope (top 14)) = true := by decide +kernel
theorem fd_is_right_house : FL.find? (fun g => decide (g.name = ("is_right_house" : Str))) = some f_is_right_house := find_at (fn := f_is_right_house) 4 nd rfl
theorem ba_need_house : BindsAll "need_house" (top 15) ["value"] := fun _ _ _ _ _ _ us hl => match us, hl with | [_], _ => rfl
theorem so_need_house : scOk n_need_house ["value"] (defScope (top 15)) = true := by decide +kernel
theorem fd_need_house : FL.find? (fun g => decide (g.name = ("need_house" : Str))) = some f_need_house := find_at (fn := f_need_house) 5 nd rfl
theorem ba_begun : BindsAll "begun" (top 17) ["house"] := fun _ _ _ _ _ _ us hl => match us, hl with | [_], _ => rfl
theorem so_begun : scOk n_begun ["house"] (defScope (top 17)) = true := by decide +kernel
theorem fd_begun : FL.find? (fun g => decide (g.name = ("begun" : Str))) = some f_begun := find_at (fn := f_begun) 6 nd rfl
theorem ba_looked_at : BindsAll "looked_at" (top 18) ["habit", "stand"] := fun _ _ _ _ _ _ us hl => match us, hl with | [_, _], _ => rfl
theorem so_looked_at : scOk n_looked_at ["habit", "stand"] (defScope (top 18)) = true := by decide +kernel
theorem fd_looked_at : FL.find? (fun g => decide (g.name = ("looked_at" : Str))) = some f_looked_at := find_at (fn := f_looked_at) 7 nd rfl
theorem ba_driven : BindsAll "driven" (top 19) ["house", "stand", "number", "place", "forgot"] := fun _ _ _ _ _ _ us hl => match us, hl with | [_, _, _, _, _], _ => rfl
theorem so_driven : scOk n_driven ["house", "stand", "number", "place", "forgot"] (defScope (top 19)) = true := by decide +kernel
theorem fd_driven : FL.find? (fun g => decide (g.name = ("driven" : Str))) = some f_driven := find_at (fn := f_driven) 8 nd rfl
theorem ba_drive : BindsAll "drive" (top 20) ["house", "stand", "number", "place", "forgot"] := fun _ _ _ _ _ _ us hl => match us, hl with | [_, _, _, _, _], _ => rfl
theorem so_drive : scOk n_drive ["house", "stand", "number", "place", "forgot"] (defScope (top 20)) = true := by decide +kernel
theorem fd_drive : FL.find? (fun g => decide (g.name = ("drive" : Str))) = some f_drive := find_at (fn := f_drive) 9 nd rfl
theorem ba_dawn : BindsAll "dawn" (top 21) ["house", "stand"] := fun _ _ _ _ _ _ us hl => match us, hl with | [_, _], _ => rfl
theorem so_dawn : scOk n_dawn ["house", "stand"] (defScope (top 21)) = true := by decide +kernel
theorem fd_dawn : FL.find? (fun g => decide (g.name = ("dawn" : Str))) = some f_dawn := find_at (fn := f_dawn) 10 nd rfl
theorem ba_step : BindsAll "step" (top 22) ["house", "stand", "deed"] := fun _ _ _ _ _ _ us hl => match us, hl with | [_, _, _], _ => rfl
theorem so_step : scOk n_step ["house", "stand", "deed"] (defScope (top 22)) = true := by decide +kernel
theorem fd_step : FL.find? (fun g => decide (g.name = ("step" : Str))) = some f_step := find_at (fn := f_step) 11 nd rfl
theorem ba_deeds_of : BindsAll "deeds_of" (top 23) ["house", "stand"] := fun _ _ _ _ _ _ us hl => match us, hl with | [_, _], _ => rfl
theorem so_deeds_of : scOk n_deeds_of ["house", "stand"] (defScope (top 23)) = true := by decide +kernel
theorem fd_deeds_of : FL.find? (fun g => decide (g.name = ("deeds_of" : Str))) = some f_deeds_of := find_at (fn := f_deeds_of) 12 nd rfl
theorem ba_parted : BindsAll "parted" (top 25) ["one", "other"] := fun _ _ _ _ _ _ us hl => match us, hl with | [_, _], _ => rfl
theorem so_parted : scOk n_parted ["one", "other"] (defScope (top 25)) = true := by decide +kernel
theorem fd_parted : FL.find? (fun g => decide (g.name = ("parted" : Str))) = some f_parted := find_at (fn := f_parted) 13 nd rfl
theorem ba_need_both : BindsAll "need_both" (top 26) ["one", "other"] := fun _ _ _ _ _ _ us hl => match us, hl with | [_, _], _ => rfl
theorem so_need_both : scOk n_need_both ["one", "other"] (defScope (top 26)) = true := by decide +kernel
theorem fd_need_both : FL.find? (fun g => decide (g.name = ("need_both" : Str))) = some f_need_both := find_at (fn := f_need_both) 14 nd rfl
theorem ba_alike : BindsAll "alike" (top 27) ["one", "other"] := fun _ _ _ _ _ _ us hl => match us, hl with | [_, _], _ => rfl
theorem so_alike : scOk n_alike ["one", "other"] (defScope (top 27)) = true := by decide +kernel
theorem fd_alike : FL.find? (fun g => decide (g.name = ("alike" : Str))) = some f_alike := find_at (fn := f_alike) 15 nd rfl
theorem ba_parting : BindsAll "parting" (top 28) ["one", "other"] := fun _ _ _ _ _ _ us hl => match us, hl with | [_, _], _ => rfl
theorem so_parting : scOk n_parting ["one", "other"] (defScope (top 28)) = true := by decide +kernel
theorem fd_parting : FL.find? (fun g => decide (g.name = ("parting" : Str))) = some f_parting := find_at (fn := f_parting) 16 nd rfl
theorem ba__law_source : BindsAll "_law_source" (top 30) ["script", "k"] := fun _ _ _ _ _ _ us hl => match us, hl with | [_, _], _ => rfl
theorem so__law_source : scOk n__law_source ["script", "k"] (defScope (top 30)) = true := by decide +kernel
theorem fd__law_source : FL.find? (fun g => decide (g.name = ("_law_source" : Str))) = some f__law_source := find_at (fn := f__law_source) 17 nd rfl
theorem ba__law_pick : BindsAll "_law_pick" (top 31) ["source", "many"] := fun _ _ _ _ _ _ us hl => match us, hl with | [_, _], _ => rfl
theorem so__law_pick : scOk n__law_pick ["source", "many"] (defScope (top 31)) = true := by decide +kernel
theorem fd__law_pick : FL.find? (fun g => decide (g.name = ("_law_pick" : Str))) = some f__law_pick := find_at (fn := f__law_pick) 18 nd rfl
theorem ba__law_chosen : BindsAll "_law_chosen" (top 32) ["source", "things"] := fun _ _ _ _ _ _ us hl => match us, hl with | [_, _], _ => rfl
theorem so__law_chosen : scOk n__law_chosen ["source", "things"] (defScope (top 32)) = true := by decide +kernel
theorem fd__law_chosen : FL.find? (fun g => decide (g.name = ("_law_chosen" : Str))) = some f__law_chosen := find_at (fn := f__law_chosen) 19 nd rfl
theorem ba__law_is_bool : BindsAll "_law_is_bool" (top 33) ["told", "due"] := fun _ _ _ _ _ _ us hl => match us, hl with | [_, _], _ => rfl
theorem so__law_is_bool : scOk n__law_is_bool ["told", "due"] (defScope (top 33)) = true := by decide +kernel
theorem fd__law_is_bool : FL.find? (fun g => decide (g.name = ("_law_is_bool" : Str))) = some f__law_is_bool := find_at (fn := f__law_is_bool) 20 nd rfl
theorem ba__law_table : BindsAll "_law_table" (top 34) [] := fun _ _ _ _ _ _ us hl => match us, hl with | [], _ => rfl
theorem so__law_table : scOk n__law_table [] (defScope (top 34)) = true := by decide +kernel
theorem fd__law_table : FL.find? (fun g => decide (g.name = ("_law_table" : Str))) = some f__law_table := find_at (fn := f__law_table) 21 nd rfl
theorem ba__law_somebody : BindsAll "_law_somebody" (top 35) ["source"] := fun _ _ _ _ _ _ us hl => match us, hl with | [_], _ => rfl
theorem so__law_somebody : scOk n__law_somebody ["source"] (defScope (top 35)) = true := by decide +kernel
theorem fd__law_somebody : FL.find? (fun g => decide (g.name = ("_law_somebody" : Str))) = some f__law_somebody := find_at (fn := f__law_somebody) 22 nd rfl
theorem ba__law_home : BindsAll "_law_home" (top 36) ["source", "most"] := fun _ _ _ _ _ _ us hl => match us, hl with | [_, _], _ => rfl
theorem so__law_home : scOk n__law_home ["source", "most"] (defScope (top 36)) = true := by decide +kernel
theorem fd__law_home : FL.find? (fun g => decide (g.name = ("_law_home" : Str))) = some f__law_home := find_at (fn := f__law_home) 23 nd rfl
theorem ba__law_sought : BindsAll "_law_sought" (top 37) ["person", "where", "note"] := fun _ _ _ _ _ _ us hl => match us, hl with | [_, _, _], _ => rfl
theorem so__law_sought : scOk n__law_sought ["person", "where", "note"] (defScope (top 37)) = true := by decide +kernel
theorem fd__law_sought : FL.find? (fun g => decide (g.name = ("_law_sought" : Str))) = some f__law_sought := find_at (fn := f__law_sought) 24 nd rfl
theorem ba__law_drive : BindsAll "_law_drive" (top 38) ["home", "spot", "number", "place", "forgot"] := fun _ _ _ _ _ _ us hl => match us, hl with | [_, _, _, _, _], _ => rfl
theorem so__law_drive : scOk n__law_drive ["home", "spot", "number", "place", "forgot"] (defScope (top 38)) = true := by decide +kernel
theorem fd__law_drive : FL.find? (fun g => decide (g.name = ("_law_drive" : Str))) = some f__law_drive := find_at (fn := f__law_drive) 25 nd rfl
theorem ba__law_next : BindsAll "_law_next" (top 39) ["home", "spot", "deed"] := fun _ _ _ _ _ _ us hl => match us, hl with | [_, _, _], _ => rfl
theorem so__law_next : scOk n__law_next ["home", "spot", "deed"] (defScope (top 39)) = true := by decide +kernel
theorem fd__law_next : FL.find? (fun g => decide (g.name = ("_law_next" : Str))) = some f__law_next := find_at (fn := f__law_next) 26 nd rfl
theorem ba__law_all_deeds : BindsAll "_law_all_deeds" (top 40) ["home", "spot"] := fun _ _ _ _ _ _ us hl => match us, hl with | [_, _], _ => rfl
theorem so__law_all_deeds : scOk n__law_all_deeds ["home", "spot"] (defScope (top 40)) = true := by decide +kernel
theorem fd__law_all_deeds : FL.find? (fun g => decide (g.name = ("_law_all_deeds" : Str))) = some f__law_all_deeds := find_at (fn := f__law_all_deeds) 27 nd rfl
theorem ba__law_first : BindsAll "_law_first" (top 41) ["home"] := fun _ _ _ _ _ _ us hl => match us, hl with | [_], _ => rfl
theorem so__law_first : scOk n__law_first ["home"] (defScope (top 41)) = true := by decide +kernel
theorem fd__law_first : FL.find? (fun g => decide (g.name = ("_law_first" : Str))) = some f__law_first := find_at (fn := f__law_first) 28 nd rfl
theorem ba__law_outcome : BindsAll "_law_outcome" (top 42) ["call", "one", "other"] := fun _ _ _ _ _ _ us hl => match us, hl with | [_, _, _], _ => rfl
theorem so__law_outcome : scOk n__law_outcome ["call", "one", "other"] (defScope (top 42)) = true := by decide +kernel
theorem fd__law_outcome : FL.find? (fun g => decide (g.name = ("_law_outcome" : Str))) = some f__law_outcome := find_at (fn := f__law_outcome) 29 nd rfl
theorem ba__law_other : BindsAll "_law_other" (top 43) ["source", "home"] := fun _ _ _ _ _ _ us hl => match us, hl with | [_, _], _ => rfl
theorem so__law_other : scOk n__law_other ["source", "home"] (defScope (top 43)) = true := by decide +kernel
theorem fd__law_other : FL.find? (fun g => decide (g.name = ("_law_other" : Str))) = some f__law_other := find_at (fn := f__law_other) 30 nd rfl
theorem ba__law_parting : BindsAll "_law_parting" (top 44) ["one", "other"] := fun _ _ _ _ _ _ us hl => match us, hl with | [_, _], _ => rfl
theorem so__law_parting : scOk n__law_parting ["one", "other"] (defScope (top 44)) = true := by decide +kernel
theorem fd__law_parting : FL.find? (fun g => decide (g.name = ("_law_parting" : Str))) = some f__law_parting := find_at (fn := f__law_parting) 31 nd rfl
theorem ba_law : BindsAll "law" (top 45) ["script"] := fun _ _ _ _ _ _ us hl => match us, hl with | [_], _ => rfl
theorem so_law : scOk n_law ["script"] (defScope (top 45)) = true := by decide +kernel
theorem fd_law : FL.find? (fun g => decide (g.name = ("law" : Str))) = some f_law := find_at (fn := f_law) 32 nd rfl
theorem dm_is_whole {K : Params → PySem.W.Frag} {w : World} {mg : Str → Option Value} {h : Heap} (X : (cxt K TE w).K.In h) (N : h.Ns mainGlobals mg) (d : RowD (K w.params) "is_whole" (top 10)) : ∃ a fd ps, DefOk (cxt K TE w) mg FL TF TB TG TE "is_whole" 3 a fd ps := def_mk (C := cxt K TE w) (fn := f_is_whole) (mutn := []) (retm := false) (fuel := 100) X N d ba_is_whole so_is_whole fd_is_whole rfl rfl c_is_whole
theorem dm_is_word {K : Params → PySem.W.Frag} {w : World} {mg : Str → Option Value} {h : Heap} (X : (cxt K TE w).K.In h) (N : h.Ns mainGlobals mg) (d : RowD (K w.params) "is_word" (top 11)) : ∃ a fd ps, DefOk (cxt K TE w) mg FL TF TB TG TE "is_word" 2 a fd ps := def_mk (C := cxt K TE w) (fn := f_is_word) (mutn := []) (retm := false) (fuel := 100) X N d ba_is_word so_is_word fd_is_word rfl rfl c_is_word
theorem dm_is_right_habit {K : Params → PySem.W.Frag} {w : World} {mg : Str → Option Value} {h : Heap} (X : (cxt K TE w).K.In h) (N : h.Ns mainGlobals mg) (d : RowD (K w.params) "is_right_habit" (top 12)) : ∃ a fd ps, DefOk (cxt K TE w) mg FL TF TB TG TE "is_right_habit" 1 a fd ps := def_mk (C := cxt K TE w) (fn := f_is_right_habit) (mutn := []) (retm := false) (fuel := 100) X N d ba_is_right_habit so_is_right_habit fd_is_right_habit rfl rfl c_is_right_habit
theorem dm_is_fines {K : Params → PySem.W.Frag} {w : World} {mg : Str → Option Value} {h : Heap} (X : (cxt K TE w).K.In h) (N : h.Ns mainGlobals mg) (d : RowD (K w.params) "is_fines" (top 13)) : ∃ a fd ps, DefOk (cxt K TE w) mg FL TF TB TG TE "is_fines" 2 a fd ps := def_mk (C := cxt K TE w) (fn := f_is_fines) (mutn := []) (retm := false) (fuel := 100) X N d ba_is_fines so_is_fines fd_is_fines rfl rfl c_is_fines
theorem dm_is_right_house {K : Params → PySem.W.Frag} {w : World} {mg : Str → Option Value} {h : Heap} (X : (cxt K TE w).K.In h) (N : h.Ns mainGlobals mg) (d : RowD (K w.params) "is_right_house" (top 14)) : ∃ a fd ps, DefOk (cxt K TE w) mg FL TF TB TG TE "is_right_house" 1 a fd ps := def_mk (C := cxt K TE w) (fn := f_is_right_house) (mutn := []) (retm := false) (fuel := 100) X N d ba_is_right_house so_is_right_house fd_is_right_house rfl rfl c_is_right_house
theorem dm_need_house {K : Params → PySem.W.Frag} {w : World} {mg : Str → Option Value} {h : Heap} (X : (cxt K TE w).K.In h) (N : h.Ns mainGlobals mg) (d : RowD (K w.params) "need_house" (top 15)) : ∃ a fd ps, DefOk (cxt K TE w) mg FL TF TB TG TE "need_house" 1 a fd ps := def_mk (C := cxt K TE w) (fn := f_need_house) (mutn := []) (retm := false) (fuel := 100) X N d ba_need_house so_need_house fd_need_house rfl rfl c_need_house
theorem dm_begun {K : Params → PySem.W.Frag} {w : World} {mg : Str → Option Value} {h : Heap} (X : (cxt K TE w).K.In h) (N : h.Ns mainGlobals mg) (d : RowD (K w.params) "begun" (top 17)) : ∃ a fd ps, DefOk (cxt K TE w) mg FL TF TB TG TE "begun" 1 a fd ps := def_mk (C := cxt K TE w) (fn := f_begun) (mutn := []) (retm := false) (fuel := 100) X N d ba_begun so_begun fd_begun rfl rfl c_begun
theorem dm_looked_at {K : Params → PySem.W.Frag} {w : World} {mg : Str → Option Value} {h : Heap} (X : (cxt K TE w).K.In h) (N : h.Ns mainGlobals mg) (d : RowD (K w.params) "looked_at" (top 18)) : ∃ a fd ps, DefOk (cxt K TE w) mg FL TF TB TG TE "looked_at" 2 a fd ps := def_mk (C := cxt K TE w) (fn := f_looked_at) (mutn := []) (retm := false) (fuel := 100) X N d ba_looked_at so_looked_at fd_looked_at rfl rfl c_looked_at
theorem dm_driven {K : Params → PySem.W.Frag} {w : World} {mg : Str → Option Value} {h : Heap} (X : (cxt K TE w).K.In h) (N : h.Ns mainGlobals mg) (d : RowD (K w.params) "driven" (top 19)) : ∃ a fd ps, DefOk (cxt K TE w) mg FL TF TB TG TE "driven" 5 a fd ps := def_mk (C := cxt K TE w) (fn := f_driven) (mutn := []) (retm := false) (fuel := 100) X N d ba_driven so_driven fd_driven rfl rfl c_driven
theorem dm_drive {K : Params → PySem.W.Frag} {w : World} {mg : Str → Option Value} {h : Heap} (X : (cxt K TE w).K.In h) (N : h.Ns mainGlobals mg) (d : RowD (K w.params) "drive" (top 20)) : ∃ a fd ps, DefOk (cxt K TE w) mg FL TF TB TG TE "drive" 5 a fd ps := def_mk (C := cxt K TE w) (fn := f_drive) (mutn := []) (retm := false) (fuel := 100) X N d ba_drive so_drive fd_drive rfl rfl c_drive
theorem dm_dawn {K : Params → PySem.W.Frag} {w : World} {mg : Str → Option Value} {h : Heap} (X : (cxt K TE w).K.In h) (N : h.Ns mainGlobals mg) (d : RowD (K w.params) "dawn" (top 21)) : ∃ a fd ps, DefOk (cxt K TE w) mg FL TF TB TG TE "dawn" 2 a fd ps := def_mk (C := cxt K TE w) (fn := f_dawn) (mutn := []) (retm := false) (fuel := 100) X N d ba_dawn so_dawn fd_dawn rfl rfl c_dawn
theorem dm_step {K : Params → PySem.W.Frag} {w : World} {mg : Str → Option Value} {h : Heap} (X : (cxt K TE w).K.In h) (N : h.Ns mainGlobals mg) (d : RowD (K w.params) "step" (top 22)) : ∃ a fd ps, DefOk (cxt K TE w) mg FL TF TB TG TE "step" 3 a fd ps := def_mk (C := cxt K TE w) (fn := f_step) (mutn := []) (retm := false) (fuel := 100) X N d ba_step so_step fd_step rfl rfl c_step
theorem dm_deeds_of {K : Params → PySem.W.Frag} {w : World} {mg : Str → Option Value} {h : Heap} (X : (cxt K TE w).K.In h) (N : h.Ns mainGlobals mg) (d : RowD (K w.params) "deeds_of" (top 23)) : ∃ a fd ps, DefOk (cxt K TE w) mg FL TF TB TG TE "deeds_of" 2 a fd ps := def_mk (C := cxt K TE w) (fn := f_deeds_of) (mutn := ["found"]) (retm := false) (fuel := 100) X N d ba_deeds_of so_deeds_of fd_deeds_of rfl rfl c_deeds_of
theorem dm_parted {K : Params → PySem.W.Frag} {w : World} {mg : Str → Option Value} {h : Heap} (X : (cxt K TE w).K.In h) (N : h.Ns mainGlobals mg) (d : RowD (K w.params) "parted" (top 25)) : ∃ a fd ps, DefOk (cxt K TE w) mg FL TF TB TG TE "parted" 2 a fd ps := def_mk (C := cxt K TE w) (fn := f_parted) (mutn := ["known", "later"]) (retm := false) (fuel := 100) X N d ba_parted so_parted fd_parted rfl rfl c_parted
theorem dm_need_both {K : Params → PySem.W.Frag} {w : World} {mg : Str → Option Value} {h : Heap} (X : (cxt K TE w).K.In h) (N : h.Ns mainGlobals mg) (d : RowD (K w.params) "need_both" (top 26)) : ∃ a fd ps, DefOk (cxt K TE w) mg FL TF TB TG TE "need_both" 2 a fd ps := def_mk (C := cxt K TE w) (fn := f_need_both) (mutn := []) (retm := false) (fuel := 100) X N d ba_need_both so_need_both fd_need_both rfl rfl c_need_both
theorem dm_alike {K : Params → PySem.W.Frag} {w : World} {mg : Str → Option Value} {h : Heap} (X : (cxt K TE w).K.In h) (N : h.Ns mainGlobals mg) (d : RowD (K w.params) "alike" (top 27)) : ∃ a fd ps, DefOk (cxt K TE w) mg FL TF TB TG TE "alike" 2 a fd ps := def_mk (C := cxt K TE w) (fn := f_alike) (mutn := []) (retm := false) (fuel := 100) X N d ba_alike so_alike fd_alike rfl rfl c_alike
theorem dm_parting {K : Params → PySem.W.Frag} {w : World} {mg : Str → Option Value} {h : Heap} (X : (cxt K TE w).K.In h) (N : h.Ns mainGlobals mg) (d : RowD (K w.params) "parting" (top 28)) : ∃ a fd ps, DefOk (cxt K TE w) mg FL TF TB TG TE "parting" 2 a fd ps := def_mk (C := cxt K TE w) (fn := f_parting) (mutn := []) (retm := false) (fuel := 100) X N d ba_parting so_parting fd_parting rfl rfl c_parting
theorem dm__law_source {K : Params → PySem.W.Frag} {w : World} {mg : Str → Option Value} {h : Heap} (X : (cxt K TE w).K.In h) (N : h.Ns mainGlobals mg) (d : RowD (K w.params) "_law_source" (top 30)) : ∃ a fd ps, DefOk (cxt K TE w) mg FL TF TB TG TE "_law_source" 2 a fd ps := def_mk (C := cxt K TE w) (fn := f__law_source) (mutn := []) (retm := true) (fuel := 100) X N d ba__law_source so__law_source fd__law_source rfl rfl c__law_source
theorem dm__law_pick {K : Params → PySem.W.Frag} {w : World} {mg : Str → Option Value} {h : Heap} (X : (cxt K TE w).K.In h) (N : h.Ns mainGlobals mg) (d : RowD (K w.params) "_law_pick" (top 31)) : ∃ a fd ps, DefOk (cxt K TE w) mg FL TF TB TG TE "_law_pick" 2 a fd ps := def_mk (C := cxt K TE w) (fn := f__law_pick) (mutn := ["source"]) (retm := false) (fuel := 100) X N d ba__law_pick so__law_pick fd__law_pick rfl rfl c__law_pick
theorem dm__law_chosen {K : Params → PySem.W.Frag} {w : World} {mg : Str → Option Value} {h : Heap} (X : (cxt K TE w).K.In h) (N : h.Ns mainGlobals mg) (d : RowD (K w.params) "_law_chosen" (top 32)) : ∃ a fd ps, DefOk (cxt K TE w) mg FL TF TB TG TE "_law_chosen" 2 a fd ps := def_mk (C := cxt K TE w) (fn := f__law_chosen) (mutn := ["source"]) (retm := false) (fuel := 100) X N d ba__law_chosen so__law_chosen fd__law_chosen rfl rfl c__law_chosen
theorem dm__law_is_bool {K : Params → PySem.W.Frag} {w : World} {mg : Str → Option Value} {h : Heap} (X : (cxt K TE w).K.In h) (N : h.Ns mainGlobals mg) (d : RowD (K w.params) "_law_is_bool" (top 33)) : ∃ a fd ps, DefOk (cxt K TE w) mg FL TF TB TG TE "_law_is_bool" 2 a fd ps := def_mk (C := cxt K TE w) (fn := f__law_is_bool) (mutn := []) (retm := false) (fuel := 100) X N d ba__law_is_bool so__law_is_bool fd__law_is_bool rfl rfl c__law_is_bool
theorem dm__law_table {K : Params → PySem.W.Frag} {w : World} {mg : Str → Option Value} {h : Heap} (X : (cxt K TE w).K.In h) (N : h.Ns mainGlobals mg) (d : RowD (K w.params) "_law_table" (top 34)) : ∃ a fd ps, DefOk (cxt K TE w) mg FL TF TB TG TE "_law_table" 0 a fd ps := def_mk (C := cxt K TE w) (fn := f__law_table) (mutn := []) (retm := false) (fuel := 100) X N d ba__law_table so__law_table fd__law_table rfl rfl c__law_table
theorem dm__law_somebody {K : Params → PySem.W.Frag} {w : World} {mg : Str → Option Value} {h : Heap} (X : (cxt K TE w).K.In h) (N : h.Ns mainGlobals mg) (d : RowD (K w.params) "_law_somebody" (top 35)) : ∃ a fd ps, DefOk (cxt K TE w) mg FL TF TB TG TE "_law_somebody" 1 a fd ps := def_mk (C := cxt K TE w) (fn := f__law_somebody) (mutn := ["first", "source"]) (retm := false) (fuel := 100) X N d ba__law_somebody so__law_somebody fd__law_somebody rfl rfl c__law_somebody
theorem dm__law_home {K : Params → PySem.W.Frag} {w : World} {mg : Str → Option Value} {h : Heap} (X : (cxt K TE w).K.In h) (N : h.Ns mainGlobals mg) (d : RowD (K w.params) "_law_home" (top 36)) : ∃ a fd ps, DefOk (cxt K TE w) mg FL TF TB TG TE "_law_home" 2 a fd ps := def_mk (C := cxt K TE w) (fn := f__law_home) (mutn := ["source"]) (retm := false) (fuel := 100) X N d ba__law_home so__law_home fd__law_home rfl rfl c__law_home
theorem dm__law_sought {K : Params → PySem.W.Frag} {w : World} {mg : Str → Option Value} {h : Heap} (X : (cxt K TE w).K.In h) (N : h.Ns mainGlobals mg) (d : RowD (K w.params) "_law_sought" (top 37)) : ∃ a fd ps, DefOk (cxt K TE w) mg FL TF TB TG TE "_law_sought" 3 a fd ps := def_mk (C := cxt K TE w) (fn := f__law_sought) (mutn := []) (retm := false) (fuel := 100) X N d ba__law_sought so__law_sought fd__law_sought rfl rfl c__law_sought
theorem dm__law_drive {K : Params → PySem.W.Frag} {w : World} {mg : Str → Option Value} {h : Heap} (X : (cxt K TE w).K.In h) (N : h.Ns mainGlobals mg) (d : RowD (K w.params) "_law_drive" (top 38)) : ∃ a fd ps, DefOk (cxt K TE w) mg FL TF TB TG TE "_law_drive" 5 a fd ps := def_mk (C := cxt K TE w) (fn := f__law_drive) (mutn := []) (retm := false) (fuel := 100) X N d ba__law_drive so__law_drive fd__law_drive rfl rfl c__law_drive
theorem dm__law_next {K : Params → PySem.W.Frag} {w : World} {mg : Str → Option Value} {h : Heap} (X : (cxt K TE w).K.In h) (N : h.Ns mainGlobals mg) (d : RowD (K w.params) "_law_next" (top 39)) : ∃ a fd ps, DefOk (cxt K TE w) mg FL TF TB TG TE "_law_next" 3 a fd ps := def_mk (C := cxt K TE w) (fn := f__law_next) (mutn := []) (retm := false) (fuel := 100) X N d ba__law_next so__law_next fd__law_next rfl rfl c__law_next
theorem dm__law_all_deeds {K : Params → PySem.W.Frag} {w : World} {mg : Str → Option Value} {h : Heap} (X : (cxt K TE w).K.In h) (N : h.Ns mainGlobals mg) (d : RowD (K w.params) "_law_all_deeds" (top 40)) : ∃ a fd ps, DefOk (cxt K TE w) mg FL TF TB TG TE "_law_all_deeds" 2 a fd ps := def_mk (C := cxt K TE w) (fn := f__law_all_deeds) (mutn := ["found"]) (retm := false) (fuel := 100) X N d ba__law_all_deeds so__law_all_deeds fd__law_all_deeds rfl rfl c__law_all_deeds
theorem dm__law_first {K : Params → PySem.W.Frag} {w : World} {mg : Str → Option Value} {h : Heap} (X : (cxt K TE w).K.In h) (N : h.Ns mainGlobals mg) (d : RowD (K w.params) "_law_first" (top 41)) : ∃ a fd ps, DefOk (cxt K TE w) mg FL TF TB TG TE "_law_first" 1 a fd ps := def_mk (C := cxt K TE w) (fn := f__law_first) (mutn := []) (retm := false) (fuel := 100) X N d ba__law_first so__law_first fd__law_first rfl rfl c__law_first
theorem dm__law_outcome {K : Params → PySem.W.Frag} {w : World} {mg : Str → Option Value} {h : Heap} (X : (cxt K TE w).K.In h) (N : h.Ns mainGlobals mg) (d : RowD (K w.params) "_law_outcome" (top 42)) : ∃ a fd ps, DefOk (cxt K TE w) mg FL TF TB TG TE "_law_outcome" 3 a fd ps := def_mk (C := cxt K TE w) (fn := f__law_outcome) (mutn := []) (retm := false) (fuel := 100) X N d ba__law_outcome so__law_outcome fd__law_outcome rfl rfl c__law_outcome
theorem dm__law_other {K : Params → PySem.W.Frag} {w : World} {mg : Str → Option Value} {h : Heap} (X : (cxt K TE w).K.In h) (N : h.Ns mainGlobals mg) (d : RowD (K w.params) "_law_other" (top 43)) : ∃ a fd ps, DefOk (cxt K TE w) mg FL TF TB TG TE "_law_other" 2 a fd ps := def_mk (C := cxt K TE w) (fn := f__law_other) (mutn := ["source"]) (retm := false) (fuel := 100) X N d ba__law_other so__law_other fd__law_other rfl rfl c__law_other
theorem dm__law_parting {K : Params → PySem.W.Frag} {w : World} {mg : Str → Option Value} {h : Heap} (X : (cxt K TE w).K.In h) (N : h.Ns mainGlobals mg) (d : RowD (K w.params) "_law_parting" (top 44)) : ∃ a fd ps, DefOk (cxt K TE w) mg FL TF TB TG TE "_law_parting" 2 a fd ps := def_mk (C := cxt K TE w) (fn := f__law_parting) (mutn := ["found", "line"]) (retm := false) (fuel := 100) X N d ba__law_parting so__law_parting fd__law_parting rfl rfl c__law_parting
theorem dm_law {K : Params → PySem.W.Frag} {w : World} {mg : Str → Option Value} {h : Heap} (X : (cxt K TE w).K.In h) (N : h.Ns mainGlobals mg) (d : RowD (K w.params) "law" (top 45)) : ∃ a fd ps, DefOk (cxt K TE w) mg FL TF TB TG TE "law" 1 a fd ps := def_mk (C := cxt K TE w) (fn := f_law) (mutn := ["source"]) (retm := false) (fuel := 100) X N d ba_law so_law fd_law rfl rfl c_law
theorem fin_mk {K : Params → PySem.W.Frag} {w : World} {mg : Str → Option Value} {h : Heap} (X : (cxt K TE w).K.In h) (N : h.Ns mainGlobals mg) {fa : Addr} {P : Program} (hfa : mg "law" = some (.ref fa))
  (dQ0 : RowD (K w.params) "is_whole" (top 10))
  (dQ1 : RowD (K w.params) "is_word" (top 11))
  (dQ2 : RowD (K w.params) "is_right_habit" (top 12))
  (dQ3 : RowD (K w.params) "is_fines" (top 13))
  (dQ4 : RowD (K w.params) "is_right_house" (top 14))
  (dQ5 : RowD (K w.params) "need_house" (top 15))
  (dQ6 : RowD (K w.params) "begun" (top 17))
  (dQ7 : RowD (K w.params) "looked_at" (top 18))
  (dQ8 : RowD (K w.params) "driven" (top 19))
  (dQ9 : RowD (K w.params) "drive" (top 20))
  (dQ10 : RowD (K w.params) "dawn" (top 21))
  (dQ11 : RowD (K w.params) "step" (top 22))
  (dQ12 : RowD (K w.params) "deeds_of" (top 23))
  (dQ13 : RowD (K w.params) "parted" (top 25))
  (dQ14 : RowD (K w.params) "need_both" (top 26))
  (dQ15 : RowD (K w.params) "alike" (top 27))
  (dQ16 : RowD (K w.params) "parting" (top 28))
  (dQ17 : RowD (K w.params) "_law_source" (top 30))
  (dQ18 : RowD (K w.params) "_law_pick" (top 31))
  (dQ19 : RowD (K w.params) "_law_chosen" (top 32))
  (dQ20 : RowD (K w.params) "_law_is_bool" (top 33))
  (dQ21 : RowD (K w.params) "_law_table" (top 34))
  (dQ22 : RowD (K w.params) "_law_somebody" (top 35))
  (dQ23 : RowD (K w.params) "_law_home" (top 36))
  (dQ24 : RowD (K w.params) "_law_sought" (top 37))
  (dQ25 : RowD (K w.params) "_law_drive" (top 38))
  (dQ26 : RowD (K w.params) "_law_next" (top 39))
  (dQ27 : RowD (K w.params) "_law_all_deeds" (top 40))
  (dQ28 : RowD (K w.params) "_law_first" (top 41))
  (dQ29 : RowD (K w.params) "_law_outcome" (top 42))
  (dQ30 : RowD (K w.params) "_law_other" (top 43))
  (dQ31 : RowD (K w.params) "_law_parting" (top 44))
  (dQ32 : RowD (K w.params) "law" (top 45))
  (bQ0 : PySem.W.nsIn (K w.params) mainGlobals "ValueError" = some none)
  (bQ1 : PySem.W.nsIn (K w.params) mainGlobals "all" = some none)
  (bQ2 : PySem.W.nsIn (K w.params) mainGlobals "bool" = some none)
  (bQ3 : PySem.W.nsIn (K w.params) mainGlobals "enumerate" = some none)
  (bQ4 : PySem.W.nsIn (K w.params) mainGlobals "int" = some none)
  (bQ5 : PySem.W.nsIn (K w.params) mainGlobals "isinstance" = some none)
  (bQ6 : PySem.W.nsIn (K w.params) mainGlobals "len" = some none)
  (bQ7 : PySem.W.nsIn (K w.params) mainGlobals "list" = some none)
  (bQ8 : PySem.W.nsIn (K w.params) mainGlobals "max" = some none)
  (bQ9 : PySem.W.nsIn (K w.params) mainGlobals "min" = some none)
  (bQ10 : PySem.W.nsIn (K w.params) mainGlobals "range" = some none)
  (bQ11 : PySem.W.nsIn (K w.params) mainGlobals "set" = some none)
  (bQ12 : PySem.W.nsIn (K w.params) mainGlobals "sorted" = some none)
  (bQ13 : PySem.W.nsIn (K w.params) mainGlobals "str" = some none)
  (bQ14 : PySem.W.nsIn (K w.params) mainGlobals "tuple" = some none)
  (gQ0 : GlobOk (K w.params) "LOOKS" v_LOOKS)
  (gQ1 : GlobOk (K w.params) "PARKS" v_PARKS)
  (gQ2 : GlobOk (K w.params) "FILLS" v_FILLS)
  (gQ3 : GlobOk (K w.params) "KEYS" v_KEYS)
  (gQ4 : GlobOk (K w.params) "MOST" v_MOST)
  (eQ0 : RowE (K w.params) "InvalidHouse")
  (eQ1 : RowE (K w.params) "Unlike")
  (xQ0_0 : RowX (K w.params) "InvalidHouse" "InvalidHouse" true)
  (xQ0_1 : RowX (K w.params) "InvalidHouse" "Unlike" false)
  (xQ1_0 : RowX (K w.params) "Unlike" "InvalidHouse" false)
  (xQ1_1 : RowX (K w.params) "Unlike" "Unlike" true)
  : ∃ fd : FuncData, (∀ (s : Shared) (u : Value), BindsTo s fd ⟨[u], []⟩ [("script", u)]) ∧ ∀ base : Heap, (cxt K TE w).K.In base → base.Ns mainGlobals mg → FnOk P (cxt K TE w).w (cxt K TE w).K mg base (L2.CX P (cxt K TE w).w) 8 fa fd ["script"] (spOf { cxt K TE w with hid := [] } FL G XX 8 "law" 1) := by
  have hd : ∀ p ∈ TF, ∃ a fd ps, DefOk (cxt K TE w) mg FL TF TB TG TE p.1 p.2 a fd ps := (defs_cons (dm_is_whole X N dQ0) (defs_cons (dm_is_word X N dQ1) (defs_cons (dm_is_right_habit X N dQ2) (defs_cons (dm_is_fines X N dQ3) (defs_cons (dm_is_right_house X N dQ4) (defs_cons (dm_need_house X N dQ5) (defs_cons (dm_begun X N dQ6) (defs_cons (dm_looked_at X N dQ7) (defs_cons (dm_driven X N dQ8) (defs_cons (dm_drive X N dQ9) (defs_cons (dm_dawn X N dQ10) (defs_cons (dm_step X N dQ11) (defs_cons (dm_deeds_of X N dQ12) (defs_cons (dm_parted X N dQ13) (defs_cons (dm_need_both X N dQ14) (defs_cons (dm_alike X N dQ15) (defs_cons (dm_parting X N dQ16) (defs_cons (dm__law_source X N dQ17) (defs_cons (dm__law_pick X N dQ18) (defs_cons (dm__law_chosen X N dQ19) (defs_cons (dm__law_is_bool X N dQ20) (defs_cons (dm__law_table X N dQ21) (defs_cons (dm__law_somebody X N dQ22) (defs_cons (dm__law_home X N dQ23) (defs_cons (dm__law_sought X N dQ24) (defs_cons (dm__law_drive X N dQ25) (defs_cons (dm__law_next X N dQ26) (defs_cons (dm__law_all_deeds X N dQ27) (defs_cons (dm__law_first X N dQ28) (defs_cons (dm__law_outcome X N dQ29) (defs_cons (dm__law_other X N dQ30) (defs_cons (dm__law_parting X N dQ31) (defs_cons (dm_law X N dQ32) defs_nil)))))))))))))))))))))))))))))))))
  have hb : ∀ x ∈ TB, PySem.W.nsIn (K w.params) mainGlobals x = some none := (al_cons bQ0 (al_cons bQ1 (al_cons bQ2 (al_cons bQ3 (al_cons bQ4 (al_cons bQ5 (al_cons bQ6 (al_cons bQ7 (al_cons bQ8 (al_cons bQ9 (al_cons bQ10 (al_cons bQ11 (al_cons bQ12 (al_cons bQ13 (al_cons bQ14 al_nil)))))))))))))))
  have hg : ∀ x ∈ TG, ∃ d, G x = some d ∧ GlobOk (K w.params) x d := (al_cons (glob_mk g_LOOKS gQ0) (al_cons (glob_mk g_PARKS gQ1) (al_cons (glob_mk g_FILLS gQ2) (al_cons (glob_mk g_KEYS gQ3) (al_cons (glob_mk g_MOST gQ4) al_nil)))))
  have he : ∀ c ∈ TE, RowE (K w.params) c := (al_cons eQ0 (al_cons eQ1 al_nil))
  have hx : ∀ c ∈ TE, ∀ k ∈ TE, RowX (K w.params) c k (XX c k) := (al_cons (al_cons (exm_eq xQ0_0 (by decide +kernel)) (al_cons (exm_eq xQ0_1 (by decide +kernel)) al_nil)) (al_cons (al_cons (exm_eq xQ1_0 (by decide +kernel)) (al_cons (exm_eq xQ1_1 (by decide +kernel)) al_nil)) al_nil))
  exact law_F (txt_mk X N hd hb hg he hx (exk_of (by decide +kernel))) X N dQ32 ba_law so_law (mutn := ["source"]) (retm := false) (fuel := 100) fd_law rfl c_law hfa
end K31
open PySem PySem.W PyProof.Rows in
set_option maxRecDepth 100000 in
set_option maxHeartbeats 0 in
theorem PySem.Challenge.cw_sharedcar_k31_households_compared_holds : PySem.Challenge.rw_sharedcar_k31_households_compared.Holds := by
  w_on; o_law; k_head; (case hw => w_witness2)
  k_fill
  refine Sim.law_walk (l := PySem.Challenge.rw_sharedcar_k31_households_compared) (k := 8) (x := "script") (TE := K31.TE) (F := K31.FL) (G := K31.G) (XX := K31.XX) rfl rfl ⟨rfl, by decide, by decide⟩ (fun w h Y => PySem.W.kIn_of Y) K31.law_true ?F
  case F =>
    intro w mg fa h KX G hmg
    refine' K31.fin_mk KX G hmg ?dQ0 ?dQ1 ?dQ2 ?dQ3 ?dQ4 ?dQ5 ?dQ6 ?dQ7 ?dQ8 ?dQ9 ?dQ10 ?dQ11 ?dQ12 ?dQ13 ?dQ14 ?dQ15 ?dQ16 ?dQ17 ?dQ18 ?dQ19 ?dQ20 ?dQ21 ?dQ22 ?dQ23 ?dQ24 ?dQ25 ?dQ26 ?dQ27 ?dQ28 ?dQ29 ?dQ30 ?dQ31 ?dQ32 ?bQ0 ?bQ1 ?bQ2 ?bQ3 ?bQ4 ?bQ5 ?bQ6 ?bQ7 ?bQ8 ?bQ9 ?bQ10 ?bQ11 ?bQ12 ?bQ13 ?bQ14 ?gQ0 ?gQ1 ?gQ2 ?gQ3 ?gQ4 ?eQ0 ?eQ1 ?xQ0_0 ?xQ0_1 ?xQ1_0 ?xQ1_1
    (case dQ0 => refine' Sim.row_mk ?a ?l ?c ?k; (case a => k_is); (case l => k_is); (case c => k_is); (case k => k_is))
    (case dQ1 => refine' Sim.row_mk ?a ?l ?c ?k; (case a => k_is); (case l => k_is); (case c => k_is); (case k => k_is))
    (case dQ2 => refine' Sim.row_mk ?a ?l ?c ?k; (case a => k_is); (case l => k_is); (case c => k_is); (case k => k_is))
    (case dQ3 => refine' Sim.row_mk ?a ?l ?c ?k; (case a => k_is); (case l => k_is); (case c => k_is); (case k => k_is))
    (case dQ4 => refine' Sim.row_mk ?a ?l ?c ?k; (case a => k_is); (case l => k_is); (case c => k_is); (case k => k_is))
    (case dQ5 => refine' Sim.row_mk ?a ?l ?c ?k; (case a => k_is); (case l => k_is); (case c => k_is); (case k => k_is))
    (case dQ6 => refine' Sim.row_mk ?a ?l ?c ?k; (case a => k_is); (case l => k_is); (case c => k_is); (case k => k_is))
    (case dQ7 => refine' Sim.row_mk ?a ?l ?c ?k; (case a => k_is); (case l => k_is); (case c => k_is); (case k => k_is))
    (case dQ8 => refine' Sim.row_mk ?a ?l ?c ?k; (case a => k_is); (case l => k_is); (case c => k_is); (case k => k_is))
    (case dQ9 => refine' Sim.row_mk ?a ?l ?c ?k; (case a => k_is); (case l => k_is); (case c => k_is); (case k => k_is))
    (case dQ10 => refine' Sim.row_mk ?a ?l ?c ?k; (case a => k_is); (case l => k_is); (case c => k_is); (case k => k_is))
    (case dQ11 => refine' Sim.row_mk ?a ?l ?c ?k; (case a => k_is); (case l => k_is); (case c => k_is); (case k => k_is))
    (case dQ12 => refine' Sim.row_mk ?a ?l ?c ?k; (case a => k_is); (case l => k_is); (case c => k_is); (case k => k_is))
    (case dQ13 => refine' Sim.row_mk ?a ?l ?c ?k; (case a => k_is); (case l => k_is); (case c => k_is); (case k => k_is))
    (case dQ14 => refine' Sim.row_mk ?a ?l ?c ?k; (case a => k_is); (case l => k_is); (case c => k_is); (case k => k_is))
    (case dQ15 => refine' Sim.row_mk ?a ?l ?c ?k; (case a => k_is); (case l => k_is); (case c => k_is); (case k => k_is))
    (case dQ16 => refine' Sim.row_mk ?a ?l ?c ?k; (case a => k_is); (case l => k_is); (case c => k_is); (case k => k_is))
    (case dQ17 => refine' Sim.row_mk ?a ?l ?c ?k; (case a => k_is); (case l => k_is); (case c => k_is); (case k => k_is))
    (case dQ18 => refine' Sim.row_mk ?a ?l ?c ?k; (case a => k_is); (case l => k_is); (case c => k_is); (case k => k_is))
    (case dQ19 => refine' Sim.row_mk ?a ?l ?c ?k; (case a => k_is); (case l => k_is); (case c => k_is); (case k => k_is))
    (case dQ20 => refine' Sim.row_mk ?a ?l ?c ?k; (case a => k_is); (case l => k_is); (case c => k_is); (case k => k_is))
    (case dQ21 => refine' Sim.row_mk ?a ?l ?c ?k; (case a => k_is); (case l => k_is); (case c => k_is); (case k => k_is))
    (case dQ22 => refine' Sim.row_mk ?a ?l ?c ?k; (case a => k_is); (case l => k_is); (case c => k_is); (case k => k_is))
    (case dQ23 => refine' Sim.row_mk ?a ?l ?c ?k; (case a => k_is); (case l => k_is); (case c => k_is); (case k => k_is))
    (case dQ24 => refine' Sim.row_mk ?a ?l ?c ?k; (case a => k_is); (case l => k_is); (case c => k_is); (case k => k_is))
    (case dQ25 => refine' Sim.row_mk ?a ?l ?c ?k; (case a => k_is); (case l => k_is); (case c => k_is); (case k => k_is))
    (case dQ26 => refine' Sim.row_mk ?a ?l ?c ?k; (case a => k_is); (case l => k_is); (case c => k_is); (case k => k_is))
    (case dQ27 => refine' Sim.row_mk ?a ?l ?c ?k; (case a => k_is); (case l => k_is); (case c => k_is); (case k => k_is))
    (case dQ28 => refine' Sim.row_mk ?a ?l ?c ?k; (case a => k_is); (case l => k_is); (case c => k_is); (case k => k_is))
    (case dQ29 => refine' Sim.row_mk ?a ?l ?c ?k; (case a => k_is); (case l => k_is); (case c => k_is); (case k => k_is))
    (case dQ30 => refine' Sim.row_mk ?a ?l ?c ?k; (case a => k_is); (case l => k_is); (case c => k_is); (case k => k_is))
    (case dQ31 => refine' Sim.row_mk ?a ?l ?c ?k; (case a => k_is); (case l => k_is); (case c => k_is); (case k => k_is))
    (case dQ32 => refine' Sim.row_mk ?a ?l ?c ?k; (case a => k_is); (case l => k_is); (case c => k_is); (case k => k_is))
    (case bQ0 => k_is)
    (case bQ1 => k_is)
    (case bQ2 => k_is)
    (case bQ3 => k_is)
    (case bQ4 => k_is)
    (case bQ5 => k_is)
    (case bQ6 => k_is)
    (case bQ7 => k_is)
    (case bQ8 => k_is)
    (case bQ9 => k_is)
    (case bQ10 => k_is)
    (case bQ11 => k_is)
    (case bQ12 => k_is)
    (case bQ13 => k_is)
    (case bQ14 => k_is)
    (case gQ0 => refine' Sim.strs_row ["home", "note", "walks"] ?a ?b ?c ?d ?e; (case a => k_is); (case b => k_is); (case c => exact (.cons ⟨_, rfl⟩ (.cons ⟨_, rfl⟩ (.cons ⟨_, rfl⟩ .nil)))); (case d => decide); (case e => decide +kernel))
    (case gQ1 => refine' Sim.strs_row ["any", "home"] ?a ?b ?c ?d ?e; (case a => k_is); (case b => k_is); (case c => exact (.cons ⟨_, rfl⟩ (.cons ⟨_, rfl⟩ .nil))); (case d => decide); (case e => decide +kernel))
    (case gQ2 => refine' Sim.strs_row ["always", "low", "never"] ?a ?b ?c ?d ?e; (case a => k_is); (case b => k_is); (case c => exact (.cons ⟨_, rfl⟩ (.cons ⟨_, rfl⟩ (.cons ⟨_, rfl⟩ .nil)))); (case d => decide); (case e => decide +kernel))
    (case gQ3 => refine' Sim.strs_row ["hook", "keeps", "morning"] ?a ?b ?c ?d ?e; (case a => k_is); (case b => k_is); (case c => exact (.cons ⟨_, rfl⟩ (.cons ⟨_, rfl⟩ (.cons ⟨_, rfl⟩ .nil)))); (case d => decide); (case e => decide +kernel))
    (case gQ4 => refine' Sim.int_mk ?a; (case a => k_is))
    (case eQ0 => refine' Sim.err_mk ?a ?b ?c ?d ?e; (case a => k_is); (case b => k_is); (case c => k_exc); (case d => k_is); (case e => k_is))
    (case eQ1 => refine' Sim.err_mk ?a ?b ?c ?d ?e; (case a => k_is); (case b => k_is); (case c => k_exc); (case d => k_is); (case e => k_is))
    (case xQ0_0 => refine' Sim.exm_mk ?a ?b ?c; (case a => k_is); (case b => k_is); (case c => kts_exm))
    (case xQ0_1 => refine' Sim.exm_mk ?a ?b ?c; (case a => k_is); (case b => k_is); (case c => kts_exm))
    (case xQ1_0 => refine' Sim.exm_mk ?a ?b ?c; (case a => k_is); (case b => k_is); (case c => kts_exm))
    (case xQ1_1 => refine' Sim.exm_mk ?a ?b ?c; (case a => k_is); (case b => k_is); (case c => kts_exm))
