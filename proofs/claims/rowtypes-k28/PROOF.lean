import PyProof.Rows.All
import Wide.All
import OpenK.AllK
import Wide.FinOn
import HandS.ForMost
import HandS.Exc
import HandS.ExcOwn
import HandS.WordsExc
import HandS.TryOnly
import HandS.Lambda
import HandS.TupAny
import HandS.Deep
import HandS.Flow
import HandS.Conv
import HandS.Iter
import HandS.Comp
import HandS.Defaults
import HandS.IsInst
import HandS.WordsDict
import HandS.More
import HandS.Small
import PyProof.Rows.ReprR
import HandS.EndTab
import HandS.Words
import HandS.HeadHook4
import HandS.Head2
import HandS.SortKw
import KE.SortKeyHeap
import HandS.NoneIn
import HandS.Style
import KE.SortData
import PySem.Challenge.RW_rowtypes_k28_substitutions
set_option Elab.async false
set_option linter.all false
set_option maxRecDepth 100000
set_option maxHeartbeats 4000000
/-! DL: values as trees, a store of mutable objects, what stands for them in the abstract heap. -/
namespace DL
open PySem PySem.Spec PyProof.Rows L2 LamX

/-- a value: tuples are trees; lv, dv: a list, a dict that nothing changes any more; obj: a mutable object by its number in the store -/
inductive D where
  | non | bl (b : Bool) | int (i : Int) | str (x : Str) | tup (ds : List D) | ktup (ds : List D) | lv (ds : List D) | kl (ds : List D) | dv (ks vs : List D) | obj (i : Nat) | ty (n : String) | glb (x : Str)
  deriving Inhabited

inductive MO where
  | lst (ds : List D)
  | dic (kvs : List (Key × D))
  | dit (kvs : List (List Key × D))
  | lck (kvs : List (Key × D))
  | ins (c : Str) (fs : List (Str × D))
  deriving Inhabited
abbrev Sto := List MO

def kD : Key → D
  | .inl i => .int i
  | .inr x => .str x

/-- where the module's defs and classes stand; tb: the tables of code objects, and the names of what they tell -/
structure CF where
  g : Str → Option Addr
  tb : List (Addr × Str)
instance : CoeFun CF (fun _ => Str → Option Addr) := ⟨CF.g⟩
/-- rv: lists that are being made, which nothing may name -/
structure CA where
  f : CF
  rv : List Addr
instance : CoeFun CA (fun _ => Str → Option Addr) := ⟨fun c => c.f.g⟩
theorem tabs_ext {T : List (Addr × Str)} {H H' : Hp} (e : ∀ b o, H b = some o → H' b = some o) (t : Tabs T H) : Tabs T H' := t.ext e
/-- what is written is neither a table nor a code object -/
def NoTab (u : HO) : Prop := (∀ ps, u ≠ .tbl ps) ∧ ∀ c q, u ≠ CodeO c q
theorem tabs_write {T : List (Addr × Str)} {H : Hp} {a : Addr} {u o : HO} (h : H a = some u) (n : NoTab u) (t : Tabs T H) : Tabs T (upd H a o) := fun p hp => by
  obtain ⟨ps, h1, h2, h3⟩ := t p hp
  refine ⟨ps, by rw [upd_ne (fun z => n.1 ps (by rw [z, h] at h1; exact Option.some.inj h1))]; exact h1, h2, fun pos cv hc => ?_⟩
  obtain ⟨c, e1, e2⟩ := h3 pos cv hc
  exact ⟨c, e1, by rw [upd_ne (fun z => n.2 c p.2 (Option.some.inj (h.symm.trans ((congrArg H z).symm.trans e2))))]; exact e2⟩
section
variable (K : PySem.W.Frag) (ca : CA) (ρ : Nat → Addr) (n : Nat) (H : Hp)
/-- a list that stays: tracked and no object of the store -/
def LvAt (a : Addr) (xs : List V) : Prop := H a = some (.lst xs) ∧ (∀ i, i < n → ρ i ≠ a) ∧ a ∉ ca.rv
/-- .. frozen, or the module's -/
def KlAt (a : Addr) (xs : List V) : Prop :=
  (∃ o, H a = some (.frz o (.lst xs))) ∨
    ∃ (o : Obj) (its : Array Value) (m : Nat), K.lookup a = some o ∧ o.cls = .type "list" ∧ o.dict = none ∧ o.data = .seq its m ∧ its.size ≤ sizeLine ∧ Vals xs its.toList
/-- a tuple of the module's -/
def KTup (a : Addr) (xs : List V) : Prop := ∃ (o : Obj) (its : Array Value) (m : Nat), K.lookup a = some o ∧ o.cls = .type "tuple" ∧ o.data = .seq its m ∧ its.size ≤ sizeLine ∧ Vals xs its.toList
/-- a dict that stays -/
def DvAt (a : Addr) (kvs : List (Key × V)) : Prop := (H a = some (.dK kvs) ∨ ∃ o, H a = some (.frz o (.dK kvs))) ∧ ∀ i, i < n → ρ i ≠ a
mutual
def Rep : D → V → Prop
  | .non, v => v = .non
  | .bl b, v => v = .bl b
  | .int i, v => v = .int i
  | .str x, v => v = .str x
  | .tup ds, v => ∃ a xs, v = .ref a ∧ H a = some (.tup xs) ∧ Reps ds xs
  | .ktup ds, v => ∃ a xs, v = .ref a ∧ KTup K a xs ∧ Reps ds xs
  | .lv ds, v => ∃ a xs, v = .ref a ∧ LvAt ca ρ n H a xs ∧ Reps ds xs
  | .kl ds, v => ∃ a xs, v = .ref a ∧ KlAt K H a xs ∧ Reps ds xs
  | .dv ks vs, v => ∃ a kvs, v = .ref a ∧ DvAt ρ n H a kvs ∧ ks = kvs.map (fun p => kD p.1) ∧ Reps vs (kvs.map (·.2))
  | .obj i, v => i < n ∧ v = .ref (ρ i)
  | .ty s, v => v = .ty s
  | .glb x, v => ∃ a, ca x = some a ∧ v = .ref a
def Reps : List D → List V → Prop
  | [], vs => vs = []
  | d :: ds, vs => ∃ v r, vs = v :: r ∧ Rep d v ∧ Reps ds r
end
/-- the values of a dict, key by key -/
def RepKV {κ : Type} : List (κ × D) → List (κ × V) → Prop
  | [], vs => vs = []
  | d :: ds, vs => ∃ v r, vs = (d.1, v) :: r ∧ Rep K ca ρ n H d.2 v ∧ RepKV ds r
/-- what stands for an object of the store -/
def ORep : MO → Addr → Prop
  | .lst ds, a => ∃ xs, H a = some (.lst xs) ∧ Reps K ca ρ n H ds xs
  | .dic kvs, a => ∃ ws, H a = some (.dK ws) ∧ RepKV K ca ρ n H kvs ws
  | .dit kvs, a => ∃ ws, H a = some (.dT ws) ∧ RepKV K ca ρ n H kvs ws
  | .lck kvs, a => ∃ o ws, H a = some (.frz o (.dK ws)) ∧ RepKV K ca ρ n H kvs ws
  | .ins c fs, a => ∃ C dx ws, ca c = some C ∧ H a = some (.ins C dx ws) ∧ H dx = some (.own a) ∧ RepKV K ca ρ n H fs ws
end

/-- what is kept on the way -/
structure Ext (ρ : Nat → Addr) (n : Nat) (H : Hp) (ρ' : Nat → Addr) (n' : Nat) (H' : Hp) : Prop where
  le : n ≤ n'
  same : ∀ i, i < n → ρ' i = ρ i
  new : ∀ i, n ≤ i → i < n' → H (ρ' i) = none
  keep : ∀ a o, H a = some o → (∀ ps, o ≠ .tbl ps) → (∀ i, i < n → ρ i ≠ a) → H' a = some o
  tups : ∀ a xs, H a = some (.tup xs) → H' a = some (.tup xs)
  frzs : ∀ a o u, H a = some (.frz o u) → H' a = some (.frz o u)
  owns : ∀ a x, H a = some (.own x) → H' a = some (.own x)
  there : ∀ a o, H a = some o → ∃ o', H' a = some o'

theorem Ext.refl (ρ : Nat → Addr) (n : Nat) (H : Hp) : Ext ρ n H ρ n H :=
  ⟨Nat.le_refl _, fun _ _ => rfl, fun i h1 h2 => absurd h2 (Nat.not_lt.mpr h1), fun _ _ e _ _ => e, fun _ _ e => e, fun _ _ _ e => e, fun _ _ e => e, fun _ o e => ⟨o, e⟩⟩
theorem Ext.trans {ρ ρ1 ρ2 : Nat → Addr} {n n1 n2 : Nat} {H H1 H2 : Hp} (a : Ext ρ n H ρ1 n1 H1) (b : Ext ρ1 n1 H1 ρ2 n2 H2) : Ext ρ n H ρ2 n2 H2 where
  le := Nat.le_trans a.le b.le
  same := fun i h => (b.same i (Nat.lt_of_lt_of_le h a.le)).trans (a.same i h)
  new := fun i h1 h2 => by
    by_cases h : i < n1
    · rw [b.same i h]; exact a.new i h1 h
    · have q := b.new i (Nat.le_of_not_lt h) h2
      cases e : H (ρ2 i) with
      | none => rfl
      | some o =>
        obtain ⟨o', e'⟩ := a.there _ _ e
        rw [e'] at q; cases q
  keep := fun c o e nt hn => by
    refine b.keep c o (a.keep c o e nt hn) nt fun i hi => ?_
    by_cases h : i < n
    · rw [a.same i h]; exact hn i h
    · intro q
      have z := a.new i (Nat.le_of_not_lt h) hi
      rw [q, e] at z; cases z
  tups := fun c xs e => b.tups c xs (a.tups c xs e)
  frzs := fun c o u e => b.frzs c o u (a.frzs c o u e)
  owns := fun c x e => b.owns c x (a.owns c x e)
  there := fun c o e => let ⟨o', e'⟩ := a.there c o e; b.there c o' e'

section
variable {K : PySem.W.Frag} {ca ca' : CA} {ρ ρ' : Nat → Addr} {n n' : Nat} {H H' : Hp}
theorem Ext.off (x : Ext ρ n H ρ' n' H') {a : Addr} {o : HO} (e : H a = some o) (hn : ∀ i, i < n → ρ i ≠ a) : ∀ i, i < n' → ρ' i ≠ a := fun i hi q => by
  by_cases h : i < n
  · rw [x.same i h] at q; exact hn i h q
  · have z := x.new i (Nat.le_of_not_lt h) hi
    rw [q, e] at z; cases z
theorem Ext.lst (x : Ext ρ n H ρ' n' H') {a : Addr} {xs : List V} (h : LvAt ca ρ n H a xs) : LvAt ca ρ' n' H' a xs := ⟨x.keep a _ h.1 (fun _ => nofun) h.2.1, x.off h.1 h.2.1, h.2.2⟩
theorem Ext.kl (x : Ext ρ n H ρ' n' H') {a : Addr} {xs : List V} (h : KlAt K H a xs) : KlAt K H' a xs := by
  rcases h with ⟨o, e⟩ | h
  · exact .inl ⟨o, x.frzs a o _ e⟩
  · exact .inr h
theorem Ext.dv (x : Ext ρ n H ρ' n' H') {a : Addr} {kvs : List (Key × V)} (h : DvAt ρ n H a kvs) : DvAt ρ' n' H' a kvs := by
  obtain ⟨h, hn⟩ := h
  rcases h with e | ⟨o, e⟩
  · exact ⟨.inl (x.keep a _ e (fun _ => nofun) hn), x.off e hn⟩
  · exact ⟨.inr ⟨o, x.keep a _ e (fun _ => nofun) hn⟩, x.off e hn⟩
/-- what a value needs to stand on -/
structure RK (K : PySem.W.Frag) (ca : CA) (ρ : Nat → Addr) (n : Nat) (H : Hp) (ca' : CA) (ρ' : Nat → Addr) (n' : Nat) (H' : Hp) : Prop where
  f : ca'.f = ca.f
  le : n ≤ n'
  same : ∀ i, i < n → ρ' i = ρ i
  tup : ∀ a xs, H a = some (.tup xs) → H' a = some (.tup xs)
  lst : ∀ a xs, LvAt ca ρ n H a xs → LvAt ca' ρ' n' H' a xs
  kl : ∀ a xs, KlAt K H a xs → KlAt K H' a xs
  dv : ∀ a kvs, DvAt ρ n H a kvs → DvAt ρ' n' H' a kvs
theorem Ext.rk (x : Ext ρ n H ρ' n' H') : RK K ca ρ n H ca ρ' n' H' := ⟨rfl, x.le, x.same, x.tups, fun _ _ => x.lst, fun _ _ => x.kl, fun _ _ => x.dv⟩
mutual
theorem Rep.rk (x : RK K ca ρ n H ca' ρ' n' H') : ∀ {d : D} {v : V}, Rep K ca ρ n H d v → Rep K ca' ρ' n' H' d v
  | .non, v, h => by simpa only [Rep] using h
  | .bl b, v, h => by simpa only [Rep] using h
  | .int i, v, h => by simpa only [Rep] using h
  | .str s, v, h => by simpa only [Rep] using h
  | .tup ds, v, h => by
    simp only [Rep] at h ⊢
    obtain ⟨a, xs, e, q, r⟩ := h
    exact ⟨a, xs, e, x.tup a xs q, Reps.rk x r⟩
  | .ktup ds, v, h => by
    simp only [Rep] at h ⊢
    obtain ⟨a, xs, e, q, r⟩ := h
    exact ⟨a, xs, e, q, Reps.rk x r⟩
  | .lv ds, v, h => by
    simp only [Rep] at h ⊢
    obtain ⟨a, xs, e, q, r⟩ := h
    exact ⟨a, xs, e, x.lst a xs q, Reps.rk x r⟩
  | .kl ds, v, h => by
    simp only [Rep] at h ⊢
    obtain ⟨a, xs, e, q, r⟩ := h
    exact ⟨a, xs, e, x.kl a xs q, Reps.rk x r⟩
  | .dv ks vs, v, h => by
    simp only [Rep] at h ⊢
    obtain ⟨a, kvs, e, q, hk, r⟩ := h
    exact ⟨a, kvs, e, x.dv a kvs q, hk, Reps.rk x r⟩
  | .obj i, v, h => by
    simp only [Rep] at h ⊢
    exact ⟨Nat.lt_of_lt_of_le h.1 x.le, by rw [x.same i h.1]; exact h.2⟩
  | .ty s, v, h => by simpa only [Rep] using h
  | .glb s, v, h => by simp only [Rep] at h ⊢; rw [x.f]; exact h
theorem Reps.rk (x : RK K ca ρ n H ca' ρ' n' H') : ∀ {ds : List D} {vs : List V}, Reps K ca ρ n H ds vs → Reps K ca' ρ' n' H' ds vs
  | [], vs, h => by simpa only [Reps] using h
  | d :: ds, vs, h => by
    simp only [Reps] at h ⊢
    obtain ⟨v, r, e, h1, h2⟩ := h
    exact ⟨v, r, e, Rep.rk x h1, Reps.rk x h2⟩
end
theorem RepKV.rk (x : RK K ca ρ n H ca' ρ' n' H') {κ : Type} : ∀ {ds : List (κ × D)} {vs : List (κ × V)}, RepKV K ca ρ n H ds vs → RepKV K ca' ρ' n' H' ds vs
  | [], vs, h => by simpa only [RepKV] using h
  | d :: ds, vs, h => by
    simp only [RepKV] at h ⊢
    obtain ⟨v, r, e, h1, h2⟩ := h
    exact ⟨v, r, e, h1.rk x, RepKV.rk x h2⟩

theorem Rep.ext (x : Ext ρ n H ρ' n' H') {d : D} {v : V} (h : Rep K ca ρ n H d v) : Rep K ca ρ' n' H' d v := h.rk x.rk
theorem Reps.ext (x : Ext ρ n H ρ' n' H') {d : List D} {v : List V} (h : Reps K ca ρ n H d v) : Reps K ca ρ' n' H' d v := h.rk x.rk
theorem RepKV.ext (x : Ext ρ n H ρ' n' H') {κ : Type} {d : List (κ × D)} {v : List (κ × V)} (h : RepKV K ca ρ n H d v) : RepKV K ca ρ' n' H' d v := h.rk x.rk

theorem Reps.length : ∀ {ds : List D} {vs : List V}, Reps K ca ρ n H ds vs → vs.length = ds.length
  | [], vs, h => by simp only [Reps] at h; simp [h]
  | d :: ds, vs, h => by
    simp only [Reps] at h
    obtain ⟨v, r, e, _, h2⟩ := h
    simp [e, Reps.length h2]
theorem Reps.nil : Reps K ca ρ n H [] [] := by simp only [Reps]
theorem Reps.cons {d : D} {ds : List D} {v : V} {vs : List V} (h : Rep K ca ρ n H d v) (t : Reps K ca ρ n H ds vs) : Reps K ca ρ n H (d :: ds) (v :: vs) := by
  simp only [Reps]; exact ⟨v, vs, rfl, h, t⟩
theorem Reps.append : ∀ {ds es : List D} {vs us : List V}, Reps K ca ρ n H ds vs → Reps K ca ρ n H es us → Reps K ca ρ n H (ds ++ es) (vs ++ us)
  | [], es, vs, us, h, t => by simp only [Reps] at h; subst h; exact t
  | d :: ds, es, vs, us, h, t => by
    simp only [Reps] at h
    obtain ⟨v, r, rfl, h1, h2⟩ := h
    exact Reps.cons h1 (Reps.append h2 t)
theorem Reps.get : ∀ {ds : List D} {vs : List V} {i : Nat} {d : D}, Reps K ca ρ n H ds vs → ds[i]? = some d → ∃ v, vs[i]? = some v ∧ Rep K ca ρ n H d v
  | [], vs, i, d, h, e => by simp at e
  | d' :: ds, vs, 0, d, h, e => by
    simp only [Reps] at h
    obtain ⟨v, r, rfl, h1, _⟩ := h
    simp at e; subst e
    exact ⟨v, rfl, h1⟩
  | d' :: ds, vs, i + 1, d, h, e => by
    simp only [Reps] at h
    obtain ⟨v, r, rfl, _, h2⟩ := h
    obtain ⟨u, e', q⟩ := Reps.get (i := i) h2 (by simpa using e)
    exact ⟨u, by simpa using e', q⟩
theorem Reps.back : ∀ {ds : List D} {vs : List V} {i : Nat} {v : V}, Reps K ca ρ n H ds vs → vs[i]? = some v → ∃ d, ds[i]? = some d ∧ Rep K ca ρ n H d v
  | [], vs, i, v, h, e => by simp only [Reps] at h; subst h; simp at e
  | d' :: ds, vs, 0, v, h, e => by
    simp only [Reps] at h
    obtain ⟨v', r, rfl, h1, _⟩ := h
    simp at e; subst e
    exact ⟨d', rfl, h1⟩
  | d' :: ds, vs, i + 1, v, h, e => by
    simp only [Reps] at h
    obtain ⟨v', r, rfl, _, h2⟩ := h
    obtain ⟨u, e', q⟩ := Reps.back (i := i) h2 (by simpa using e)
    exact ⟨u, by simpa using e', q⟩
theorem Reps.take : ∀ {ds : List D} {vs : List V} (k : Nat), Reps K ca ρ n H ds vs → Reps K ca ρ n H (ds.take k) (vs.take k)
  | ds, vs, 0, h => by simp only [List.take_zero]; exact Reps.nil
  | [], vs, k + 1, h => by simp only [Reps] at h; subst h; simp only [List.take_nil]; exact Reps.nil
  | d :: ds, vs, k + 1, h => by
    simp only [Reps] at h
    obtain ⟨v, r, rfl, h1, h2⟩ := h
    simp only [List.take_succ_cons]
    exact Reps.cons h1 (Reps.take k h2)
theorem Reps.drop : ∀ {ds : List D} {vs : List V} (k : Nat), Reps K ca ρ n H ds vs → Reps K ca ρ n H (ds.drop k) (vs.drop k)
  | ds, vs, 0, h => by simpa using h
  | [], vs, k + 1, h => by simp only [Reps] at h; subst h; simp only [List.drop_nil]; exact Reps.nil
  | d :: ds, vs, k + 1, h => by
    simp only [Reps] at h
    obtain ⟨v, r, rfl, h1, h2⟩ := h
    simp only [List.drop_succ_cons]
    exact Reps.drop k h2
theorem Reps.set {d : D} {v : V} (hd : Rep K ca ρ n H d v) : ∀ {ds : List D} {vs : List V} (k : Nat), Reps K ca ρ n H ds vs → Reps K ca ρ n H (ds.set k d) (vs.set k v)
  | [], vs, k, h => by simp only [Reps] at h; subst h; simp only [List.set_nil]; exact Reps.nil
  | d' :: ds, vs, 0, h => by
    simp only [Reps] at h
    obtain ⟨v', r, rfl, h1, h2⟩ := h
    simp only [List.set_cons_zero]
    exact Reps.cons hd h2
  | d' :: ds, vs, k + 1, h => by
    simp only [Reps] at h
    obtain ⟨v', r, rfl, h1, h2⟩ := h
    simp only [List.set_cons_succ]
    exact Reps.cons h1 (Reps.set hd k h2)
theorem Reps.reverse : ∀ {ds : List D} {vs : List V}, Reps K ca ρ n H ds vs → Reps K ca ρ n H ds.reverse vs.reverse
  | [], vs, h => by simp only [Reps] at h; subst h; exact Reps.nil
  | d :: ds, vs, h => by
    simp only [Reps] at h
    obtain ⟨v, r, rfl, h1, h2⟩ := h
    simp only [List.reverse_cons]
    exact (Reps.reverse h2).append (Reps.cons h1 Reps.nil)
theorem KTup.seq {a : Addr} {xs : List V} (h : KTup K a xs) : SqT K H a xs := .inr h
theorem DvAt.rd {a : Addr} {kvs : List (Key × V)} (h : DvAt ρ n H a kvs) : Rd H a (.dK kvs) := by
  exact h.1
theorem LvAt.seq {a : Addr} {xs : List V} (h : LvAt ca ρ n H a xs) : SqL K H a xs := .inl (.inl h.1)
theorem KlAt.seq {a : Addr} {xs : List V} (h : KlAt K H a xs) : SqL K H a xs := by
  rcases h with ⟨o, e⟩ | h
  · exact .inl (.inr ⟨o, e⟩)
  · exact .inr h
end

/-- the store stands in the heap -/
structure SRep (K : PySem.W.Frag) (ca : CA) (ρ : Nat → Addr) (H : Hp) (st : Sto) : Prop where
  at_ : ∀ i o, st[i]? = some o → ORep K ca ρ st.length H o (ρ i)
  inj : ∀ i j, i < st.length → j < st.length → ρ i = ρ j → i = j
  res : ∀ a, a ∈ ca.rv → (∃ xs, H a = some (.lst xs)) ∧ ∀ i, i < st.length → ρ i ≠ a
  tab : Tabs ca.f.tb H
section
variable {K : PySem.W.Frag} {ca : CA} {ρ ρ' : Nat → Addr} {n n' : Nat} {H H' : Hp} {st : Sto}
/-- it may be written -/
def MO.open_ : MO → Bool
  | .lck _ => false
  | _ => true
theorem ORep.there {o : MO} {a : Addr} (h : ORep K ca ρ n H o a) : ∃ u, H a = some u ∧ (o.open_ = true → Mut (some u)) := by
  cases o with
  | lst ds => obtain ⟨xs, e, _⟩ := h; exact ⟨_, e, fun _ => True.intro⟩
  | dic ks => obtain ⟨xs, e, _⟩ := h; exact ⟨_, e, fun _ => True.intro⟩
  | dit ks => obtain ⟨xs, e, _⟩ := h; exact ⟨_, e, fun _ => True.intro⟩
  | lck ks => obtain ⟨o, xs, e, _⟩ := h; exact ⟨_, e, (fun q => nomatch q)⟩
  | ins c fs => obtain ⟨C, dx, xs, _, e, _⟩ := h; exact ⟨_, e, fun _ => True.intro⟩
theorem noTab_open {o : MO} {a : Addr} {u : HO} (h : ORep K ca ρ n H o a) (ho : o.open_ = true) (e : H a = some u) : NoTab u := by
  cases o with
  | lst ds => obtain ⟨xs, e', _⟩ := h; rw [e] at e'; cases e'; exact ⟨fun _ => nofun, fun c q z => by unfold CodeO at z; cases z⟩
  | dic ks => obtain ⟨xs, e', _⟩ := h; rw [e] at e'; cases e'; exact ⟨fun _ => nofun, fun c q z => by unfold CodeO at z; cases z⟩
  | dit ks => obtain ⟨xs, e', _⟩ := h; rw [e] at e'; cases e'; exact ⟨fun _ => nofun, fun c q z => by unfold CodeO at z; cases z⟩
  | lck ks => cases ho
  | ins c fs => obtain ⟨C, dx, xs, _, e', _⟩ := h; rw [e] at e'; cases e'; exact ⟨fun _ => nofun, fun c q z => by unfold CodeO at z; cases z⟩
theorem SRep.there (s : SRep K ca ρ H st) {i : Nat} (h : i < st.length) : ∃ u, H (ρ i) = some u ∧ (st[i].open_ = true → Mut (some u)) :=
  (s.at_ i st[i] (List.getElem?_eq_getElem h)).there
theorem SRep.ne_new (s : SRep K ca ρ H st) {p : Addr} (hp : H p = none) : ∀ i, i < st.length → ρ i ≠ p := fun i h q => by
  obtain ⟨u, e, _⟩ := s.there h
  rw [q, hp] at e; cases e
/-- a new object beside the store -/
theorem Ext.upd_new (s : SRep K ca ρ H st) {p : Addr} {o : HO} (hp : H p = none) : Ext ρ st.length H ρ st.length (upd H p o) where
  le := Nat.le_refl _
  same := fun _ _ => rfl
  new := fun i h1 h2 => absurd h2 (Nat.not_lt.mpr h1)
  keep := fun a u e _ _ => by rw [upd_ne (ne_of_none e hp)]; exact e
  tups := fun a u e => by rw [upd_ne (ne_of_none e hp)]; exact e
  frzs := fun a u w e => by rw [upd_ne (ne_of_none e hp)]; exact e
  owns := fun a u e => by rw [upd_ne (ne_of_none e hp)]; exact e
  there := fun a u e => ⟨u, by rw [upd_ne (ne_of_none e hp)]; exact e⟩
theorem SRep.res_ext {st' : Sto} (s : SRep K ca ρ H st) (x : Ext ρ st.length H ρ' st'.length H') : ∀ a, a ∈ ca.rv → (∃ xs, H' a = some (.lst xs)) ∧ ∀ i, i < st'.length → ρ' i ≠ a := fun a ha =>
  let ⟨⟨xs, e⟩, hn⟩ := s.res a ha
  ⟨⟨xs, x.keep a _ e (fun _ => nofun) hn⟩, x.off e hn⟩
theorem SRep.not_res (s : SRep K ca ρ H st) {p : Addr} (hp : H p = none) : p ∉ ca.rv := fun h => by
  obtain ⟨⟨xs, e⟩, _⟩ := s.res p h
  rw [hp] at e; cases e
theorem ORep.ext (x : Ext ρ n H ρ' n' H') {o : MO} {a : Addr} (h : ORep K ca ρ n H o a) (ha : ∀ u, H a = some u → H' a = some u) : ORep K ca ρ' n' H' o a := by
  cases o with
  | lst ds => obtain ⟨xs, e, r⟩ := h; exact ⟨xs, ha _ e, r.ext x⟩
  | dic ks => obtain ⟨xs, e, r⟩ := h; exact ⟨xs, ha _ e, r.ext x⟩
  | dit ks => obtain ⟨xs, e, r⟩ := h; exact ⟨xs, ha _ e, r.ext x⟩
  | lck ks => obtain ⟨o, xs, e, r⟩ := h; exact ⟨o, xs, ha _ e, r.ext x⟩
  | ins c fs => obtain ⟨C, dx, xs, c1, e, d, r⟩ := h; exact ⟨C, dx, xs, c1, ha _ e, x.owns _ _ d, r.ext x⟩
/-- the store as it is, in a heap that has grown -/
theorem SRep.grow (s : SRep K ca ρ H st) (x : Ext ρ st.length H ρ st.length H') (k : ∀ i, i < st.length → ∀ u, H (ρ i) = some u → H' (ρ i) = some u) (t : Tabs ca.f.tb H') : SRep K ca ρ H' st :=
  ⟨fun i o e => (s.at_ i o e).ext x (k i (List.getElem?_eq_some_iff.mp e).1), s.inj, s.res_ext (st' := st) x, t⟩
theorem SRep.upd_new (s : SRep K ca ρ H st) {p : Addr} {o : HO} (hp : H p = none) : SRep K ca ρ (upd H p o) st :=
  s.grow (Ext.upd_new s hp) (fun i h u e => by rw [upd_ne (s.ne_new hp i h)]; exact e) (tabs_ext (fun b o e => by rw [upd_ne (ne_of_none e hp)]; exact e) s.tab)
/-- ρ with one more -/
def more (ρ : Nat → Addr) (n : Nat) (p : Addr) : Nat → Addr := fun i => if i = n then p else ρ i
theorem more_same {ρ : Nat → Addr} {n : Nat} {p : Addr} : more ρ n p n = p := if_pos rfl
theorem more_lt {ρ : Nat → Addr} {n : Nat} {p : Addr} {i : Nat} (h : i < n) : more ρ n p i = ρ i := if_neg (Nat.ne_of_lt h)
/-- a new object of the store, at p, in a heap H' that has kept all and has it -/
theorem Ext.more (s : SRep K ca ρ H st) {p : Addr} (hp : H p = none) (k : ∀ a u, H a = some u → H' a = some u) : Ext ρ st.length H (more ρ st.length p) (st.length + 1) H' where
  le := Nat.le_succ _
  same := fun i h => more_lt h
  new := fun i h1 h2 => by
    have e : i = st.length := by omega
    subst e; rw [more_same]; exact hp
  keep := fun a u e _ _ => k a u e
  tups := fun a u e => k a _ e
  frzs := fun a u w e => k a _ e
  owns := fun a u e => k a _ e
  there := fun a u e => ⟨u, k a u e⟩
theorem SRep.more (s : SRep K ca ρ H st) {p : Addr} {m : MO} (hp : H p = none) (k : ∀ a u, H a = some u → H' a = some u) (hm : ORep K ca (more ρ st.length p) (st.length + 1) H' m p) : SRep K ca (more ρ st.length p) H' (st ++ [m]) := by
  have x := Ext.more s hp k
  refine ⟨fun i o e => ?_, fun i j hi hj q => ?_, s.res_ext (st' := st ++ [m]) (by rw [List.length_append, List.length_singleton]; exact x), tabs_ext k s.tab⟩
  · rw [List.length_append, List.length_singleton]
    by_cases h : i < st.length
    · rw [List.getElem?_append_left h] at e
      have r := (s.at_ i o e).ext x (k _)
      rw [more_lt h]; exact r
    · have hi : i = st.length := by
        have := (List.getElem?_eq_some_iff.mp e).1
        simp at this; omega
      subst hi
      simp at e; subst e
      rw [more_same]; exact hm
  · simp at hi hj
    by_cases h : i < st.length
    · by_cases h' : j < st.length
      · rw [more_lt h, more_lt h'] at q; exact s.inj i j h h' q
      · have hj : j = st.length := by omega
        subst hj
        rw [more_lt h, more_same] at q
        exact absurd q (s.ne_new hp i h)
    · have hi : i = st.length := by omega
      subst hi
      by_cases h' : j < st.length
      · rw [more_lt h', more_same] at q
        exact absurd q.symm (s.ne_new hp j h')
      · omega
/-- an object of the store is changed -/
theorem Ext.write (s : SRep K ca ρ H st) {i : Nat} {o : HO} {m0 : MO} (hi : st[i]? = some m0) (hm : m0.open_ = true) : Ext ρ st.length H ρ st.length (upd H (ρ i) o) where
  le := Nat.le_refl _
  same := fun _ _ => rfl
  new := fun i h1 h2 => absurd h2 (Nat.not_lt.mpr h1)
  keep := fun a u e _ hn => by rw [upd_ne (Ne.symm (hn i (List.getElem?_eq_some_iff.mp hi).1))]; exact e
  tups := fun a u e => by
    obtain ⟨v, e', m⟩ := (s.at_ i _ hi).there
    rw [upd_ne (ne_of e e' (fun q => by subst q; exact m hm))]; exact e
  frzs := fun a u w e => by
    obtain ⟨v, e', m⟩ := (s.at_ i _ hi).there
    rw [upd_ne (ne_of e e' (fun q => by subst q; exact m hm))]; exact e
  owns := fun a u e => by
    obtain ⟨v, e', m⟩ := (s.at_ i _ hi).there
    rw [upd_ne (ne_of e e' (fun q => by subst q; exact m hm))]; exact e
  there := fun a u e => by
    by_cases h : a = ρ i
    · subst h; exact ⟨o, upd_same⟩
    · exact ⟨u, by rw [upd_ne h]; exact e⟩
theorem SRep.write (s : SRep K ca ρ H st) {i : Nat} {o : HO} {m m0 : MO} (h0 : st[i]? = some m0) (ho : m0.open_ = true) (hm : ORep K ca ρ st.length (upd H (ρ i) o) m (ρ i)) : SRep K ca ρ (upd H (ρ i) o) (st.set i m) := by
  have x : Ext ρ st.length H ρ st.length (upd H (ρ i) o) := Ext.write s h0 ho
  have hi := (List.getElem?_eq_some_iff.mp h0).1
  refine ⟨fun j q e => ?_, fun a b ha hb q => s.inj a b (by simpa using ha) (by simpa using hb) q, s.res_ext (st' := st.set i m) (by rw [List.length_set]; exact x), (s.at_ i _ h0).there.elim fun u hu => tabs_write hu.1 (noTab_open (s.at_ i _ h0) ho hu.1) s.tab⟩
  rw [List.length_set]
  by_cases h : j = i
  · subst h
    rw [List.getElem?_set_self hi] at e; cases e
    exact hm
  · rw [List.getElem?_set_ne (Ne.symm h)] at e
    have hj := (List.getElem?_eq_some_iff.mp e).1
    exact (s.at_ j q e).ext x fun u hu => by rw [upd_ne (fun z => h (s.inj j i hj hi z))]; exact hu
end
end DL
set_option Elab.async false
set_option linter.all false
set_option maxRecDepth 100000
set_option maxHeartbeats 4000000
namespace DL
open PySem PySem.Spec PyProof.Rows L2

/-- the names' values -/
abbrev Ti := List (Option D)
/-- a result: a value, or an exception of one's own class with its fields; bad: not told -/
inductive R (α : Type) where
  | ok (a : α) (st : Sto)
  | ex (c : Str) (fs : List (Str × D)) (τ : Ti) (st : Sto)
  | bad
def R.bind {α β : Type} (r : R α) (k : α → Sto → R β) : R β :=
  match r with
  | .ok a st => k a st
  | .ex c fs τ st => .ex c fs τ st
  | .bad => .bad
theorem R.bind_assoc {α β γ : Type} (r : R α) (k : α → Sto → R β) (l : β → Sto → R γ) : (r.bind k).bind l = r.bind fun a st => (k a st).bind l := by
  cases r <;> rfl
/-- a statement's end -/
inductive Out where
  | nx (τ : Ti) | rt (d : D) | bk (τ : Ti) | ct (τ : Ti)
abbrev FE := Ti → Sto → R D
abbrev FA := Ti → Sto → R (List D)
abbrev FB := Ti → Sto → R Bool
abbrev FS := Ti → Sto → R Out

section
variable (K : PySem.W.Frag) (ca : CA)
def Slots (ρ : Nat → Addr) (n : Nat) (H : Hp) (τ : Ti) (σ : L2.St) : Prop := τ.length = σ.length ∧ ∀ (i : Nat) (d : D), τ[i]? = some (some d) → ∃ v, σ[i]? = some (some v) ∧ Rep K ca ρ n H d v
/-- an exception's own dict -/
def ExRep (ρ : Nat → Addr) (n : Nat) (H : Hp) (fs : List (Str × D)) (dx : Option Addr) : Prop :=
  fs = [] ∨ ∃ dd ws, dx = some dd ∧ H dd = some (.xd ws) ∧ RepKV K ca ρ n H fs ws
/-- what is wanted behind a result -/
def Post {α : Type} (W : WX) (ρ : Nat → Addr) (n : Nat) (H : Hp) (r : R α) (F : α → (Nat → Addr) → Sto → Hp → Prop) : Prop :=
  match r with
  | .ok a st => ∀ H' ρ', Ext ρ n H ρ' st.length H' → SRep K ca ρ' H' st → F a ρ' st H'
  | .ex c fs τ st => ∀ C σ dx H' ρ', ca c = some C → Ext ρ n H ρ' st.length H' → Slots K ca ρ' st.length H' τ σ → ExRep K ca ρ' st.length H' fs dx → SRep K ca ρ' H' st → W (.ref C) dx σ H'
  | .bad => False
def KD (Q : VK) : D → (Nat → Addr) → Sto → Hp → Prop := fun d ρ st H => ∀ v, Rep K ca ρ st.length H d v → Q v H
def KA (Q : List V → Hp → Prop) : List D → (Nat → Addr) → Sto → Hp → Prop := fun d ρ st H => ∀ v, Reps K ca ρ st.length H d v → Q v H
def KB (Q : Bool → Hp → Prop) : Bool → (Nat → Addr) → Sto → Hp → Prop := fun b _ _ H => Q b H
def KS (Dn : Ends) : Out → (Nat → Addr) → Sto → Hp → Prop := fun o ρ st H =>
  match o with
  | .nx τ => ∀ σ, Slots K ca ρ st.length H τ σ → Dn.nx σ H
  | .bk τ => ∀ σ, Slots K ca ρ st.length H τ σ → Dn.bk σ H
  | .ct τ => ∀ σ, Slots K ca ρ st.length H τ σ → Dn.ct σ H
  | .rt d => ∀ v, Rep K ca ρ st.length H d v → Dn.rt v H
/-- at slots σ and heap H stand τ and st, and behind f what is wanted -/
def At {α : Type} (W : WX) (f : Ti → Sto → R α) (σ : L2.St) (H : Hp) (F : α → (Nat → Addr) → Sto → Hp → Prop) : Prop :=
  ∃ ρ st τ, Slots K ca ρ st.length H τ σ ∧ SRep K ca ρ H st ∧ Post K ca W ρ st.length H (f τ st) F
def tD (W : WX) (f : FE) : TE := fun σ H Q => At K ca W f σ H (KD K ca Q)
def tDA (W : WX) (f : FA) : TA := fun σ H Q => At K ca W f σ H (KA K ca Q)
def tDB (W : WX) (f : FB) : TT := fun σ H Q => At K ca W f σ H (KB Q)
def tDS (W : WX) (f : FS) : TS := fun Dn σ H => At K ca W f σ H (KS K ca Dn)
end

section
variable {K : PySem.W.Frag} {ca : CA} {W : WX} {ρ ρ' : Nat → Addr} {n n' : Nat} {H H' : Hp} {st : Sto} {τ : Ti} {σ : L2.St} {α β : Type}
theorem Slots.ext (x : Ext ρ n H ρ' n' H') (h : Slots K ca ρ n H τ σ) : Slots K ca ρ' n' H' τ σ := ⟨h.1, fun i d e =>
  let ⟨v, e', r⟩ := h.2 i d e; ⟨v, e', r.ext x⟩⟩
theorem Slots.set (h : Slots K ca ρ n H τ σ) {d : D} {v : V} (r : Rep K ca ρ n H d v) (i : Nat) : Slots K ca ρ n H (τ.set i (some d)) (σ.set i (some v)) := by
  refine ⟨by simp [h.1], fun j e q => ?_⟩
  by_cases hj : j = i
  · subst hj
    have hl : j < τ.length := by
      have := (List.getElem?_eq_some_iff.mp q).1
      simpa using this
    rw [List.getElem?_set_self hl] at q
    cases q
    exact ⟨v, by rw [List.getElem?_set_self (by rw [← h.1]; exact hl)], r⟩
  · rw [List.getElem?_set_ne (Ne.symm hj)] at q
    obtain ⟨u, e', r'⟩ := h.2 j e q
    exact ⟨u, by rw [List.getElem?_set_ne (Ne.symm hj)]; exact e', r'⟩
theorem Post.pre {r : R α} {F : α → (Nat → Addr) → Sto → Hp → Prop} (x : Ext ρ n H ρ' n' H') (h : Post K ca W ρ n H r F) : Post K ca W ρ' n' H' r F := by
  cases r with
  | ok d st => exact fun H2 ρ2 y s => h H2 ρ2 (x.trans y) s
  | ex c fs τ st => exact fun C σ dx H2 ρ2 e y sl r s => h C σ dx H2 ρ2 e (x.trans y) sl r s
  | bad => exact h
theorem Post.mono {r : R α} {F G : α → (Nat → Addr) → Sto → Hp → Prop} (h : Post K ca W ρ n H r F) (i : ∀ a ρ' st H', Ext ρ n H ρ' st.length H' → SRep K ca ρ' H' st → F a ρ' st H' → G a ρ' st H') : Post K ca W ρ n H r G := by
  cases r with
  | ok d st => exact fun H2 ρ2 y s => i _ _ _ _ y s (h H2 ρ2 y s)
  | ex c fs τ st => exact h
  | bad => exact h
/-- the value stands already -/
theorem Post.here {a : α} {F : α → (Nat → Addr) → Sto → Hp → Prop} (h : Post K ca W ρ st.length H (.ok a st) F) (s : SRep K ca ρ H st) : F a ρ st H := h H ρ (Ext.refl _ _ _) s
theorem Post.bind {f : R α} {k : α → Sto → R β} {F : β → (Nat → Addr) → Sto → Hp → Prop} (h : Post K ca W ρ n H (f.bind k) F) :
    Post K ca W ρ n H f fun a ρ1 st1 H1 => Ext ρ n H ρ1 st1.length H1 ∧ SRep K ca ρ1 H1 st1 ∧ Post K ca W ρ1 st1.length H1 (k a st1) F := by
  cases f with
  | ok a st1 => exact fun H1 ρ1 x s => ⟨x, s, Post.pre x h⟩
  | ex c fs τ st => exact h
  | bad => exact h
/-- an expression is walked first; g: what stands then, what is left -/
theorem at_of {f : Ti → Sto → R α} {F : α → (Nat → Addr) → Sto → Hp → Prop} {G : β → (Nat → Addr) → Sto → Hp → Prop} {k : α → Sto → R β} (sl : Slots K ca ρ st.length H τ σ) (s : SRep K ca ρ H st) (h : Post K ca W ρ st.length H ((f τ st).bind k) G)
    (g : ∀ a ρ1 st1 H1, Ext ρ st.length H ρ1 st1.length H1 → Slots K ca ρ1 st1.length H1 τ σ → SRep K ca ρ1 H1 st1 → Post K ca W ρ1 st1.length H1 (k a st1) G → F a ρ1 st1 H1) : At K ca W f σ H F :=
  ⟨ρ, st, τ, sl, s, (Post.bind h).mono fun a ρ1 st1 H1 x s1 q => g a ρ1 st1 H1 x (sl.ext x) s1 q.2.2⟩
/-- .. with what it came to -/
theorem at_ofE {f : Ti → Sto → R α} {F : α → (Nat → Addr) → Sto → Hp → Prop} {G : β → (Nat → Addr) → Sto → Hp → Prop} {k : α → Sto → R β} (sl : Slots K ca ρ st.length H τ σ) (s : SRep K ca ρ H st) (h : Post K ca W ρ st.length H ((f τ st).bind k) G)
    (g : ∀ a ρ1 st1 H1, f τ st = .ok a st1 → Ext ρ st.length H ρ1 st1.length H1 → Slots K ca ρ1 st1.length H1 τ σ → SRep K ca ρ1 H1 st1 → Post K ca W ρ1 st1.length H1 (k a st1) G → F a ρ1 st1 H1) : At K ca W f σ H F := by
  refine ⟨ρ, st, τ, sl, s, ?_⟩
  cases e : f τ st with
  | bad => rw [e] at h; exact h
  | ex c fs τ' st' => rw [e] at h; exact h
  | ok a st1 =>
    rw [e] at h
    exact fun H1 ρ1 x s1 => g a ρ1 st1 H1 e x (sl.ext x) s1 (Post.pre x h)
end

/-! ### weaker readings -/
section
variable {X : Cx}
theorem pe_imp {e : Expr} {t t' : TE} (h : PE X e t) (i : ∀ σ H Q, t' σ H Q → t σ H Q) : PE X e t' := ⟨fun pins s σ H Q I q => h.run pins s σ H Q I (i σ H Q q)⟩
theorem pt_imp {e : Expr} {t t' : TT} (h : PT X e t) (i : ∀ σ H Q, t' σ H Q → t σ H Q) : PT X e t' := ⟨fun pins s σ H Q I q => h.run pins s σ H Q I (i σ H Q q)⟩
theorem pa_imp {e : List Expr} {t t' : TA} (h : PA X e t) (i : ∀ σ H Q, t' σ H Q → t σ H Q) : PA X e t' := ⟨fun pos pins s σ H Q I q => h.run pos pins s σ H Q I (i σ H Q q)⟩
theorem ps_imp {e : Stmt} {t t' : TS} (h : PS X e t) (i : ∀ Dn σ H, t' Dn σ H → t Dn σ H) : PS X e t' := ⟨fun pins s σ H Dn I q => h.run pins s σ H Dn I (i Dn σ H q)⟩
theorem pss_imp {e : List Stmt} {t t' : TS} (h : PSs X e t) (i : ∀ Dn σ H, t' Dn σ H → t Dn σ H) : PSs X e t' := ⟨fun pins s σ H Dn I q => h.run pins s σ H Dn I (i Dn σ H q)⟩
end

theorem pe_or {X : Cx} {e : Expr} {t t' : TE} (h : PE X e t) (h' : PE X e t') : PE X e (fun σ H Q => t σ H Q ∨ t' σ H Q) := ⟨fun pins s σ H Q I q => q.elim (h.run pins s σ H Q I) (h'.run pins s σ H Q I)⟩
/-! ### the judgements -/
section
variable (X : Cx) (ca : CA) (W : WX)
def JE (e : Expr) (f : FE) : Prop := PE X e (tD X.K ca W f)
def JA (es : List Expr) (f : FA) : Prop := PA X es (tDA X.K ca W f)
def JB (e : Expr) (f : FB) : Prop := PT X e (tDB X.K ca W f)
def JS (s : Stmt) (f : FS) : Prop := PS X s (tDS X.K ca W f)
def JSs (s : List Stmt) (f : FS) : Prop := PSs X s (tDS X.K ca W f)
/-- an operation by values -/
def rD2 (K : PySem.W.Frag) (g : D → D → Sto → R D) : R2 := fun x y H Q => ∃ ρ st d e, Rep K ca ρ st.length H d x ∧ Rep K ca ρ st.length H e y ∧ SRep K ca ρ H st ∧ Post K ca (fun _ _ _ _ => False) ρ st.length H (g d e st) (KD K ca Q)
def rD1 (K : PySem.W.Frag) (g : D → Sto → R D) : V → Hp → VK → Prop := fun x H Q => ∃ ρ st d, Rep K ca ρ st.length H d x ∧ SRep K ca ρ H st ∧ Post K ca (fun _ _ _ _ => False) ρ st.length H (g d st) (KD K ca Q)
def rDL (K : PySem.W.Frag) (g : List D → Sto → R D) : List V → Hp → VK → Prop := fun x H Q => ∃ ρ st d, Reps K ca ρ st.length H d x ∧ SRep K ca ρ H st ∧ Post K ca (fun _ _ _ _ => False) ρ st.length H (g d st) (KD K ca Q)
def rDM (K : PySem.W.Frag) (g : D → List D → Sto → R D) : V → List V → Hp → VK → Prop := fun x xs H Q => ∃ ρ st d ds, Rep K ca ρ st.length H d x ∧ Reps K ca ρ st.length H ds xs ∧ SRep K ca ρ H st ∧ Post K ca (fun _ _ _ _ => False) ρ st.length H (g d ds st) (KD K ca Q)
end
/-- an operation that raises nothing -/
def NoEx {α : Type} (r : R α) : Prop := ∀ c fs τ st, r ≠ .ex c fs τ st
theorem Post.nox {α : Type} {K : PySem.W.Frag} {ca : CA} {W : WX} {ρ : Nat → Addr} {n : Nat} {H : Hp} {r : R α} {F : α → (Nat → Addr) → Sto → Hp → Prop} (q : NoEx r) (h : Post K ca W ρ n H r F) : Post K ca (fun _ _ _ _ => False) ρ n H r F := by
  cases r with
  | ok a st => exact h
  | ex c fs τ st => exact absurd rfl (q c fs τ st)
  | bad => exact h

section
variable {X : Cx} {ca : CA} {W : WX} {a b c e : Expr} {es : List Expr} {f g k : FE} {pos : Pos}
/-! ### constants, names -/
def fC (d : D) : FE := fun _ st => .ok d st
def fV (i : Nat) : FE := fun τ st => match τ[i]? with
  | some (some d) => .ok d st
  | _ => .bad
theorem je_const {v : V} {d : D} (h : PE X e (tC v)) (r : ∀ ρ n H, Rep X.K ca ρ n H d v) : JE X ca W e (fC d) := pe_imp h fun σ H Q ⟨ρ, st, τ, _, s, h⟩ => h.here s v (r _ _ _)
theorem je_int {i j pos} : JE X ca W (.Constant (.int i) j pos) (fC (.int i)) := je_const pe_int fun _ _ _ => by simp only [Rep]
theorem je_bl {i j pos} : JE X ca W (.Constant (.bool i) j pos) (fC (.bl i)) := je_const pe_bl fun _ _ _ => by simp only [Rep]
theorem je_str {i j pos} : JE X ca W (.Constant (.str i) j pos) (fC (.str i)) := je_const pe_str fun _ _ _ => by simp only [Rep]
theorem je_non {j pos} : JE X ca W (.Constant .none j pos) (fC .non) := je_const pe_non fun _ _ _ => by simp only [Rep]
theorem je_var (i : Nat) {x : Str} {pos : Pos} (hN : X.N[i]? = some x := by rfl) (hv : Vis X.env.scope x := by first | exact Or.inl rfl | exact Or.inr (Or.inl rfl) | exact Or.inr (Or.inr rfl)) (hd : (x == ("__debug__" : Str)) = false := by decide)
    (hcd : (x == ("__classdict__" : Str)) = false := by decide) : JE X ca W (.Name x pos) (fV i) :=
  pe_imp (pe_var (i := i) hN hv hd hcd) fun σ H Q ⟨ρ, st, τ, sl, s, h⟩ => by
    cases e : τ[i]? with
    | none => simp only [fV, e] at h; exact h.elim
    | some o =>
      cases o with
      | none => simp only [fV, e] at h; exact h.elim
      | some d =>
        simp only [fV, e] at h
        obtain ⟨v, e', r⟩ := sl.2 i d e
        exact ⟨v, e', h.here s v r⟩
/-- a module's constant: an int, a text, a def, a class -/
theorem je_glob {x : Str} {d : D} {v : V} {u : Value} (hg : Gl X x) (hm : X.mg x = some u) (r : RelV v u) (hr : ∀ ρ n H, Rep X.K ca ρ n H d v) (hd : (x == ("__debug__" : Str)) = false := by decide) : JE X ca W (.Name x pos) (fC d) :=
  je_const (pe_glob hg hm r hd) hr

/-! ### argument lists -/
def aNil : FA := fun _ st => .ok [] st
def aCons (f : FE) (g : FA) : FA := fun τ st => (f τ st).bind fun d st1 => (g τ st1).bind fun ds st2 => .ok (d :: ds) st2
theorem ja_nil : JA X ca W [] aNil := pa_imp pa_nil fun σ H Q ⟨ρ, st, τ, _, s, h⟩ => h.here s [] Reps.nil
theorem ja_cons {h : FA} (he : JE X ca W e f) (hr : JA X ca W es h) (hs : starEach (e :: es) X.env = (false, eval e X.env) :: starEach es X.env := by rfl) : JA X ca W (e :: es) (aCons f h) :=
  pa_imp (pa_cons he hr hs) fun σ H Q ⟨ρ, st, τ, sl, s, h⟩ =>
    at_of sl s h fun d ρ1 st1 H1 x1 sl1 s1 h1 v r1 =>
      at_of sl1 s1 h1 fun ds ρ2 st2 H2 x2 sl2 s2 h2 vs r2 => h2.here s2 (v :: vs) (Reps.cons (r1.ext x2) r2)
/-- a tuple of written items -/
def fTup (h : FA) : FE := fun τ st => (h τ st).bind fun ds st1 => if ds.length ≤ sizeLine then .ok (.tup ds) st1 else .bad
/-- a list of written items: a value, an object -/
def fLv (h : FA) : FE := fun τ st => (h τ st).bind fun ds st1 => if ds.length ≤ sizeLine then .ok (.lv ds) st1 else .bad
def fLst (h : FA) : FE := fun τ st => (h τ st).bind fun ds st1 => if ds.length ≤ sizeLine then .ok (.obj st1.length) (st1 ++ [.lst ds]) else .bad
section
variable {K : PySem.W.Frag} {ρ : Nat → Addr} {st : Sto} {H : Hp} {p : Addr} {ds : List D} {vs : List V}
theorem rep_tup_new (s : SRep K ca ρ H st) (hp : H p = none) (r : Reps K ca ρ st.length H ds vs) : Rep K ca ρ st.length (upd H p (.tup vs)) (.tup ds) (.ref p) := by
  simp only [Rep]; exact ⟨p, vs, rfl, upd_same, r.ext (Ext.upd_new s hp)⟩
theorem rep_lv_new (s : SRep K ca ρ H st) (hp : H p = none) (r : Reps K ca ρ st.length H ds vs) : Rep K ca ρ st.length (upd H p (.lst vs)) (.lv ds) (.ref p) := by
  simp only [Rep]; exact ⟨p, vs, rfl, ⟨upd_same, s.ne_new hp, s.not_res hp⟩, r.ext (Ext.upd_new s hp)⟩
theorem kept_new {o : HO} (hp : H p = none) : ∀ a u, H a = some u → upd H p o a = some u := fun a u e => by rw [upd_ne (ne_of_none e hp)]; exact e
theorem srep_lst_new (s : SRep K ca ρ H st) (hp : H p = none) (r : Reps K ca ρ st.length H ds vs) : SRep K ca (more ρ st.length p) (upd H p (.lst vs)) (st ++ [.lst ds]) :=
  s.more hp (kept_new hp) ⟨vs, upd_same, r.ext (Ext.more s hp (kept_new hp))⟩
theorem ext_more (s : SRep K ca ρ H st) (hp : H p = none) (m : MO) {o : HO} : Ext ρ st.length H (more ρ st.length p) (st ++ [m]).length (upd H p o) := by
  rw [List.length_append, List.length_singleton]; exact Ext.more s hp (kept_new hp)
theorem rep_obj_new (m : MO) {H' : Hp} : Rep K ca (more ρ st.length p) (st ++ [m]).length H' (.obj st.length) (.ref p) := by
  simp only [Rep, List.length_append, List.length_singleton]
  exact ⟨Nat.lt_succ_self _, by rw [more_same]⟩
end
theorem je_tup {x1} {h : FA} (ha : JA X ca W es h) : JE X ca W (.Tuple es x1 pos) (fTup h) :=
  pe_imp (pe_tup ha) fun σ H Q ⟨ρ, st, τ, sl, s, h⟩ =>
    at_of sl s h fun ds ρ1 st1 H1 x1 sl1 s1 h1 vs r1 => by
      by_cases z : ds.length ≤ sizeLine
      · rw [if_pos z] at h1
        exact ⟨by rw [r1.length]; exact z, fun p hp => h1 _ ρ1 (Ext.upd_new s1 hp) (s1.upd_new hp) _ (rep_tup_new s1 hp r1)⟩
      · rw [if_neg z] at h1; exact h1.elim
theorem je_lv {h : FA} (ha : JA X ca W es h) : JE X ca W (.List es pos) (fLv h) :=
  pe_imp (pe_lst ha) fun σ H Q ⟨ρ, st, τ, sl, s, h⟩ =>
    at_of sl s h fun ds ρ1 st1 H1 x1 sl1 s1 h1 vs r1 => by
      by_cases z : ds.length ≤ sizeLine
      · rw [if_pos z] at h1
        exact ⟨by rw [r1.length]; exact z, fun p hp => h1 _ ρ1 (Ext.upd_new s1 hp) (s1.upd_new hp) _ (rep_lv_new s1 hp r1)⟩
      · rw [if_neg z] at h1; exact h1.elim
theorem je_lst {h : FA} (ha : JA X ca W es h) : JE X ca W (.List es pos) (fLst h) :=
  pe_imp (pe_lst ha) fun σ H Q ⟨ρ, st, τ, sl, s, h⟩ =>
    at_of sl s h fun ds ρ1 st1 H1 x1 sl1 s1 h1 vs r1 => by
      by_cases z : ds.length ≤ sizeLine
      · rw [if_pos z] at h1
        exact ⟨by rw [r1.length]; exact z, fun p hp => h1 _ _ (ext_more s1 hp _) (srep_lst_new s1 hp r1) _ (rep_obj_new _)⟩
      · rw [if_neg z] at h1; exact h1.elim

/-! ### operators by values -/
def fOp (o : D → D → Sto → R D) (f g : FE) : FE := fun τ st => (f τ st).bind fun d st1 => (g τ st1).bind fun e st2 => o d e st2
theorem je_op {op : Operator} {o : D → D → Sto → R D} (ho : OpR X (binaryOp op) (rD2 ca X.K o)) (hn : ∀ d e st, NoEx (o d e st)) (ha : JE X ca W a f) (hb : JE X ca W b g) : JE X ca W (.BinOp a op b pos) (fOp o f g) :=
  pe_imp (pe_op ho ha hb) fun σ H Q ⟨ρ, st, τ, sl, s, h⟩ =>
    at_of sl s h fun d ρ1 st1 H1 x1 sl1 s1 h1 v r1 =>
      at_of sl1 s1 h1 fun e ρ2 st2 H2 x2 sl2 s2 h2 u r2 => ⟨ρ2, st2, d, e, r1.ext x2, r2, s2, h2.nox (hn _ _ _)⟩
theorem je_cmp {op : CmpOp} {o : D → D → Sto → R D} (ho : OpR X (compareOp op) (rD2 ca X.K o)) (hn : ∀ d e st, NoEx (o d e st)) (ha : JE X ca W a f) (hb : JE X ca W b g) (hm : behindInMarks op b = false) : JE X ca W (.Compare a [op] [b] pos) (fOp o f g) :=
  pe_imp (pe_cmpR ho ha hb hm) fun σ H Q ⟨ρ, st, τ, sl, s, h⟩ =>
    at_of sl s h fun d ρ1 st1 H1 x1 sl1 s1 h1 v r1 =>
      at_of sl1 s1 h1 fun e ρ2 st2 H2 x2 sl2 s2 h2 u r2 => ⟨ρ2, st2, d, e, r1.ext x2, r2, s2, h2.nox (hn _ _ _)⟩
/-- a value as a test: a bool -/
def bOf (f : FE) : FB := fun τ st => (f τ st).bind fun d st1 => match d with
  | .bl b => .ok b st1
  | _ => .bad
theorem jb_cmp {op : CmpOp} {o : D → D → Sto → R D} (ho : OpR X (compareOp op) (rD2 ca X.K o)) (hn : ∀ d e st, NoEx (o d e st)) (ha : JE X ca W a f) (hb : JE X ca W b g) (hm : behindInMarks op b = false) : JB X ca W (.Compare a [op] [b] pos) (bOf (fOp o f g)) :=
  pt_imp (pt_cmpR ho ha hb hm) fun σ H Q ⟨ρ, st, τ, sl, s, h⟩ => by
    have h' := h
    simp only [bOf, fOp, R.bind_assoc] at h'
    exact at_of sl s h' fun d ρ1 st1 H1 x1 sl1 s1 h1 v r1 =>
      at_of sl1 s1 h1 fun e ρ2 st2 H2 x2 sl2 s2 h2 u r2 => ⟨ρ2, st2, d, e, r1.ext x2, r2, s2, by
        have h3 := Post.bind h2
        refine (h3.nox (hn _ _ _)).mono fun a ρ3 st3 H3 x3 s3 q v3 r3 => ?_
        obtain ⟨_, _, q⟩ := q
        cases a with
        | bl k => simp only [Rep] at r3; exact ⟨k, r3, q.here s3⟩
        | _ => exact q.elim⟩
end
end DL
set_option Elab.async false
set_option linter.all false
set_option maxRecDepth 100000
set_option maxHeartbeats 4000000
namespace DL
open PySem PySem.Spec PyProof.Rows L2

/-! ### plain data, keys -/
mutual
def toPy : D → Option PyData
  | .non => some .none
  | .bl b => some (.bool b)
  | .int i => some (.int i)
  | .str x => some (.str x)
  | .tup ds => (toPys ds).map PyData.tuple
  | .ktup ds => (toPys ds).map PyData.tuple
  | .lv ds => (toPys ds).map PyData.list
  | .kl ds => (toPys ds).map PyData.list
  | _ => none
def toPys : List D → Option (List PyData)
  | [] => some []
  | d :: ds => match toPy d, toPys ds with
    | some p, some ps => some (p :: ps)
    | _, _ => none
end
/-- an object of the store that is a list: its items -/
def listOf (st : Sto) : D → Option (List D)
  | .lv ds => some ds
  | .kl ds => some ds
  | .obj i => match st[i]? with
    | some (.lst ds) => some ds
    | _ => none
  | _ => none
/-- .. one that is tracked -/
def mlOf (st : Sto) : D → Option (List D)
  | .lv ds => some ds
  | .obj i => match st[i]? with
    | some (.lst ds) => some ds
    | _ => none
  | _ => none
def seqOf (st : Sto) : D → Option (List D)
  | .tup ds => some ds
  | .ktup ds => some ds
  | d => listOf st d
def toPyS (st : Sto) (d : D) : Option PyData := match d with
  | .obj i => match st[i]? with
    | some (.lst ds) => (toPys ds).map PyData.list
    | _ => none
  | d => toPy d
def keyOf : D → Option Key
  | .int i => some (.inl i)
  | .str x => some (.inr x)
  | _ => none
def keysOf : List D → Option (List Key)
  | [] => some []
  | d :: ds => match keyOf d, keysOf ds with
    | some k, some ks => some (k :: ks)
    | _, _ => none
def tkeyOf : D → Option (List Key)
  | .tup ds => keysOf ds
  | _ => none
/-- flat values -/
def flD : D → Option V
  | .non => some .non
  | .bl b => some (.bl b)
  | .int i => some (.int i)
  | .str x => some (.str x)
  | _ => none
def flDs : List D → Option (List V)
  | [] => some []
  | d :: ds => match flD d, flDs ds with
    | some k, some ks => some (k :: ks)
    | _, _ => none
section
variable {K : PySem.W.Frag} {ca : CA} {ρ : Nat → Addr} {n : Nat} {H : Hp} {st : Sto}
mutual
theorem dp_of : ∀ {d : D} {p : PyData} {v : V}, toPy d = some p → Rep K ca ρ n H d v → Dp K H v p
  | .non, p, v, e, r => by simp only [toPy, Option.some.injEq] at e; subst e; simp only [Rep] at r; subst r; exact .non
  | .bl b, p, v, e, r => by simp only [toPy, Option.some.injEq] at e; subst e; simp only [Rep] at r; subst r; exact .bl b
  | .int b, p, v, e, r => by simp only [toPy, Option.some.injEq] at e; subst e; simp only [Rep] at r; subst r; exact .int b
  | .str b, p, v, e, r => by simp only [toPy, Option.some.injEq] at e; subst e; simp only [Rep] at r; subst r; exact .str b
  | .tup ds, p, v, e, r => by
    simp only [toPy, Option.map_eq_some_iff] at e
    obtain ⟨ps, e, rfl⟩ := e
    simp only [Rep] at r
    obtain ⟨a, xs, rfl, q, r⟩ := r
    exact .tup (SqT.of q) (dps_of e r)
  | .ktup ds, p, v, e, r => by
    simp only [toPy, Option.map_eq_some_iff] at e
    obtain ⟨ps, e, rfl⟩ := e
    simp only [Rep] at r
    obtain ⟨a, xs, rfl, q, r⟩ := r
    exact .tup q.seq (dps_of e r)
  | .lv ds, p, v, e, r => by
    simp only [toPy, Option.map_eq_some_iff] at e
    obtain ⟨ps, e, rfl⟩ := e
    simp only [Rep] at r
    obtain ⟨a, xs, rfl, q, r⟩ := r
    exact .lst q.seq (dps_of e r)
  | .kl ds, p, v, e, r => by
    simp only [toPy, Option.map_eq_some_iff] at e
    obtain ⟨ps, e, rfl⟩ := e
    simp only [Rep] at r
    obtain ⟨a, xs, rfl, q, r⟩ := r
    exact .lst q.seq (dps_of e r)
  | .dv _ _, p, v, e, r => by simp only [toPy] at e; cases e
  | .obj _, p, v, e, r => by simp only [toPy] at e; cases e
  | .ty _, p, v, e, r => by simp only [toPy] at e; cases e
  | .glb _, p, v, e, r => by simp only [toPy] at e; cases e
theorem dps_of : ∀ {ds : List D} {ps : List PyData} {vs : List V}, toPys ds = some ps → Reps K ca ρ n H ds vs → DpAll K H vs ps
  | [], ps, vs, e, r => by simp only [toPys, Option.some.injEq] at e; subst e; simp only [Reps] at r; subst r; exact .nil
  | d :: ds, ps, vs, e, r => by
    simp only [Reps] at r
    obtain ⟨v, rs, rfl, r1, r2⟩ := r
    simp only [toPys] at e
    cases e1 : toPy d with
    | none => simp [e1] at e
    | some p =>
      cases e2 : toPys ds with
      | none => simp [e1, e2] at e
      | some qs =>
        simp only [e1, e2, Option.some.injEq] at e
        subst e
        exact .cons (dp_of e1 r1) (dps_of e2 r2)
end
theorem dpS_of (s : SRep K ca ρ H st) {d : D} {p : PyData} {v : V} (e : toPyS st d = some p) (r : Rep K ca ρ st.length H d v) : Dp K H v p := by
  cases d with
  | obj i =>
    simp only [toPyS] at e
    cases q : st[i]? with
    | none => simp [q] at e
    | some m =>
      cases m with
      | lst ds =>
        simp only [q, Option.map_eq_some_iff] at e
        obtain ⟨ps, e, rfl⟩ := e
        simp only [Rep] at r
        obtain ⟨xs, ha, rs⟩ := s.at_ i _ q
        rw [r.2]
        exact .lst (SqL.of ha) (dps_of e rs)
      | _ => simp [q] at e
  | _ => exact dp_of e r
theorem listOf_rep (s : SRep K ca ρ H st) {d : D} {ds : List D} {v : V} (e : listOf st d = some ds) (r : Rep K ca ρ st.length H d v) : ∃ a xs, v = .ref a ∧ SqL K H a xs ∧ Reps K ca ρ st.length H ds xs := by
  cases d with
  | lv es =>
    simp only [listOf, Option.some.injEq] at e; subst e
    simp only [Rep] at r
    obtain ⟨a, xs, rfl, q, r⟩ := r
    exact ⟨a, xs, rfl, q.seq, r⟩
  | kl es =>
    simp only [listOf, Option.some.injEq] at e; subst e
    simp only [Rep] at r
    obtain ⟨a, xs, rfl, q, r⟩ := r
    exact ⟨a, xs, rfl, q.seq, r⟩
  | obj i =>
    simp only [listOf] at e
    cases q : st[i]? with
    | none => simp [q] at e
    | some m =>
      cases m with
      | lst es =>
        simp only [q, Option.some.injEq] at e; subst e
        simp only [Rep] at r
        obtain ⟨xs, ha, rs⟩ := s.at_ i _ q
        exact ⟨_, xs, r.2, SqL.of ha, rs⟩
      | _ => simp [q] at e
  | _ => simp [listOf] at e
theorem mlOf_rep (s : SRep K ca ρ H st) {d : D} {ds : List D} {v : V} (e : mlOf st d = some ds) (r : Rep K ca ρ st.length H d v) : ∃ a xs, v = .ref a ∧ H a = some (.lst xs) ∧ Reps K ca ρ st.length H ds xs := by
  cases d with
  | lv es =>
    simp only [mlOf, Option.some.injEq] at e; subst e
    simp only [Rep] at r
    obtain ⟨a, xs, rfl, q, r⟩ := r
    exact ⟨a, xs, rfl, q.1, r⟩
  | obj i =>
    simp only [mlOf] at e
    cases q : st[i]? with
    | none => simp [q] at e
    | some m =>
      cases m with
      | lst es =>
        simp only [q, Option.some.injEq] at e; subst e
        simp only [Rep] at r
        obtain ⟨xs, ha, rs⟩ := s.at_ i _ q
        exact ⟨_, xs, r.2, ha, rs⟩
      | _ => simp [q] at e
  | _ => simp [mlOf] at e
theorem seqOf_rep (s : SRep K ca ρ H st) {d : D} {ds : List D} {v : V} (e : seqOf st d = some ds) (r : Rep K ca ρ st.length H d v) : ∃ a xs, v = .ref a ∧ (SqL K H a xs ∨ SqT K H a xs) ∧ Reps K ca ρ st.length H ds xs := by
  cases d with
  | tup es =>
    simp only [seqOf, Option.some.injEq] at e; subst e
    simp only [Rep] at r
    obtain ⟨a, xs, rfl, q, r⟩ := r
    exact ⟨a, xs, rfl, .inr (SqT.of q), r⟩
  | ktup es =>
    simp only [seqOf, Option.some.injEq] at e; subst e
    simp only [Rep] at r
    obtain ⟨a, xs, rfl, q, r⟩ := r
    exact ⟨a, xs, rfl, .inr q.seq, r⟩
  | _ =>
    simp only [seqOf] at e
    obtain ⟨a, xs, e', q, r⟩ := listOf_rep s e r
    exact ⟨a, xs, e', .inl q, r⟩
theorem flD_rep {d : D} {w v : V} (e : flD d = some w) (r : Rep K ca ρ n H d v) : v = w ∧ flatV w = true := by
  cases d <;> simp only [flD, Option.some.injEq] at e <;> first
    | (subst e; simp only [Rep] at r; exact ⟨r, rfl⟩)
    | cases e
theorem flDs_rep : ∀ {ds : List D} {ws vs : List V}, flDs ds = some ws → Reps K ca ρ n H ds vs → vs = ws ∧ ws.all flatV = true
  | [], ws, vs, e, r => by simp only [flDs, Option.some.injEq] at e; subst e; simp only [Reps] at r; exact ⟨r, rfl⟩
  | d :: ds, ws, vs, e, r => by
    simp only [Reps] at r
    obtain ⟨v, rs, rfl, r1, r2⟩ := r
    simp only [flDs] at e
    cases e1 : flD d with
    | none => simp [e1] at e
    | some p =>
      cases e2 : flDs ds with
      | none => simp [e1, e2] at e
      | some qs =>
        simp only [e1, e2, Option.some.injEq] at e
        subst e
        obtain ⟨h1, h2⟩ := flD_rep e1 r1
        obtain ⟨h3, h4⟩ := flDs_rep e2 r2
        exact ⟨by rw [h1, h3], by simp [h2, h4]⟩
theorem keyOf_rep {d : D} {k : Key} {v : V} (e : keyOf d = some k) (r : Rep K ca ρ n H d v) : v = kV k := by
  cases d <;> simp only [keyOf, Option.some.injEq] at e <;> first
    | (subst e; simp only [Rep] at r; exact r)
    | cases e
theorem keysOf_rep : ∀ {ds : List D} {ks : List Key} {vs : List V}, keysOf ds = some ks → Reps K ca ρ n H ds vs → vs = ks.map kV
  | [], ws, vs, e, r => by simp only [keysOf, Option.some.injEq] at e; subst e; simp only [Reps] at r; exact r
  | d :: ds, ws, vs, e, r => by
    simp only [Reps] at r
    obtain ⟨v, rs, rfl, r1, r2⟩ := r
    simp only [keysOf] at e
    cases e1 : keyOf d with
    | none => simp [e1] at e
    | some p =>
      cases e2 : keysOf ds with
      | none => simp [e1, e2] at e
      | some qs =>
        simp only [e1, e2, Option.some.injEq] at e
        subst e
        rw [keyOf_rep e1 r1, keysOf_rep e2 r2]; rfl
theorem tkeyOf_rep {d : D} {ks : List Key} {v : V} (e : tkeyOf d = some ks) (r : Rep K ca ρ n H d v) : ∃ b, v = .ref b ∧ H b = some (.tup (ks.map kV)) := by
  cases d with
  | tup ds =>
    simp only [tkeyOf] at e
    simp only [Rep] at r
    obtain ⟨a, xs, rfl, q, r⟩ := r
    exact ⟨a, rfl, by rw [q, keysOf_rep e r]⟩
  | _ => simp [tkeyOf] at e
/-! ### dicts -/
def valD {κ : Type} [DecidableEq κ] (kvs : List (κ × D)) (k : κ) : Option D := (kvs.find? fun kv => decide (kv.1 = k)).map (·.2)
def putD {κ : Type} [DecidableEq κ] (kvs : List (κ × D)) (k : κ) (v : D) : List (κ × D) :=
  if (kvs.any fun kv => decide (kv.1 = k)) = true then kvs.map (fun kv => if kv.1 = k then (kv.1, v) else kv) else kvs ++ [(k, v)]
theorem RepKV.val {κ : Type} [DecidableEq κ] {k : κ} : ∀ {kvs : List (κ × D)} {ws : List (κ × V)}, RepKV K ca ρ n H kvs ws →
    (valD kvs k = none ∧ valV ws k = none) ∨ ∃ d v, valD kvs k = some d ∧ valV ws k = some v ∧ Rep K ca ρ n H d v
  | [], ws, r => by simp only [RepKV] at r; subst r; exact .inl ⟨rfl, rfl⟩
  | p :: kvs, ws, r => by
    simp only [RepKV] at r
    obtain ⟨v, rs, rfl, r1, r2⟩ := r
    by_cases e : p.1 = k
    · exact .inr ⟨p.2, v, by simp [valD, List.find?_cons, e], valV_pos e, r1⟩
    · rcases RepKV.val (k := k) r2 with ⟨h1, h2⟩ | ⟨d, u, h1, h2, h3⟩
      · exact .inl ⟨by simpa [valD, List.find?_cons, e] using h1, by rw [valV_neg (p := (p.1, v)) e]; exact h2⟩
      · exact .inr ⟨d, u, by simpa [valD, List.find?_cons, e] using h1, by rw [valV_neg (p := (p.1, v)) e]; exact h2, h3⟩
theorem RepKV.length {κ : Type} : ∀ {kvs : List (κ × D)} {ws : List (κ × V)}, RepKV K ca ρ n H kvs ws → ws.length = kvs.length
  | [], ws, r => by simp only [RepKV] at r; subst r; rfl
  | p :: kvs, ws, r => by
    simp only [RepKV] at r
    obtain ⟨v, rs, rfl, r1, r2⟩ := r
    simp [RepKV.length r2]
theorem RepKV.any {κ : Type} [DecidableEq κ] {k : κ} : ∀ {kvs : List (κ × D)} {ws : List (κ × V)}, RepKV K ca ρ n H kvs ws → (ws.any fun kv => decide (kv.1 = k)) = kvs.any fun kv => decide (kv.1 = k)
  | [], ws, r => by simp only [RepKV] at r; subst r; rfl
  | p :: kvs, ws, r => by
    simp only [RepKV] at r
    obtain ⟨v, rs, rfl, r1, r2⟩ := r
    simp [RepKV.any (k := k) r2]
theorem RepKV.map_put {κ : Type} [DecidableEq κ] {k : κ} {d : D} {u : V} (hd : Rep K ca ρ n H d u) : ∀ {kvs : List (κ × D)} {ws : List (κ × V)}, RepKV K ca ρ n H kvs ws →
    RepKV K ca ρ n H (kvs.map fun kv => if kv.1 = k then (kv.1, d) else kv) (ws.map fun kv => if kv.1 = k then (kv.1, u) else kv)
  | [], ws, r => by simp only [RepKV] at r; subst r; simp [RepKV]
  | p :: kvs, ws, r => by
    simp only [RepKV] at r
    obtain ⟨v, rs, rfl, r1, r2⟩ := r
    simp only [List.map_cons, RepKV]
    refine ⟨if p.1 = k then u else v, _, ?_, ?_, RepKV.map_put hd r2⟩
    · by_cases e : p.1 = k <;> simp [e]
    · by_cases e : p.1 = k <;> simp [e, hd, r1]
theorem RepKV.append {κ : Type} : ∀ {kvs kvs' : List (κ × D)} {ws ws' : List (κ × V)}, RepKV K ca ρ n H kvs ws → RepKV K ca ρ n H kvs' ws' → RepKV K ca ρ n H (kvs ++ kvs') (ws ++ ws')
  | [], _, ws, _, r, q => by simp only [RepKV] at r; subst r; exact q
  | p :: kvs, _, ws, _, r, q => by
    simp only [RepKV] at r
    obtain ⟨v, rs, rfl, r1, r2⟩ := r
    simp only [List.cons_append, RepKV]
    exact ⟨v, _, rfl, r1, RepKV.append r2 q⟩
theorem RepKV.put {κ : Type} [DecidableEq κ] {k : κ} {d : D} {u : V} (hd : Rep K ca ρ n H d u) {kvs : List (κ × D)} {ws : List (κ × V)} (r : RepKV K ca ρ n H kvs ws) : RepKV K ca ρ n H (putD kvs k d) (putK ws k u) := by
  unfold putD putK
  rw [r.any]
  by_cases e : (kvs.any fun kv => decide (kv.1 = k)) = true
  · rw [if_pos e, if_pos e]; exact r.map_put hd
  · rw [if_neg e, if_neg e]
    exact r.append (by simp only [RepKV]; exact ⟨u, [], rfl, hd, rfl⟩)
/-- a dict that stays, by its keys and values -/
def lkDv : List D → List D → Key → Option D
  | k :: ks, v :: vs, x => if keyOf k = some x then some v else lkDv ks vs x
  | _, _, _ => none
theorem keyOf_kD (k : Key) : keyOf (kD k) = some k := by cases k <;> rfl
theorem lkDv_rep {x : Key} : ∀ {kvs : List (Key × V)} {vs : List D}, Reps K ca ρ n H vs (kvs.map (·.2)) →
    (lkDv (kvs.map fun p => kD p.1) vs x = none ∧ valV kvs x = none) ∨ ∃ d v, lkDv (kvs.map fun p => kD p.1) vs x = some d ∧ valV kvs x = some v ∧ Rep K ca ρ n H d v
  | [], vs, r => by
    cases vs <;> exact .inl ⟨rfl, rfl⟩
  | p :: kvs, vs, r => by
    cases vs with
    | nil => simp only [Reps, List.map_cons] at r; cases r
    | cons d vs =>
      simp only [List.map_cons, Reps] at r
      obtain ⟨v, rs, e, r1, r2⟩ := r
      injection e with e1 e2
      subst e1 e2
      by_cases e : p.1 = x
      · exact .inr ⟨d, p.2, by simp [lkDv, keyOf_kD, e], valV_pos e, r1⟩
      · have e' : ¬ (some p.1 = some x) := fun q => e (Option.some.inj q)
        rcases lkDv_rep (x := x) r2 with ⟨h1, h2⟩ | ⟨d', u, h1, h2, h3⟩
        · exact .inl ⟨by simpa [lkDv, keyOf_kD, e] using h1, by rw [valV_neg e]; exact h2⟩
        · exact .inr ⟨d', u, by simpa [lkDv, keyOf_kD, e] using h1, by rw [valV_neg e]; exact h2, h3⟩
/-- what stands in a dict under a key: none: no dict, or no key of its kind -/
def dictLook (st : Sto) (d k : D) : Option (Option D) :=
  match d with
  | .dv ks vs => (keyOf k).map (lkDv ks vs)
  | .obj i => match st[i]? with
    | some (.dic kvs) => (keyOf k).map (valD kvs)
    | some (.dit kvs) => (tkeyOf k).map (valD kvs)
    | some (.lck kvs) => (keyOf k).map (valD kvs)
    | _ => none
  | _ => none
theorem dictLook_rep (s : SRep K ca ρ H st) {d k : D} {v u : V} {o : Option D} (e : dictLook st d k = some o) (r : Rep K ca ρ st.length H d v) (rk : Rep K ca ρ st.length H k u) :
    ∃ a w, v = .ref a ∧ IsD H a ∧ DGet H a u w ∧ ((o = none ∧ w = none) ∨ ∃ d' z, o = some d' ∧ w = some z ∧ Rep K ca ρ st.length H d' z) := by
  cases d with
  | dv ks vs =>
    simp only [dictLook, Option.map_eq_some_iff] at e
    obtain ⟨x, ek, rfl⟩ := e
    simp only [Rep] at r
    obtain ⟨a, kvs, rfl, q, rfl, rv⟩ := r
    have eu := keyOf_rep ek rk
    subst eu
    refine ⟨a, valV kvs x, rfl, .inl ⟨kvs, q.rd⟩, .inl ⟨kvs, x, q.rd, rfl, rfl⟩, ?_⟩
    rcases lkDv_rep (x := x) rv with ⟨h1, h2⟩ | ⟨d', z, h1, h2, h3⟩
    · exact .inl ⟨h1, h2⟩
    · exact .inr ⟨d', z, h1, h2, h3⟩
  | obj i =>
    simp only [dictLook] at e
    simp only [Rep] at r
    obtain ⟨hi, rfl⟩ := r
    cases q : st[i]? with
    | none => simp [q] at e
    | some m =>
      cases m with
      | dic kvs =>
        simp only [q, Option.map_eq_some_iff] at e
        obtain ⟨x, ek, rfl⟩ := e
        obtain ⟨ws, ha, rs⟩ := s.at_ i _ q
        have eu := keyOf_rep ek rk
        subst eu
        refine ⟨_, valV ws x, rfl, .inl ⟨ws, .inl ha⟩, .inl ⟨ws, x, .inl ha, rfl, rfl⟩, ?_⟩
        rcases rs.val (k := x) with ⟨h1, h2⟩ | ⟨d', z, h1, h2, h3⟩
        · exact .inl ⟨h1, h2⟩
        · exact .inr ⟨d', z, h1, h2, h3⟩
      | lck kvs =>
        simp only [q, Option.map_eq_some_iff] at e
        obtain ⟨x, ek, rfl⟩ := e
        obtain ⟨od, ws, ha, rs⟩ := s.at_ i _ q
        have eu := keyOf_rep ek rk
        subst eu
        refine ⟨_, valV ws x, rfl, .inl ⟨ws, .inr ⟨od, ha⟩⟩, .inl ⟨ws, x, .inr ⟨od, ha⟩, rfl, rfl⟩, ?_⟩
        rcases rs.val (k := x) with ⟨h1, h2⟩ | ⟨d', z, h1, h2, h3⟩
        · exact .inl ⟨h1, h2⟩
        · exact .inr ⟨d', z, h1, h2, h3⟩
      | dit kvs =>
        simp only [q, Option.map_eq_some_iff] at e
        obtain ⟨x, ek, rfl⟩ := e
        obtain ⟨ws, ha, rs⟩ := s.at_ i _ q
        obtain ⟨b, rfl, hb⟩ := tkeyOf_rep ek rk
        refine ⟨_, valV ws x, rfl, .inr ⟨ws, .inl ha⟩, .inr ⟨ws, x, b, .inl ha, rfl, hb, rfl⟩, ?_⟩
        rcases rs.val (k := x) with ⟨h1, h2⟩ | ⟨d', z, h1, h2, h3⟩
        · exact .inl ⟨h1, h2⟩
        · exact .inr ⟨d', z, h1, h2, h3⟩
      | _ => simp [q] at e
  | _ => simp [dictLook] at e
end

/-! ### the operations, as functions -/
def okD (d : D) (st : Sto) : R D := .ok d st
def opAdd (d e : D) (st : Sto) : R D :=
  match d, e with
  | .int i, .int j => .ok (.int (i + j)) st
  | .str x, .str y => if x.length + y.length ≤ sizeLine then .ok (.str (x ++ y)) st else .bad
  | .tup ds, .tup es => if ds.length + es.length ≤ sizeLine then .ok (.tup (ds ++ es)) st else .bad
  | _, _ => .bad
/-- the sum of two lists: a list that stays, a new object -/
def opCat (d e : D) (st : Sto) : R D :=
  match mlOf st d, mlOf st e with
  | some ds, some es => if ds.length + es.length ≤ sizeLine then .ok (.lv (ds ++ es)) st else .bad
  | _, _ => .bad
def opCatO (d e : D) (st : Sto) : R D :=
  match mlOf st d, mlOf st e with
  | some ds, some es => if ds.length + es.length ≤ sizeLine then .ok (.obj st.length) (st ++ [.lst (ds ++ es)]) else .bad
  | _, _ => .bad
def opSub (d e : D) (st : Sto) : R D :=
  match d, e with
  | .int i, .int j => .ok (.int (i - j)) st
  | _, _ => .bad
def opMul (d e : D) (st : Sto) : R D :=
  match d, e with
  | .int i, .int j => if (-(2 ^ 64) < i ∧ i < 2 ^ 64) ∨ (-(2 ^ 64) < j ∧ j < 2 ^ 64) then .ok (.int (i * j)) st else .bad
  | _, _ => .bad
def opDiv (d e : D) (st : Sto) : R D :=
  match d, e with
  | .int i, .int j => if 0 < j ∧ j < 1073741824 then .ok (.int (i / j)) st else .bad
  | _, _ => .bad
def opMod (d e : D) (st : Sto) : R D :=
  match d, e with
  | .int i, .int j => if 0 < j then .ok (.int (i % j)) st else .bad
  | _, _ => .bad
def opPow (d e : D) (st : Sto) : R D :=
  match d, e with
  | .int i, .int j => if 0 ≤ j ∧ j ≤ 1000000 ∧ i.natAbs < 2 ^ 64 then .ok (.int (i ^ j.toNat)) st else .bad
  | _, _ => .bad
/-- == of scalars -/
def eqS : D → D → Option Bool
  | .str x, .str y => some (decide (x = y))
  | .int i, .int j => some (decide (i = j))
  | .bl a, .bl b => some (decide (a = b))
  | .non, .non => some true
  | .non, .int _ => some false | .int _, .non => some false | .non, .bl _ => some false | .bl _, .non => some false | .non, .str _ => some false | .str _, .non => some false
  | .int _, .str _ => some false | .str _, .int _ => some false | .bl _, .str _ => some false | .str _, .bl _ => some false
  | _, _ => none
def eqDeep (st : Sto) (d e : D) : Option Bool :=
  match toPyS st d, toPyS st e with
  | some p, some q => if SeqAt.shaped p = true ∧ SeqAt.shaped q = true then some (PyData.eqv p q) else none
  | _, _ => none
def eqD (st : Sto) (d e : D) : Option Bool := match eqS d e with
  | some b => some b
  | none => eqDeep st d e
def ofB (o : Option Bool) (st : Sto) : R D := match o with
  | some b => .ok (.bl b) st
  | none => .bad
def opEq (d e : D) (st : Sto) : R D := ofB (eqD st d e) st
def opNe (d e : D) (st : Sto) : R D := ofB ((eqD st d e).map (!·)) st
def cmpI (p : Int → Int → Bool) (d e : D) (st : Sto) : R D :=
  match d, e with
  | .int i, .int j => .ok (.bl (p i j)) st
  | _, _ => .bad
def opLt := cmpI fun i j => decide (i < j)
def opLe := cmpI fun i j => decide (i ≤ j)
def opGt := cmpI fun i j => decide (j < i)
def opGe := cmpI fun i j => decide (j ≤ i)
def isNonD : D → Bool
  | .non => true
  | _ => false
/-- is None -/
def opIs (d e : D) (st : Sto) : R D :=
  match e with
  | .non => .ok (.bl (isNonD d)) st
  | _ => .bad
def opIsNot (d e : D) (st : Sto) : R D :=
  match e with
  | .non => .ok (.bl (!isNonD d)) st
  | _ => .bad
/-- x in y -/
def memD (st : Sto) (d e : D) : Option Bool :=
  match e with
  | .str z => match d with
    | .str y => some (!(Builtin.Str.occurrences z y 0 z.length 1).isEmpty)
    | _ => none
  | e => match seqOf st e with
    | some es => match flD d, flDs es with
      | some x, some xs => some (inV x xs)
      | _, _ => match listOf st e, toPy d, toPys es with
        | some _, some p, some ps => if SeqAt.shaped p = true ∧ SeqAt.shaped (.list ps) = true then some (ps.any fun z => PyData.eqv z p) else none
        | _, _, _ => none
    | none => (dictLook st e d).map (·.isSome)
def opIn (d e : D) (st : Sto) : R D := ofB (memD st d e) st
def opNotIn (d e : D) (st : Sto) : R D := ofB ((memD st d e).map (!·)) st
def ofO (o : Option D) (st : Sto) : R D := match o with
  | some z => .ok z st
  | none => .bad
theorem ofO_nox (o st) : NoEx (ofO o st) := by unfold ofO NoEx; intros; split <;> (intro h; cases h)
def opIx (d e : D) (st : Sto) : R D :=
  match d with
  | .str z => match e with
    | .int i => if z.length ≤ sizeLine then match atI z.cps.toList i with
      | some c => .ok (.str ⟨#[c]⟩) st
      | none => .bad
      else .bad
    | _ => .bad
  | d => match seqOf st d with
    | some ds => match e with
      | .int i => match atI ds i with
        | some z => .ok z st
        | none => .bad
      | _ => .bad
    | none => match dictLook st d e with
      | some w => ofO w st
      | none => .bad
theorem opAdd_nox (d e st) : NoEx (opAdd d e st) := by unfold opAdd NoEx; intros; split <;> (repeat' split) <;> (intro h; cases h)
theorem opCat_nox (d e st) : NoEx (opCat d e st) := by unfold opCat NoEx; intros; split <;> (repeat' split) <;> (intro h; cases h)
theorem opCatO_nox (d e st) : NoEx (opCatO d e st) := by unfold opCatO NoEx; intros; split <;> (repeat' split) <;> (intro h; cases h)
theorem opSub_nox (d e st) : NoEx (opSub d e st) := by unfold opSub NoEx; intros; split <;> (repeat' split) <;> (intro h; cases h)
theorem opMul_nox (d e st) : NoEx (opMul d e st) := by unfold opMul NoEx; intros; split <;> (repeat' split) <;> (intro h; cases h)
theorem opDiv_nox (d e st) : NoEx (opDiv d e st) := by unfold opDiv NoEx; intros; split <;> (repeat' split) <;> (intro h; cases h)
theorem opMod_nox (d e st) : NoEx (opMod d e st) := by unfold opMod NoEx; intros; split <;> (repeat' split) <;> (intro h; cases h)
theorem opPow_nox (d e st) : NoEx (opPow d e st) := by unfold opPow NoEx; intros; split <;> (repeat' split) <;> (intro h; cases h)
theorem cmpI_nox (p) (d e st) : NoEx (cmpI p d e st) := by unfold cmpI NoEx; intros; split <;> (repeat' split) <;> (intro h; cases h)
theorem ofB_nox (o st) : NoEx (ofB o st) := by unfold ofB NoEx; intros; split <;> (intro h; cases h)
theorem opEq_nox (d e st) : NoEx (opEq d e st) := ofB_nox _ _
theorem opNe_nox (d e st) : NoEx (opNe d e st) := ofB_nox _ _
theorem opIn_nox (d e st) : NoEx (opIn d e st) := ofB_nox _ _
theorem opNotIn_nox (d e st) : NoEx (opNotIn d e st) := ofB_nox _ _
theorem opIs_nox (d e st) : NoEx (opIs d e st) := by unfold opIs NoEx; intros; split <;> (intro h; cases h)
theorem opIsNot_nox (d e st) : NoEx (opIsNot d e st) := by unfold opIsNot NoEx; intros; split <;> (intro h; cases h)
theorem opIx_nox (d e st) : NoEx (opIx d e st) := by unfold opIx ofO NoEx; intros; (repeat' split) <;> (intro h; cases h)
end DL
set_option Elab.async false
set_option linter.all false
set_option maxRecDepth 100000
set_option maxHeartbeats 4000000
namespace DL
open PySem PySem.Spec PyProof.Rows L2
section
variable {X : Cx} {ca : CA} {W : WX} {a b c e : Expr} {es : List Expr} {f g k : FE} {pos : Pos}

theorem opr_imp {o : Value → Value → Sem Value} {r r' : R2} (h : OpR X o r) (i : ∀ x y H Q, r' x y H Q → r x y H Q) : OpR X o r' :=
  fun pins s σ H x y v u Q I rx ry q => h pins s σ H x y v u Q I rx ry (i _ _ _ _ q)

theorem oAdd : OpR X (binaryOp .Add) (rD2 ca X.K opAdd) := by
  refine opr_imp ((op_add (X := X)).or ((op_add_str (X := X)).or (op_catA (X := X)))) fun x y H Q ⟨ρ, st, d, e, rd, re, s, h⟩ => ?_
  unfold opAdd at h
  split at h
  · simp only [Rep] at rd re
    exact .inl ⟨_, _, rd, re, h.here s _ (by simp only [Rep])⟩
  · simp only [Rep] at rd re
    split at h
    · rename_i z
      exact .inr (.inl ⟨_, _, rd, re, z, h.here s _ (by simp only [Rep])⟩)
    · exact h.elim
  · simp only [Rep] at rd re
    obtain ⟨p, xs, rfl, q1, r1⟩ := rd
    obtain ⟨q, ys, rfl, q2, r2⟩ := re
    split at h
    · rename_i z
      refine .inr (.inr ⟨p, q, xs, ys, rfl, rfl, SqT.of q1, SqT.of q2, by rw [r1.length, r2.length]; exact z, fun e => ?_, fun _ e => ?_, fun _ _ t ht => ?_⟩)
      · subst e
        refine h.here s _ ?_
        simp only [Rep]
        exact ⟨q, ys, rfl, q2, by simpa using r1.append r2⟩
      · subst e
        refine h.here s _ ?_
        simp only [Rep]
        exact ⟨p, xs, rfl, q1, by simpa using r1.append r2⟩
      · exact h _ ρ (Ext.upd_new s ht) (s.upd_new ht) _ (rep_tup_new s ht (r1.append r2))
    · exact h.elim
  · exact h.elim
theorem oSub : OpR X (binaryOp .Sub) (rD2 ca X.K opSub) := by
  refine opr_imp (op_sub (X := X)) fun x y H Q ⟨ρ, st, d, e, rd, re, s, h⟩ => ?_
  unfold opSub at h
  split at h
  · simp only [Rep] at rd re
    exact ⟨_, _, rd, re, h.here s _ (by simp only [Rep])⟩
  · exact h.elim
theorem oMul : OpR X (binaryOp .Mult) (rD2 ca X.K opMul) := by
  refine opr_imp (op_mul (X := X)) fun x y H Q ⟨ρ, st, d, e, rd, re, s, h⟩ => ?_
  unfold opMul at h
  split at h
  · simp only [Rep] at rd re
    split at h
    · rename_i z
      exact ⟨_, _, rd, re, z, h.here s _ (by simp only [Rep])⟩
    · exact h.elim
  · exact h.elim
theorem oDiv : OpR X (binaryOp .FloorDiv) (rD2 ca X.K opDiv) := by
  refine opr_imp (op_fdiv (X := X)) fun x y H Q ⟨ρ, st, d, e, rd, re, s, h⟩ => ?_
  unfold opDiv at h
  split at h
  · simp only [Rep] at rd re
    split at h
    · rename_i z
      exact ⟨_, _, rd, re, z, h.here s _ (by simp only [Rep])⟩
    · exact h.elim
  · exact h.elim
theorem oMod : OpR X (binaryOp .Mod) (rD2 ca X.K opMod) := by
  refine opr_imp (op_mod (X := X)) fun x y H Q ⟨ρ, st, d, e, rd, re, s, h⟩ => ?_
  unfold opMod at h
  split at h
  · simp only [Rep] at rd re
    split at h
    · rename_i z
      exact ⟨_, _, rd, re, z, h.here s _ (by simp only [Rep])⟩
    · exact h.elim
  · exact h.elim
theorem oPow : OpR X (binaryOp .Pow) (rD2 ca X.K opPow) := by
  refine opr_imp (op_pow (X := X)) fun x y H Q ⟨ρ, st, d, e, rd, re, s, h⟩ => ?_
  unfold opPow at h
  split at h
  · simp only [Rep] at rd re
    split at h
    · rename_i z
      exact ⟨_, _, rd, re, z, h.here s _ (by simp only [Rep])⟩
    · exact h.elim
  · exact h.elim
theorem oCat : OpR X (binaryOp .Add) (rD2 ca X.K opCat) := by
  refine opr_imp (op_cat (X := X)) fun x y H Q ⟨ρ, st, d, e, rd, re, s, h⟩ => ?_
  unfold opCat at h
  split at h
  · rename_i ds es q1 q2
    obtain ⟨p, xs, rfl, h1, r1⟩ := mlOf_rep s q1 rd
    obtain ⟨q, ys, rfl, h2, r2⟩ := mlOf_rep s q2 re
    split at h
    · rename_i z
      exact ⟨p, q, xs, ys, rfl, rfl, h1, h2, by rw [r1.length, r2.length]; exact z, fun t ht => h _ ρ (Ext.upd_new s ht) (s.upd_new ht) _ (rep_lv_new s ht (r1.append r2))⟩
    · exact h.elim
  · exact h.elim
theorem oCatO : OpR X (binaryOp .Add) (rD2 ca X.K opCatO) := by
  refine opr_imp (op_cat (X := X)) fun x y H Q ⟨ρ, st, d, e, rd, re, s, h⟩ => ?_
  unfold opCatO at h
  split at h
  · rename_i ds es q1 q2
    obtain ⟨p, xs, rfl, h1, r1⟩ := mlOf_rep s q1 rd
    obtain ⟨q, ys, rfl, h2, r2⟩ := mlOf_rep s q2 re
    split at h
    · rename_i z
      exact ⟨p, q, xs, ys, rfl, rfl, h1, h2, by rw [r1.length, r2.length]; exact z, fun t ht => h _ _ (ext_more s ht _) (srep_lst_new s ht (r1.append r2)) _ (rep_obj_new _)⟩
    · exact h.elim
  · exact h.elim
theorem cmp_int {op : CmpOp} {p : Int → Int → Bool} (h : OpR X (compareOp op) (rI0 fun i j => .bl (p i j))) : OpR X (compareOp op) (rD2 ca X.K (cmpI p)) := by
  refine opr_imp h fun x y H Q ⟨ρ, st, d, e, rd, re, s, h⟩ => ?_
  unfold cmpI at h
  split at h
  · simp only [Rep] at rd re
    exact ⟨_, _, rd, re, h.here s _ (by simp only [Rep])⟩
  · exact h.elim
theorem oLt : OpR X (compareOp .Lt) (rD2 ca X.K opLt) := cmp_int op_lt
theorem oLe : OpR X (compareOp .LtE) (rD2 ca X.K opLe) := cmp_int op_le
theorem oGt : OpR X (compareOp .Gt) (rD2 ca X.K opGt) := cmp_int op_gt
theorem oGe : OpR X (compareOp .GtE) (rD2 ca X.K opGe) := cmp_int op_ge
theorem eqS_rep {K : PySem.W.Frag} {ρ : Nat → Addr} {H : Hp} {n : Nat} {d e : D} {v u : V} {b : Bool} (h : eqS d e = some b) (rd : Rep K ca ρ n H d v) (re : Rep K ca ρ n H e u) : scal v u = true ∧ decide (v = u) = b := by
  cases d <;> cases e <;> simp only [eqS, Option.some.injEq, reduceCtorEq] at h <;> simp only [Rep] at rd re <;> subst rd re <;> subst h <;>
    first
    | exact ⟨rfl, by simp⟩
    | exact ⟨rfl, rfl⟩
theorem oEq (hu : X.A.units + 64 < cLine) : OpR X (compareOp .Eq) (rD2 ca X.K opEq) := by
  refine opr_imp ((op_eq (X := X)).or (op_eqD hu)) fun x y H Q ⟨ρ, st, d, e, rd, re, s, h⟩ => ?_
  unfold opEq eqD at h
  cases q : eqS d e with
  | some b =>
    simp only [q, ofB] at h
    obtain ⟨h1, h2⟩ := eqS_rep q rd re
    exact .inl ⟨h1, by rw [h2]; exact h.here s _ (by simp only [Rep])⟩
  | none =>
    simp only [q, eqDeep] at h
    cases e1 : toPyS st d with
    | none => simp only [e1, ofB] at h; exact h.elim
    | some p1 =>
      cases e2 : toPyS st e with
      | none => simp only [e1, e2, ofB] at h; exact h.elim
      | some p2 =>
        simp only [e1, e2] at h
        split at h
        · rename_i hh
          exact .inr ⟨p1, p2, dpS_of s e1 rd, dpS_of s e2 re, hh.1, hh.2, h.here s _ (by simp only [Rep])⟩
        · exact h.elim
theorem oNe (hu : X.A.units + 64 < cLine) : OpR X (compareOp .NotEq) (rD2 ca X.K opNe) := by
  refine opr_imp ((op_ne (X := X)).or (op_neD hu)) fun x y H Q ⟨ρ, st, d, e, rd, re, s, h⟩ => ?_
  unfold opNe eqD at h
  cases q : eqS d e with
  | some b =>
    simp only [q, ofB, Option.map_some] at h
    obtain ⟨h1, h2⟩ := eqS_rep q rd re
    exact .inl ⟨h1, by rw [h2]; exact h.here s _ (by simp only [Rep])⟩
  | none =>
    simp only [q, eqDeep] at h
    cases e1 : toPyS st d with
    | none => simp only [e1, ofB] at h; exact h.elim
    | some p1 =>
      cases e2 : toPyS st e with
      | none => simp only [e1, e2, ofB] at h; exact h.elim
      | some p2 =>
        simp only [e1, e2] at h
        split at h
        · rename_i hh
          exact .inr ⟨p1, p2, dpS_of s e1 rd, dpS_of s e2 re, hh.1, hh.2, h.here s _ (by simp only [Rep])⟩
        · exact h.elim
theorem non_iff {K : PySem.W.Frag} {ρ : Nat → Addr} {H : Hp} {n : Nat} {d : D} {v : V} (rd : Rep K ca ρ n H d v) : decide (v = .non) = isNonD d := by
  cases d <;> simp only [Rep] at rd <;> first
    | (subst rd; rfl)
    | (obtain ⟨_, rfl⟩ := rd; rfl)
    | (obtain ⟨_, _, rfl, _⟩ := rd; rfl)
theorem oIs : OpR X (compareOp .Is) (rD2 ca X.K opIs) := by
  refine opr_imp (op_isN (X := X)) fun x y H Q ⟨ρ, st, d, e, rd, re, s, h⟩ => ?_
  unfold opIs at h
  split at h
  · simp only [Rep] at re
    exact ⟨re, by rw [non_iff rd]; exact h.here s _ (by simp only [Rep])⟩
  · exact h.elim
theorem oIsNot : OpR X (compareOp .IsNot) (rD2 ca X.K opIsNot) := by
  refine opr_imp (op_notN (X := X)) fun x y H Q ⟨ρ, st, d, e, rd, re, s, h⟩ => ?_
  unfold opIsNot at h
  split at h
  · simp only [Rep] at re
    exact ⟨re, by rw [non_iff rd]; exact h.here s _ (by simp only [Rep])⟩
  · exact h.elim

/-! ### the binary operators as expressions -/
theorem je_add (ha : JE X ca W a f) (hb : JE X ca W b g) : JE X ca W (.BinOp a .Add b pos) (fOp opAdd f g) := je_op oAdd opAdd_nox ha hb
theorem je_cat (ha : JE X ca W a f) (hb : JE X ca W b g) : JE X ca W (.BinOp a .Add b pos) (fOp opCat f g) := je_op oCat opCat_nox ha hb
theorem je_catO (ha : JE X ca W a f) (hb : JE X ca W b g) : JE X ca W (.BinOp a .Add b pos) (fOp opCatO f g) := je_op oCatO opCatO_nox ha hb
theorem je_sub (ha : JE X ca W a f) (hb : JE X ca W b g) : JE X ca W (.BinOp a .Sub b pos) (fOp opSub f g) := je_op oSub opSub_nox ha hb
theorem je_mul (ha : JE X ca W a f) (hb : JE X ca W b g) : JE X ca W (.BinOp a .Mult b pos) (fOp opMul f g) := je_op oMul opMul_nox ha hb
theorem je_div (ha : JE X ca W a f) (hb : JE X ca W b g) : JE X ca W (.BinOp a .FloorDiv b pos) (fOp opDiv f g) := je_op oDiv opDiv_nox ha hb
theorem je_mod (ha : JE X ca W a f) (hb : JE X ca W b g) : JE X ca W (.BinOp a .Mod b pos) (fOp opMod f g) := je_op oMod opMod_nox ha hb
theorem je_pow (ha : JE X ca W a f) (hb : JE X ca W b g) : JE X ca W (.BinOp a .Pow b pos) (fOp opPow f g) := je_op oPow opPow_nox ha hb
/-- room for a comparison of data -/
abbrev Deep (X : Cx) : Prop := X.A.units + 65 < cLine
theorem je_eq (hu : Deep X) (ha : JE X ca W a f) (hb : JE X ca W b g) : JE X ca W (.Compare a [.Eq] [b] pos) (fOp opEq f g) := je_cmp (oEq (Nat.lt_of_succ_lt hu)) opEq_nox ha hb (nomark _)
theorem je_ne (hu : Deep X) (ha : JE X ca W a f) (hb : JE X ca W b g) : JE X ca W (.Compare a [.NotEq] [b] pos) (fOp opNe f g) := je_cmp (oNe (Nat.lt_of_succ_lt hu)) opNe_nox ha hb (nomark _)
theorem je_lt (ha : JE X ca W a f) (hb : JE X ca W b g) : JE X ca W (.Compare a [.Lt] [b] pos) (fOp opLt f g) := je_cmp oLt (cmpI_nox _) ha hb (nomark _)
theorem je_le (ha : JE X ca W a f) (hb : JE X ca W b g) : JE X ca W (.Compare a [.LtE] [b] pos) (fOp opLe f g) := je_cmp oLe (cmpI_nox _) ha hb (nomark _)
theorem je_gt (ha : JE X ca W a f) (hb : JE X ca W b g) : JE X ca W (.Compare a [.Gt] [b] pos) (fOp opGt f g) := je_cmp oGt (cmpI_nox _) ha hb (nomark _)
theorem je_ge (ha : JE X ca W a f) (hb : JE X ca W b g) : JE X ca W (.Compare a [.GtE] [b] pos) (fOp opGe f g) := je_cmp oGe (cmpI_nox _) ha hb (nomark _)
theorem je_is (ha : JE X ca W a f) (hb : JE X ca W b g) : JE X ca W (.Compare a [.Is] [b] pos) (fOp opIs f g) := je_cmp oIs opIs_nox ha hb (nomark _)
theorem je_isnot (ha : JE X ca W a f) (hb : JE X ca W b g) : JE X ca W (.Compare a [.IsNot] [b] pos) (fOp opIsNot f g) := je_cmp oIsNot opIsNot_nox ha hb (nomark _)
theorem jb_eq (hu : Deep X) (ha : JE X ca W a f) (hb : JE X ca W b g) : JB X ca W (.Compare a [.Eq] [b] pos) (bOf (fOp opEq f g)) := jb_cmp (oEq (Nat.lt_of_succ_lt hu)) opEq_nox ha hb (nomark _)
theorem jb_ne (hu : Deep X) (ha : JE X ca W a f) (hb : JE X ca W b g) : JB X ca W (.Compare a [.NotEq] [b] pos) (bOf (fOp opNe f g)) := jb_cmp (oNe (Nat.lt_of_succ_lt hu)) opNe_nox ha hb (nomark _)
theorem jb_lt (ha : JE X ca W a f) (hb : JE X ca W b g) : JB X ca W (.Compare a [.Lt] [b] pos) (bOf (fOp opLt f g)) := jb_cmp oLt (cmpI_nox _) ha hb (nomark _)
theorem jb_le (ha : JE X ca W a f) (hb : JE X ca W b g) : JB X ca W (.Compare a [.LtE] [b] pos) (bOf (fOp opLe f g)) := jb_cmp oLe (cmpI_nox _) ha hb (nomark _)
theorem jb_gt (ha : JE X ca W a f) (hb : JE X ca W b g) : JB X ca W (.Compare a [.Gt] [b] pos) (bOf (fOp opGt f g)) := jb_cmp oGt (cmpI_nox _) ha hb (nomark _)
theorem jb_ge (ha : JE X ca W a f) (hb : JE X ca W b g) : JB X ca W (.Compare a [.GtE] [b] pos) (bOf (fOp opGe f g)) := jb_cmp oGe (cmpI_nox _) ha hb (nomark _)
theorem jb_is (ha : JE X ca W a f) (hb : JE X ca W b g) : JB X ca W (.Compare a [.Is] [b] pos) (bOf (fOp opIs f g)) := jb_cmp oIs opIs_nox ha hb (nomark _)
theorem jb_isnot (ha : JE X ca W a f) (hb : JE X ca W b g) : JB X ca W (.Compare a [.IsNot] [b] pos) (bOf (fOp opIsNot f g)) := jb_cmp oIsNot opIsNot_nox ha hb (nomark _)
/-! ### in, not in -/
theorem or_two (o : Value → Value → Sem Value) {r r' : R2} (h : OpR X o r) (h' : OpR X o r') : OpR X o (fun x y H Q => r x y H Q ∨ r' x y H Q) := h.or h'
/-- not a dict -/
theorem oIn0 (hu : Deep X) : OpR X (compareOp .In) (rD2 ca X.K fun d e st => match dictLook st e d with | some _ => .bad | none => opIn d e st) := by
  refine opr_imp ((op_in_str (X := X)).or ((op_in_seq (X := X)).or (op_inD hu))) fun x y H Q ⟨ρ, st, d, e, rd, re, s, h⟩ => ?_
  cases q0 : dictLook st e d with
  | some _ => simp only [q0] at h; exact h.elim
  | none =>
  simp only [q0, opIn, memD] at h
  split at h
  · rename_i z
    split at h
    · simp only [Rep] at rd re
      exact .inl ⟨_, _, rd, re, h.here s _ (by simp only [Rep])⟩
    · exact h.elim
  · cases q1 : seqOf st e with
    | none => simp only [q1, q0, Option.map_none, ofB] at h; exact h.elim
    | some es =>
      obtain ⟨p, xs, rfl, hq, rs⟩ := seqOf_rep s q1 re
      simp only [q1] at h
      split at h
      · rename_i w ws e1 e2
        obtain ⟨rfl, h1⟩ := flD_rep e1 rd
        obtain ⟨rfl, h2⟩ := flDs_rep e2 rs
        exact .inr (.inl ⟨p, _, rfl, hq, h1, h2, h.here s _ (by simp only [Rep] <;> rfl)⟩)
      · split at h
        · rename_i es' pp ps q2 q3 q4
          split at h
          · rename_i hh
            obtain ⟨p2, xs2, e', hq2, rs2⟩ := listOf_rep s q2 re
            cases e'
            have ees : es' = es := by
              cases e <;> simp only [listOf, seqOf, reduceCtorEq] at q1 q2 <;> simp_all
            subst ees
            exact .inr (.inr ⟨pp, ps, dp_of q3 rd, .lst hq2 (dps_of q4 rs2), hh.1, hh.2, h.here s _ (by simp only [Rep])⟩)
          · exact h.elim
        · exact h.elim
theorem oNotIn0 (hu : Deep X) : OpR X (compareOp .NotIn) (rD2 ca X.K fun d e st => match dictLook st e d with | some _ => .bad | none => opNotIn d e st) := by
  refine opr_imp ((op_notin_str (X := X)).or ((op_notIn_seq (X := X)).or (op_notInD hu))) fun x y H Q ⟨ρ, st, d, e, rd, re, s, h⟩ => ?_
  cases q0 : dictLook st e d with
  | some _ => simp only [q0] at h; exact h.elim
  | none =>
  simp only [q0, opNotIn, memD] at h
  split at h
  · rename_i z
    split at h
    · simp only [Rep] at rd re
      exact .inl ⟨_, _, rd, re, h.here s _ (by simp only [Rep])⟩
    · exact h.elim
  · cases q1 : seqOf st e with
    | none => simp only [q1, q0, Option.map_none, ofB] at h; exact h.elim
    | some es =>
      obtain ⟨p, xs, rfl, hq, rs⟩ := seqOf_rep s q1 re
      simp only [q1] at h
      split at h
      · rename_i w ws e1 e2
        obtain ⟨rfl, h1⟩ := flD_rep e1 rd
        obtain ⟨rfl, h2⟩ := flDs_rep e2 rs
        exact .inr (.inl ⟨p, _, rfl, hq, h1, h2, h.here s _ (by simp only [Rep] <;> rfl)⟩)
      · split at h
        · rename_i es' pp ps q2 q3 q4
          split at h
          · rename_i hh
            obtain ⟨p2, xs2, e', hq2, rs2⟩ := listOf_rep s q2 re
            cases e'
            have ees : es' = es := by
              cases e <;> simp only [listOf, seqOf, reduceCtorEq] at q1 q2 <;> simp_all
            subst ees
            exact .inr (.inr ⟨pp, ps, dp_of q3 rd, .lst hq2 (dps_of q4 rs2), hh.1, hh.2, h.here s _ (by simp only [Rep])⟩)
          · exact h.elim
        · exact h.elim
end
end DL
set_option Elab.async false
set_option linter.all false
set_option maxRecDepth 100000
set_option maxHeartbeats 4000000
namespace DL
open PySem PySem.Spec PyProof.Rows L2
section
variable {X : Cx} {ca : CA} {W : WX} {a b c e : Expr} {es rest : List Expr} {f g k : FE} {pos : Pos}
/-- + of anything -/
def opAddA (d e : D) (st : Sto) : R D := match mlOf st d, mlOf st e with
  | some _, some _ => opCat d e st
  | _, _ => opAdd d e st
theorem opAddA_nox (d e st) : NoEx (opAddA d e st) := by
  unfold opAddA; split
  · exact opCat_nox _ _ _
  · exact opAdd_nox _ _ _
theorem oAddA : OpR X (binaryOp .Add) (rD2 ca X.K opAddA) := by
  refine opr_imp ((oCat (X := X) (ca := ca)).or (oAdd (X := X) (ca := ca))) fun x y H Q ⟨ρ, st, d, e, rd, re, s, h⟩ => ?_
  unfold opAddA at h
  split at h
  · exact .inl ⟨ρ, st, d, e, rd, re, s, h⟩
  · exact .inr ⟨ρ, st, d, e, rd, re, s, h⟩
theorem je_addA (ha : JE X ca W a f) (hb : JE X ca W b g) : JE X ca W (.BinOp a .Add b pos) (fOp opAddA f g) := je_op oAddA opAddA_nox ha hb

/-! ### in, not in -/
theorem je_in_aux {op : CmpOp} {o : D → D → Sto → R D} {neg : Bool} (ho : OpR X (compareOp op) (rD2 ca X.K fun d e st => match dictLook st e d with | some _ => .bad | none => o d e st)) (hn : ∀ d e st, NoEx (o d e st))
    (hd : ∀ d e st w, dictLook st e d = some w → o d e st = .ok (.bl (if neg then !w.isSome else w.isSome)) st)
    {t : TE → TE → TE} (hp : ∀ {ta tb : TE}, PE X a ta → PE X b tb → PE X (.Compare a [op] [b] pos) (t ta tb))
    (ht : ∀ ta tb σ H Q, (ta σ H fun y H1 => tb σ H1 fun x H2 => ∃ p o, x = .ref p ∧ DGet H2 p y o ∧ Q (.bl (if neg then !o.isSome else o.isSome)) H2) → t ta tb σ H Q)
    (ha : JE X ca W a f) (hb : JE X ca W b g) (hm : behindInMarks op b = false) : JE X ca W (.Compare a [op] [b] pos) (fOp o f g) := by
  refine pe_imp (pe_or (pe_cmpR ho ha hb hm) (hp ha hb)) fun σ H Q ⟨ρ, st, τ, sl, s, h⟩ => ?_
  by_cases hc : ∃ d st1 e st2 w, f τ st = .ok d st1 ∧ g τ st1 = .ok e st2 ∧ dictLook st2 e d = some w
  · obtain ⟨d, st1, e, st2, w, e1, e2, e3⟩ := hc
    refine .inr (ht _ _ _ _ _ ?_)
    refine at_ofE sl s h fun d' ρ1 st1' H1 q1 x1 sl1 s1 h1 v r1 => ?_
    rw [e1] at q1; cases q1
    refine at_ofE sl1 s1 h1 fun e' ρ2 st2' H2 q2 x2 sl2 s2 h2 u r2 => ?_
    rw [e2] at q2; cases q2
    rw [hd _ _ _ _ e3] at h2
    obtain ⟨p, z, ex, _, hg, hz⟩ := dictLook_rep s2 e3 r2 (r1.ext x2)
    refine ⟨p, z, ex, hg, ?_⟩
    have hw : z.isSome = w.isSome := by
      rcases hz with ⟨h1, h2⟩ | ⟨_, _, h1, h2, _⟩ <;> rw [h1, h2] <;> rfl
    rw [hw]
    exact h2.here s2 _ (by simp only [Rep])
  · refine .inl ?_
    refine at_ofE sl s h fun d ρ1 st1 H1 e1 x1 sl1 s1 h1 v r1 => ?_
    refine at_ofE sl1 s1 h1 fun e ρ2 st2 H2 e2 x2 sl2 s2 h2 u r2 => ?_
    refine ⟨ρ2, st2, d, e, r1.ext x2, r2, s2, ?_⟩
    have e3 : dictLook st2 e d = none := by
      cases q : dictLook st2 e d with
      | none => rfl
      | some w => exact absurd ⟨d, st1, e, st2, w, e1, e2, q⟩ hc
    simp only [e3]
    exact h2.nox (hn _ _ _)
theorem dictLook_str {st : Sto} {z : Str} {d : D} : dictLook st (.str z) d = none := rfl
theorem memD_dict {st : Sto} {d e : D} {w : Option D} (h : dictLook st e d = some w) : memD st d e = some w.isSome := by
  cases e with
  | dv ks vs => simp only [memD, seqOf, listOf, h, Option.map_some]
  | obj i =>
    have q : listOf st (.obj i) = none := by
      simp only [dictLook] at h
      simp only [listOf]
      cases e : st[i]? with
      | none => rfl
      | some m => cases m <;> simp [e] at h ⊢
    simp only [memD, seqOf, q, h, Option.map_some]
  | _ => simp [dictLook] at h
theorem opIn_dict (d e : D) (st : Sto) (w : Option D) (h : dictLook st e d = some w) : opIn d e st = .ok (.bl w.isSome) st := by
  simp only [opIn, memD_dict h, ofB]
theorem opNotIn_dict (d e : D) (st : Sto) (w : Option D) (h : dictLook st e d = some w) : opNotIn d e st = .ok (.bl (!w.isSome)) st := by
  simp only [opNotIn, memD_dict h, ofB, Option.map_some]
theorem deep1 (hu : Deep X) : X.A.units + 1 < cLine := Nat.lt_of_le_of_lt (Nat.add_le_add_left (by decide) _) hu
theorem je_in (hu : Deep X) (ha : JE X ca W a f) (hb : JE X ca W b g) (hm : behindInMarks .In b = false := by with_unfolding_all rfl) : JE X ca W (.Compare a [.In] [b] pos) (fOp opIn f g) :=
  je_in_aux (neg := false) (oIn0 hu) opIn_nox (fun d e st w h => opIn_dict d e st w h) (t := tDIn) (fun p q => pe_cmp (pc_din (deep1 hu) p q) hm) (fun ta tb σ H Q h => h) ha hb hm
theorem je_notin (hu : Deep X) (ha : JE X ca W a f) (hb : JE X ca W b g) (hm : behindInMarks .NotIn b = false := by with_unfolding_all rfl) : JE X ca W (.Compare a [.NotIn] [b] pos) (fOp opNotIn f g) :=
  je_in_aux (neg := true) (oNotIn0 hu) opNotIn_nox (fun d e st w h => opNotIn_dict d e st w h) (t := tDNotIn) (fun p q => pe_cmp (pc_dnotin (deep1 hu) p q) hm) (fun ta tb σ H Q h => h) ha hb hm
/-- a comparison as a test, from it as a value -/
theorem pt_of_cmp {op : CmpOp} {t : TE} (h : PE X (.Compare a [op] [b] pos) t) (hm : behindInMarks op b = false) (hr : ∀ (pins : List (Addr × Obj)) (s : Shared) (σ : L2.St) (H : Hp) (Q : VK), Inv X pins σ H s → t σ H Q → wpAny (model X.prog X.w) X.A (eval (.Compare a [op] [b] pos) X.env) (EP X pins σ Q) X.xe s) : True := True.intro
theorem jb_in_aux {op : CmpOp} {o : D → D → Sto → R D} {neg : Bool} (ho : OpR X (compareOp op) (rD2 ca X.K fun d e st => match dictLook st e d with | some _ => .bad | none => o d e st)) (hn : ∀ d e st, NoEx (o d e st))
    (hd : ∀ d e st w, dictLook st e d = some w → o d e st = .ok (.bl (if neg then !w.isSome else w.isSome)) st)
    {t : TE → TE → TE} (hp : ∀ {ta tb : TE}, PE X a ta → PE X b tb → PC X op a b (t ta tb))
    (ht : ∀ ta tb σ H Q, (ta σ H fun y H1 => tb σ H1 fun x H2 => ∃ p o, x = .ref p ∧ DGet H2 p y o ∧ Q (.bl (if neg then !o.isSome else o.isSome)) H2) → t ta tb σ H Q)
    (ha : JE X ca W a f) (hb : JE X ca W b g) (hm : behindInMarks op b = false) : JB X ca W (.Compare a [op] [b] pos) (bOf (fOp o f g)) := by
  have pt_or : ∀ {t t' : TT}, PT X (.Compare a [op] [b] pos) t → PT X (.Compare a [op] [b] pos) t' → PT X (.Compare a [op] [b] pos) (fun σ H Q => t σ H Q ∨ t' σ H Q) := fun h h' => ⟨fun pins s σ H Q I q => q.elim (h.run pins s σ H Q I) (h'.run pins s σ H Q I)⟩
  refine pt_imp (pt_or (pt_cmpR ho ha hb hm) (pt_cmp (hp ha hb) hm)) fun σ H Q ⟨ρ, st, τ, sl, s, h⟩ => ?_
  simp only [bOf, fOp, R.bind_assoc] at h
  by_cases hc : ∃ d st1 e st2 w, f τ st = .ok d st1 ∧ g τ st1 = .ok e st2 ∧ dictLook st2 e d = some w
  · obtain ⟨d, st1, e, st2, w, e1, e2, e3⟩ := hc
    refine .inr (ht _ _ _ _ _ ?_)
    refine at_ofE sl s h fun d' ρ1 st1' H1 q1 x1 sl1 s1 h1 v r1 => ?_
    rw [e1] at q1; cases q1
    refine at_ofE sl1 s1 h1 fun e' ρ2 st2' H2 q2 x2 sl2 s2 h2 u r2 => ?_
    rw [e2] at q2; cases q2
    rw [hd _ _ _ _ e3] at h2
    obtain ⟨p, z, ex, _, hg, hz⟩ := dictLook_rep s2 e3 r2 (r1.ext x2)
    refine ⟨p, z, ex, hg, _, rfl, ?_⟩
    have hw : z.isSome = w.isSome := by
      rcases hz with ⟨h1, h2⟩ | ⟨_, _, h1, h2, _⟩ <;> rw [h1, h2] <;> rfl
    rw [hw]
    exact h2.here s2
  · refine .inl ?_
    refine at_ofE sl s h fun d ρ1 st1 H1 e1 x1 sl1 s1 h1 v r1 => ?_
    refine at_ofE sl1 s1 h1 fun e ρ2 st2 H2 e2 x2 sl2 s2 h2 u r2 => ?_
    refine ⟨ρ2, st2, d, e, r1.ext x2, r2, s2, ?_⟩
    have e3 : dictLook st2 e d = none := by
      cases q : dictLook st2 e d with
      | none => rfl
      | some w => exact absurd ⟨d, st1, e, st2, w, e1, e2, q⟩ hc
    simp only [e3]
    have h3 := Post.bind h2
    refine (h3.nox (hn _ _ _)).mono fun a ρ3 st3 H3 x3 s3 q v3 r3 => ?_
    obtain ⟨_, _, q⟩ := q
    cases a with
    | bl k => simp only [Rep] at r3; exact ⟨k, r3, q.here s3⟩
    | _ => exact q.elim
theorem jb_in (hu : Deep X) (ha : JE X ca W a f) (hb : JE X ca W b g) (hm : behindInMarks .In b = false := by with_unfolding_all rfl) : JB X ca W (.Compare a [.In] [b] pos) (bOf (fOp opIn f g)) :=
  jb_in_aux (neg := false) (oIn0 hu) opIn_nox (fun d e st w h => opIn_dict d e st w h) (t := tDIn) (fun p q => pc_din (deep1 hu) p q) (fun ta tb σ H Q h => h) ha hb hm
theorem jb_notin (hu : Deep X) (ha : JE X ca W a f) (hb : JE X ca W b g) (hm : behindInMarks .NotIn b = false := by with_unfolding_all rfl) : JB X ca W (.Compare a [.NotIn] [b] pos) (bOf (fOp opNotIn f g)) :=
  jb_in_aux (neg := true) (oNotIn0 hu) opNotIn_nox (fun d e st w h => opNotIn_dict d e st w h) (t := tDNotIn) (fun p q => pc_dnotin (deep1 hu) p q) (fun ta tb σ H Q h => h) ha hb hm

/-! ### a subscript -/
theorem atI_get {K : PySem.W.Frag} {ρ : Nat → Addr} {n : Nat} {H : Hp} {ds : List D} {xs : List V} {i : Int} {z : D} (r : Reps K ca ρ n H ds xs) (h : atI ds i = some z) : ∃ v, atI xs i = some v ∧ Rep K ca ρ n H z v := by
  unfold atI at h ⊢
  rw [r.length]
  cases e : ixN ds.length i with
  | none => rw [e] at h; cases h
  | some j =>
    rw [e] at h
    exact r.get h
theorem oIxS : IxR X (fun x y H Q => ∃ ρ st d e, Rep X.K ca ρ st.length H d x ∧ Rep X.K ca ρ st.length H e y ∧ SRep X.K ca ρ H st ∧ (dictLook st d e = none ∧ Post X.K ca (fun _ _ _ _ => False) ρ st.length H (opIx d e st) (KD X.K ca Q))) := by
  intro value slice pins s σ H x y v u Q I rx ry ⟨ρ, st, d, e, rd, re, sr, q0, h⟩
  refine ix_seq (X := X) value slice pins s σ H x y v u Q I rx ry ?_
  unfold opIx at h
  split at h
  · split at h
    · split at h
      · rename_i z
        split at h
        · rename_i c hc
          simp only [Rep] at rd re
          exact .inr (.inr ⟨_, _, c, rd, re, z, hc, h.here sr _ (by simp only [Rep])⟩)
        · exact h.elim
      · exact h.elim
    · exact h.elim
  · split at h
    · rename_i ds q1
      obtain ⟨p, xs, rfl, hq, rs⟩ := seqOf_rep sr q1 rd
      split at h
      · simp only [Rep] at re
        split at h
        · rename_i z hz
          obtain ⟨v', e', r'⟩ := atI_get rs hz
          rcases hq with hq | hq
          · exact .inl ⟨p, xs, _, v', rfl, re, hq, e', h.here sr _ r'⟩
          · exact .inr (.inl ⟨p, xs, _, v', rfl, re, hq, e', h.here sr _ r'⟩)
        · exact h.elim
      · exact h.elim
    · rw [q0] at h; exact h.elim
theorem je_ix (hu : Deep X) (ha : JE X ca W a f) (hb : JE X ca W b g) (hs : PlainIx b := by exact fun _ _ => rfl) : JE X ca W (.Subscript a b pos) (fOp opIx f g) := by
  refine pe_imp (pe_or (pe_ix (oIxS (ca := ca)) ha hb hs) (pe_dget (deep1 hu) ha hb hs)) fun σ H Q ⟨ρ, st, τ, sl, s, h⟩ => ?_
  by_cases hc : ∃ d st1 e st2 w, f τ st = .ok d st1 ∧ g τ st1 = .ok e st2 ∧ dictLook st2 d e = some w
  · obtain ⟨d, st1, e, st2, w, e1, e2, e3⟩ := hc
    refine .inr ?_
    refine at_ofE sl s h fun d' ρ1 st1' H1 q1 x1 sl1 s1 h1 v r1 => ?_
    rw [e1] at q1; cases q1
    refine at_ofE sl1 s1 h1 fun e' ρ2 st2' H2 q2 x2 sl2 s2 h2 u r2 => ?_
    rw [e2] at q2; cases q2
    obtain ⟨p, z, ex, _, hg, hz⟩ := dictLook_rep s2 e3 (r1.ext x2) r2
    have hix : opIx d e st2 = ofO w st2 := by
      cases d with
      | dv ks vs => simp only [opIx, seqOf, listOf, e3]
      | obj i =>
        have q : listOf st2 (.obj i) = none := by
          simp only [dictLook] at e3
          simp only [listOf]
          cases e : st2[i]? with
          | none => rfl
          | some m => cases m <;> simp [e] at e3 ⊢
        simp only [opIx, seqOf, q, e3]
      | _ => simp [dictLook] at e3
    rw [hix] at h2
    rcases hz with ⟨h3, h4⟩ | ⟨d', v', h3, h4, h5⟩
    · rw [h3] at h2; exact h2.elim
    · rw [h3] at h2
      exact ⟨p, v', ex, by rw [← h4]; exact hg, h2.here s2 _ h5⟩
  · refine .inl ?_
    refine at_ofE sl s h fun d ρ1 st1 H1 e1 x1 sl1 s1 h1 v r1 => ?_
    refine at_ofE sl1 s1 h1 fun e ρ2 st2 H2 e2 x2 sl2 s2 h2 u r2 => ?_
    refine ⟨ρ2, st2, d, e, r1.ext x2, r2, s2, ?_, h2.nox (opIx_nox _ _ _)⟩
    cases q : dictLook st2 d e with
    | none => rfl
    | some w => exact absurd ⟨d, st1, e, st2, w, e1, e2, q⟩ hc

/-! ### slices -/
def cutD (ds : List D) (lo hi : Option Int) : List D := (ds.drop (HT.sIx ds.length 0 lo)).take (HT.sIx ds.length ds.length hi - HT.sIx ds.length 0 lo)
theorem Reps.cut {K : PySem.W.Frag} {ρ : Nat → Addr} {n : Nat} {H : Hp} {ds : List D} {xs : List V} (r : Reps K ca ρ n H ds xs) (lo hi : Option Int) : Reps K ca ρ n H (cutD ds lo hi) (cutV xs lo hi) := by
  unfold cutD cutV
  rw [r.length]
  exact (r.drop _).take _
abbrev FO := Ti → Sto → R (Option Int)
def tDO (K : PySem.W.Frag) (ca : CA) (W : WX) (f : FO) : TO := fun σ H Q => At K ca W f σ H fun o _ _ H1 => Q o H1
def JO (X : Cx) (ca : CA) (W : WX) (e : Option Expr) (f : FO) : Prop := PO X e (tDO X.K ca W f)
def oNo : FO := fun _ st => .ok none st
def oSo (f : FE) : FO := fun τ st => (f τ st).bind fun d st1 => match d with
  | .int i => .ok (some i) st1
  | _ => .bad
theorem po_imp {e : Option Expr} {t t' : TO} (h : PO X e t) (i : ∀ σ H Q, t' σ H Q → t σ H Q) : PO X e t' := ⟨fun pins s σ H Q I q => h.run pins s σ H Q I (i σ H Q q)⟩
theorem jo_none : JO X ca W none oNo := po_imp po_none fun σ H Q ⟨ρ, st, τ, sl, s, h⟩ => h.here s
theorem jo_some (ha : JE X ca W a f) : JO X ca W (some a) (oSo f) := po_imp (po_some ha) fun σ H Q ⟨ρ, st, τ, sl, s, h⟩ =>
  at_of sl s h fun d ρ1 st1 H1 x1 sl1 s1 h1 v r1 => by
    cases d with
    | int i => simp only [Rep] at r1; exact ⟨i, r1, h1.here s1⟩
    | _ => exact h1.elim
/-- a slice: of a list a list that stays -/
def opSl (d : D) (lo hi : Option Int) (st : Sto) : R D :=
  match d with
  | .str z => if z.length ≤ sizeLine then .ok (.str (cutS z lo hi)) st else .bad
  | .tup ds => .ok (.tup (cutD ds lo hi)) st
  | d => match listOf st d with
    | some ds => .ok (.lv (cutD ds lo hi)) st
    | none => .bad
theorem opSl_nox (d lo hi st) : NoEx (opSl d lo hi st) := by unfold opSl NoEx; intros; (repeat' split) <;> (intro h; cases h)
theorem oSl : SlR X (fun x lo hi H Q => ∃ ρ st d, Rep X.K ca ρ st.length H d x ∧ SRep X.K ca ρ H st ∧ Post X.K ca (fun _ _ _ _ => False) ρ st.length H (opSl d lo hi st) (KD X.K ca Q)) := by
  intro pins s σ H x v vl vu lo hi sl Q I rx hs pl pu ⟨ρ, st, d, rd, sr, h⟩
  refine ((sl_str (X := X)).or ((sl_tupA (X := X)).or (sl_list (X := X)))) pins s σ H x v vl vu lo hi sl Q I rx hs pl pu ?_
  unfold opSl at h
  split at h
  · split at h
    · rename_i z
      simp only [Rep] at rd
      exact .inl ⟨_, rd, z, h.here sr _ (by simp only [Rep])⟩
    · exact h.elim
  · rename_i ds
    simp only [Rep] at rd
    obtain ⟨p, xs, rfl, hq, rs⟩ := rd
    refine .inr (.inl ⟨p, xs, rfl, SqT.of hq, fun hw => ?_, fun _ q hp => ?_⟩)
    · refine h.here sr _ ?_
      simp only [Rep]
      refine ⟨p, xs, rfl, hq, ?_⟩
      have e := rs.cut lo hi
      have ec : cutV xs lo hi = xs := by
        unfold cutV
        rw [hw.1, hw.2]
        simp
      rw [ec] at e
      exact e
    · exact h _ ρ (Ext.upd_new sr hp) (sr.upd_new hp) _ (rep_tup_new sr hp (rs.cut lo hi))
  · split at h
    · rename_i ds q1
      obtain ⟨p, xs, rfl, hq, rs⟩ := listOf_rep sr q1 rd
      exact .inr (.inr ⟨p, xs, rfl, hq, fun q hp => h _ ρ (Ext.upd_new sr hp) (sr.upd_new hp) _ (rep_lv_new sr hp (rs.cut lo hi))⟩)
    · exact h.elim
def fSl (f : FE) (lo hi : FO) : FE := fun τ st => (f τ st).bind fun d st1 => (lo τ st1).bind fun l st2 => (hi τ st2).bind fun u st3 => opSl d l u st3
theorem je_sl {lo hi : Option Expr} {fl fh : FO} {p2 : Pos} (ha : JE X ca W a f) (hl : JO X ca W lo fl) (hh : JO X ca W hi fh) : JE X ca W (.Subscript a (.Slice lo hi none p2) pos) (fSl f fl fh) :=
  pe_imp (pe_slice (oSl (ca := ca)) ha hl hh) fun σ H Q ⟨ρ, st, τ, sl, s, h⟩ =>
    at_of sl s h fun d ρ1 st1 H1 x1 sl1 s1 h1 v r1 =>
      at_of sl1 s1 h1 fun l ρ2 st2 H2 x2 sl2 s2 h2 =>
        at_of sl2 s2 h2 fun u ρ3 st3 H3 x3 sl3 s3 h3 => ⟨ρ3, st3, d, r1.ext (x2.trans x3), s3, h3.nox (opSl_nox _ _ _ _)⟩

/-! ### and, or, not, conditions -/
/-- a value's truth -/
def truD (st : Sto) : D → Option Bool
  | .non => some false
  | .bl b => some b
  | .int i => some (i != 0)
  | .str y => if y.length ≤ sizeLine then some ((y.length : Int) != 0) else none
  | .dv ks _ => some (!ks.isEmpty)
  | .obj i => match st[i]? with
    | some (.lst ds) => some (!ds.isEmpty)
    | some (.dic ds) => some (!ds.isEmpty)
    | _ => none
  | d => (seqOf st d).map fun ds => !ds.isEmpty
theorem Reps.isEmpty {K : PySem.W.Frag} {ρ : Nat → Addr} {n : Nat} {H : Hp} {ds : List D} {xs : List V} (r : Reps K ca ρ n H ds xs) : xs.isEmpty = ds.isEmpty := by
  cases ds with
  | nil => simp only [Reps] at r; subst r; rfl
  | cons d ds => simp only [Reps] at r; obtain ⟨v, r, rfl, _⟩ := r; rfl
theorem truD_rep {K : PySem.W.Frag} {ρ : Nat → Addr} {H : Hp} {st : Sto} (s : SRep K ca ρ H st) {d : D} {v : V} {k : Bool} (e : truD st d = some k) (r : Rep K ca ρ st.length H d v) (hd : match d with | .dv _ _ => False | _ => True) : TruV K v H k := by
  cases d with
  | non => simp only [truD, Option.some.injEq] at e; simp only [Rep] at r; subst r e; rfl
  | bl b => simp only [truD, Option.some.injEq] at e; simp only [Rep] at r; subst r e; rfl
  | int b => simp only [truD, Option.some.injEq] at e; simp only [Rep] at r; subst r e; rfl
  | str b =>
    simp only [truD] at e
    split at e
    · rename_i z
      simp only [Option.some.injEq] at e; simp only [Rep] at r; subst r e; exact ⟨z, rfl⟩
    · cases e
  | obj i =>
    simp only [truD] at e
    simp only [Rep] at r
    obtain ⟨hi, rfl⟩ := r
    cases q : st[i]? with
    | none => simp [q] at e
    | some m =>
      cases m with
      | lst ds =>
        simp only [q, Option.some.injEq] at e
        obtain ⟨xs, ha, rs⟩ := s.at_ i _ q
        exact .inl ⟨xs, SqL.of ha, by rw [← e, rs.isEmpty]⟩
      | dic ds =>
        simp only [q, Option.some.injEq] at e
        obtain ⟨xs, ha, rs⟩ := s.at_ i _ q
        refine .inr (.inr ⟨xs, ha, ?_⟩)
        rw [← e]
        have := rs.length
        cases ds <;> cases xs <;> simp_all
      | _ => simp [q] at e
  | dv _ _ => exact hd.elim
  | ty _ => simp [truD, seqOf, listOf] at e
  | glb _ => simp [truD, seqOf, listOf] at e
  | tup ds =>
    simp only [truD, seqOf, Option.map_some, Option.some.injEq] at e
    obtain ⟨p, xs, rfl, hq, rs⟩ := seqOf_rep (ds := ds) s rfl r
    rcases hq with hq | hq
    · exact .inl ⟨xs, hq, by rw [← e, rs.isEmpty]⟩
    · exact .inr (.inl ⟨xs, hq, by rw [← e, rs.isEmpty]⟩)
  | ktup ds =>
    simp only [truD, seqOf, Option.map_some, Option.some.injEq] at e
    obtain ⟨p, xs, rfl, hq, rs⟩ := seqOf_rep (ds := ds) s rfl r
    rcases hq with hq | hq
    · exact .inl ⟨xs, hq, by rw [← e, rs.isEmpty]⟩
    · exact .inr (.inl ⟨xs, hq, by rw [← e, rs.isEmpty]⟩)
  | lv ds =>
    simp only [truD, seqOf, listOf, Option.map_some, Option.some.injEq] at e
    obtain ⟨p, xs, rfl, hq, rs⟩ := seqOf_rep (ds := ds) s rfl r
    rcases hq with hq | hq
    · exact .inl ⟨xs, hq, by rw [← e, rs.isEmpty]⟩
    · exact .inr (.inl ⟨xs, hq, by rw [← e, rs.isEmpty]⟩)
  | kl ds =>
    simp only [truD, seqOf, listOf, Option.map_some, Option.some.injEq] at e
    obtain ⟨p, xs, rfl, hq, rs⟩ := seqOf_rep (ds := ds) s rfl r
    rcases hq with hq | hq
    · exact .inl ⟨xs, hq, by rw [← e, rs.isEmpty]⟩
    · exact .inr (.inl ⟨xs, hq, by rw [← e, rs.isEmpty]⟩)
/-- a value's truth, no dict that stays -/
def tru (st : Sto) (d : D) : Option Bool := match d with
  | .dv _ _ => none
  | d => truD st d
theorem tru_rep {K : PySem.W.Frag} {ρ : Nat → Addr} {H : Hp} {st : Sto} (s : SRep K ca ρ H st) {d : D} {v : V} {k : Bool} (e : tru st d = some k) (r : Rep K ca ρ st.length H d v) : TruV K v H k := by
  cases d with
  | dv _ _ => simp [tru] at e
  | _ => simp only [tru] at e; exact truD_rep s e r True.intro
def bTru (f : FE) : FB := fun τ st => (f τ st).bind fun d st1 => match tru st1 d with
  | some b => .ok b st1
  | none => .bad
/-- an expression as a test, whatever its value (no comparison, and, or, not) -/
theorem jb_tru (ha : JE X ca W a f) (he : ∀ whole, isTrue a X.env whole = (do let v ← whole; standAt a.pos; holding [v] (truthy v)) := by intro _; rfl) : JB X ca W a (bTru f) :=
  pt_imp (pt_truth ha he) fun σ H Q ⟨ρ, st, τ, sl, s, h⟩ =>
    at_of sl s h fun d ρ1 st1 H1 x1 sl1 s1 h1 v r1 => by
      cases e : tru st1 d with
      | none => simp only [e] at h1; exact h1.elim
      | some k => simp only [e] at h1; exact ⟨k, tru_rep s1 e r1, h1.here s1⟩
/-- and, or as tests -/
def JW (X : Cx) (ca : CA) (W : WX) (e : Expr) (f : FB) : Prop := PW X e (tDB X.K ca W f)
theorem JW.jb {fb : FB} (h : JW X ca W e fb) : JB X ca W e fb := PW.pt h
theorem pw_imp {e : Expr} {t t' : TT} (h : PW X e t) (i : ∀ σ H Q, t' σ H Q → t σ H Q) : PW X e t' := ⟨fun wh pins s σ H Q I q => h.run wh pins s σ H Q I (i σ H Q q)⟩
def bAnd (f g : FB) : FB := fun τ st => (f τ st).bind fun x st1 => if x = true then g τ st1 else .ok false st1
def bOr (f g : FB) : FB := fun τ st => (f τ st).bind fun x st1 => if x = true then .ok true st1 else g τ st1
def bNot (f : FB) : FB := fun τ st => (f τ st).bind fun x st1 => .ok (!x) st1
theorem jw_one {op} {fb : FB} (ha : JB X ca W a fb) : JW X ca W (.BoolOp op [a] pos) fb := by
  cases op with
  | And => exact pw_and1 ha
  | Or => exact pw_or1 ha
theorem jw_and {fa fb : FB} (ha : JB X ca W a fa) (hb : JW X ca W (.BoolOp .And (b :: rest) pos) fb) : JW X ca W (.BoolOp .And (a :: b :: rest) pos) (bAnd fa fb) :=
  pw_imp (pw_and ha hb) fun σ H Q ⟨ρ, st, τ, sl, s, h⟩ =>
    at_of sl s h fun k ρ1 st1 H1 x1 sl1 s1 h1 => by
      show if k = true then _ else _
      cases k with
      | true => rw [if_pos rfl] at h1 ⊢; exact ⟨ρ1, st1, τ, sl1, s1, h1⟩
      | false => rw [if_neg (by decide)] at h1 ⊢; exact h1.here s1
theorem jw_or {fa fb : FB} (ha : JB X ca W a fa) (hb : JW X ca W (.BoolOp .Or (b :: rest) pos) fb) : JW X ca W (.BoolOp .Or (a :: b :: rest) pos) (bOr fa fb) :=
  pw_imp (pw_or ha hb) fun σ H Q ⟨ρ, st, τ, sl, s, h⟩ =>
    at_of sl s h fun k ρ1 st1 H1 x1 sl1 s1 h1 => by
      show if k = true then _ else _
      cases k with
      | true => rw [if_pos rfl] at h1 ⊢; exact h1.here s1
      | false => rw [if_neg (by decide)] at h1 ⊢; exact ⟨ρ1, st1, τ, sl1, s1, h1⟩
theorem jb_not {fa : FB} (ha : JB X ca W a fa) : JB X ca W (.UnaryOp .Not a pos) (bNot fa) :=
  pt_imp (pt_not ha) fun σ H Q ⟨ρ, st, τ, sl, s, h⟩ =>
    at_of sl s h fun k ρ1 st1 H1 x1 sl1 s1 h1 => h1.here s1
/-- and, or, not as values: by truth, the value itself -/
def fAnd (f g : FE) : FE := fun τ st => (f τ st).bind fun d st1 => match tru st1 d with
  | some true => g τ st1
  | some false => .ok d st1
  | none => .bad
def fOr (f g : FE) : FE := fun τ st => (f τ st).bind fun d st1 => match tru st1 d with
  | some true => .ok d st1
  | some false => g τ st1
  | none => .bad
def fNot (f : FE) : FE := fun τ st => (f τ st).bind fun d st1 => match tru st1 d with
  | some b => .ok (.bl (!b)) st1
  | none => .bad
theorem je_one {op} (ha : JE X ca W a f) : JE X ca W (.BoolOp op [a] pos) f := pe_one ha
theorem je_and (ha : JE X ca W a f) (hb : JE X ca W (.BoolOp .And (b :: rest) pos) g) : JE X ca W (.BoolOp .And (a :: b :: rest) pos) (fAnd f g) :=
  pe_imp (pe_andT ha hb) fun σ H Q ⟨ρ, st, τ, sl, s, h⟩ =>
    at_of sl s h fun d ρ1 st1 H1 x1 sl1 s1 h1 v r1 => by
      cases e : tru st1 d with
      | none => simp only [e] at h1; exact h1.elim
      | some k =>
        refine ⟨k, tru_rep s1 e r1, ?_⟩
        cases k with
        | true => simp only [e] at h1; rw [if_pos rfl]; exact ⟨ρ1, st1, τ, sl1, s1, h1⟩
        | false => simp only [e] at h1; rw [if_neg (by decide)]; exact h1.here s1 _ r1
theorem je_or (ha : JE X ca W a f) (hb : JE X ca W (.BoolOp .Or (b :: rest) pos) g) : JE X ca W (.BoolOp .Or (a :: b :: rest) pos) (fOr f g) :=
  pe_imp (pe_orT ha hb) fun σ H Q ⟨ρ, st, τ, sl, s, h⟩ =>
    at_of sl s h fun d ρ1 st1 H1 x1 sl1 s1 h1 v r1 => by
      cases e : tru st1 d with
      | none => simp only [e] at h1; exact h1.elim
      | some k =>
        refine ⟨k, tru_rep s1 e r1, ?_⟩
        cases k with
        | true => simp only [e] at h1; rw [if_pos rfl]; exact h1.here s1 _ r1
        | false => simp only [e] at h1; rw [if_neg (by decide)]; exact ⟨ρ1, st1, τ, sl1, s1, h1⟩
theorem je_not (ha : JE X ca W a f) : JE X ca W (.UnaryOp .Not a pos) (fNot f) :=
  pe_imp (pe_notT ha) fun σ H Q ⟨ρ, st, τ, sl, s, h⟩ =>
    at_of sl s h fun d ρ1 st1 H1 x1 sl1 s1 h1 v r1 => by
      cases e : tru st1 d with
      | none => simp only [e] at h1; exact h1.elim
      | some k => simp only [e] at h1; exact ⟨k, tru_rep s1 e r1, h1.here s1 _ (by simp only [Rep])⟩
def fIf (t : FB) (f g : FE) : FE := fun τ st => (t τ st).bind fun x st1 => if x = true then f τ st1 else g τ st1
theorem je_if {t : FB} (hc : JB X ca W c t) (ha : JE X ca W a f) (hb : JE X ca W b g) : JE X ca W (.IfExp c a b pos) (fIf t f g) :=
  pe_imp (pe_ifExp hc ha hb) fun σ H Q ⟨ρ, st, τ, sl, s, h⟩ =>
    at_of sl s h fun k ρ1 st1 H1 x1 sl1 s1 h1 => by
      show if k = true then _ else _
      cases k with
      | true => rw [if_pos rfl] at h1 ⊢; exact ⟨ρ1, st1, τ, sl1, s1, h1⟩
      | false => rw [if_neg (by decide)] at h1 ⊢; exact ⟨ρ1, st1, τ, sl1, s1, h1⟩
end
end DL
set_option Elab.async false
set_option linter.all false
set_option maxRecDepth 100000
set_option maxHeartbeats 4000000
namespace DL
open PySem PySem.Spec PyProof.Rows L2
section
variable {X : Cx} {ca : CA} {W : WX} {a b c e : Expr} {es rest : List Expr} {f g k : FE} {pos : Pos} {s₁ : Stmt} {ss : List Stmt} {u v w : FS}
/-! ### blocks -/
def sSeq (u v : FS) : FS := fun τ st => (u τ st).bind fun o st1 => match o with
  | .nx τ1 => v τ1 st1
  | o => .ok o st1
def sNil : FS := fun τ st => .ok (.nx τ) st
theorem jss_nil : JSs X ca W [] sNil := pss_imp pss_nil fun Dn σ H ⟨ρ, st, τ, sl, s, h⟩ => h.here s σ sl
theorem jss_one (h1 : JS X ca W s₁ u) : JSs X ca W [s₁] u := pss_one h1
theorem jss_cons (h1 : JS X ca W s₁ u) (h2 : JSs X ca W ss v) : JSs X ca W (s₁ :: ss) (sSeq u v) :=
  pss_imp (pss_cons h1 h2) fun Dn σ H ⟨ρ, st, τ, sl, s, h⟩ =>
    at_of sl s h fun o ρ1 st1 H1 x1 sl1 s1 h1 => by
      cases o with
      | nx τ1 => exact fun σ1 sl2 => ⟨ρ1, st1, τ1, sl2, s1, h1⟩
      | rt d => exact h1.here s1
      | bk τ1 => exact h1.here s1
      | ct τ1 => exact h1.here s1
/-! ### small statements -/
def sExp (f : FE) : FS := fun τ st => (f τ st).bind fun _ st1 => .ok (.nx τ) st1
theorem js_expr (ha : JE X ca W a f) (hs : swapsWith a none pos.line X.env = pure false := by rfl) : JS X ca W (.Expr a pos) (sExp f) :=
  ps_imp (ps_expr ha hs) fun Dn σ H ⟨ρ, st, τ, sl, s, h⟩ => at_of sl s h fun d ρ1 st1 H1 x1 sl1 s1 h1 v r1 => h1.here s1 σ sl1
def sRet (f : FE) : FS := fun τ st => (f τ st).bind fun d st1 => .ok (.rt d) st1
theorem js_ret (ha : JE X ca W a f) : JS X ca W (.Return (some a) pos) (sRet f) :=
  ps_imp (ps_ret ha) fun Dn σ H ⟨ρ, st, τ, sl, s, h⟩ => at_of sl s h fun d ρ1 st1 H1 x1 sl1 s1 h1 v r1 => h1.here s1 v r1
def sRetN : FS := fun _ st => .ok (.rt .non) st
theorem js_retN : JS X ca W (.Return none pos) sRetN := ps_imp ps_retN fun Dn σ H ⟨ρ, st, τ, sl, s, h⟩ => h.here s _ (by simp only [Rep])
def sBrk : FS := fun τ st => .ok (.bk τ) st
def sCnt : FS := fun τ st => .ok (.ct τ) st
theorem js_break : JS X ca W (.Break pos) sBrk := ps_imp ps_break fun Dn σ H ⟨ρ, st, τ, sl, s, h⟩ => h.here s σ sl
theorem js_continue : JS X ca W (.Continue pos) sCnt := ps_imp ps_continue fun Dn σ H ⟨ρ, st, τ, sl, s, h⟩ => h.here s σ sl
theorem js_pass : JS X ca W (.Pass pos) sNil := ps_imp ps_pass fun Dn σ H ⟨ρ, st, τ, sl, s, h⟩ => h.here s σ sl
def sIf (t : FB) (u v : FS) : FS := fun τ st => (t τ st).bind fun x st1 => if x = true then u τ st1 else v τ st1
theorem js_if {t : FB} {as bs : List Stmt} (hc : JB X ca W c t) (ha : JSs X ca W as u) (hb : JSs X ca W bs v) : JS X ca W (.If c as bs pos) (sIf t u v) :=
  ps_imp (ps_if hc ha hb) fun Dn σ H ⟨ρ, st, τ, sl, s, h⟩ =>
    at_of sl s h fun k ρ1 st1 H1 x1 sl1 s1 h1 => by
      show if k = true then _ else _
      cases k with
      | true => rw [if_pos rfl] at h1 ⊢; exact ⟨ρ1, st1, τ, sl1, s1, h1⟩
      | false => rw [if_neg (by decide)] at h1 ⊢; exact ⟨ρ1, st1, τ, sl1, s1, h1⟩
/-- name = value -/
def sSet (i : Nat) (f : FE) : FS := fun τ st => (f τ st).bind fun d st1 => .ok (.nx (τ.set i (some d))) st1
theorem js_set (i : Nat) {x : Str} {pos' : Pos} (hN : X.N.Nodup) (ha : JE X ca W a f) (hi : X.N[i]? = some x := by rfl) (hx : Loc X.env.scope x := by first | exact Or.inl rfl | exact Or.inr rfl) (hs : swapsWith a (some (.Name x pos')) pos.line X.env = pure false := by rfl)
    (hf : X.fn x = true ∨ X.env.scope.names.lookup x = some .local := by first | exact .inl rfl | exact .inr rfl | assumption) : JS X ca W (.Assign [.Name x pos'] a pos) (sSet i f) :=
  ps_imp (ps_set (i := i) hN hi hx ha hs hf) fun Dn σ H ⟨ρ, st, τ, sl, s, h⟩ => at_of sl s h fun d ρ1 st1 H1 x1 sl1 s1 h1 v r1 => h1.here s1 _ (sl1.set r1 i)

/-! ### targets -/
abbrev FG := D → Ti → Sto → R Ti
abbrev FGs := List D → Ti → Sto → R Ti
def tDG (K : PySem.W.Frag) (ca : CA) (W : WX) (g : FG) : TG := fun v σ H Q => ∃ ρ st τ d, Slots K ca ρ st.length H τ σ ∧ SRep K ca ρ H st ∧ Rep K ca ρ st.length H d v ∧
  Post K ca W ρ st.length H (g d τ st) fun τ1 ρ1 st1 H1 => ∀ σ1, Slots K ca ρ1 st1.length H1 τ1 σ1 → Q σ1 H1
def tDGs (K : PySem.W.Frag) (ca : CA) (W : WX) (g : FGs) : TGs := fun v σ H Q => ∃ ρ st τ d, Slots K ca ρ st.length H τ σ ∧ SRep K ca ρ H st ∧ Reps K ca ρ st.length H d v ∧
  Post K ca W ρ st.length H (g d τ st) fun τ1 ρ1 st1 H1 => ∀ σ1, Slots K ca ρ1 st1.length H1 τ1 σ1 → Q σ1 H1
def JG (X : Cx) (ca : CA) (W : WX) (e : Expr) (g : FG) : Prop := PG X e (tDG X.K ca W g)
def JGs (X : Cx) (ca : CA) (W : WX) (es : List Expr) (g : FGs) : Prop := PGs X es (tDGs X.K ca W g)
theorem pg_imp {t t' : TG} (h : PG X e t) (i : ∀ v σ H Q, t' v σ H Q → t v σ H Q) : PG X e t' := ⟨fun pins s σ H v u Q I r q => h.run pins s σ H v u Q I r (i _ _ _ _ q)⟩
theorem pgs_imp {t t' : TGs} (h : PGs X es t) (i : ∀ v σ H Q, t' v σ H Q → t v σ H Q) : PGs X es t' := ⟨fun pins s σ H v u Q I r q => h.run pins s σ H v u Q I r (i _ _ _ _ q)⟩
def gN (i : Nat) : FG := fun d τ st => .ok (τ.set i (some d)) st
theorem jg_name (i : Nat) {x : Str} (hN : X.N.Nodup) (hi : X.N[i]? = some x := by rfl) (hx : Loc X.env.scope x := by first | exact Or.inl rfl | exact Or.inr rfl) (hf : X.fn x = true ∨ X.env.scope.names.lookup x = some .local := by first | exact .inl rfl | exact .inr rfl | assumption) : JG X ca W (.Name x pos) (gN i) :=
  pg_imp (pg_name (i := i) hN hi hx hf) fun v σ H Q ⟨ρ, st, τ, d, sl, s, r, h⟩ => h.here s _ (sl.set r i)
def gNilD : FGs := fun ds τ st => match ds with
  | [] => .ok τ st
  | _ => .bad
def gConsD (g : FG) (h : FGs) : FGs := fun ds τ st => match ds with
  | d :: r => (g d τ st).bind fun τ1 st1 => h r τ1 st1
  | [] => .bad
theorem jgs_nil : JGs X ca W [] gNilD := pgs_imp pgs_nil fun v σ H Q ⟨ρ, st, τ, d, sl, s, r, h⟩ => by
  cases d with
  | nil => simp only [Reps] at r; exact ⟨r, h.here s σ sl⟩
  | cons _ _ => exact h.elim
theorem jgs_cons {g₁ : FG} {h₁ : FGs} (hg : JG X ca W e g₁) (hh : JGs X ca W es h₁) (hs : (assignEach (e :: es) X.env).map (·.2) = assign e X.env :: (assignEach es X.env).map (·.2) := by rfl) : JGs X ca W (e :: es) (gConsD g₁ h₁) :=
  pgs_imp (pgs_cons hg hh hs) fun v σ H Q ⟨ρ, st, τ, d, sl, s, r, h⟩ => by
    cases d with
    | nil => exact h.elim
    | cons d ds =>
      simp only [Reps] at r
      obtain ⟨v0, vs, rfl, r1, r2⟩ := r
      refine ⟨v0, vs, rfl, ρ, st, τ, d, sl, s, r1, (Post.bind h).mono fun τ1 ρ1 st1 H1 x1 s1 ⟨_, _, q⟩ σ1 sl1 => ?_⟩
      exact ⟨ρ1, st1, τ1, ds, sl1, s1, r2.ext x1, q⟩
/-- (a, b, ..) = a tuple -/
def gTupD (n : Nat) (h : FGs) : FG := fun d τ st => match d with
  | .tup ds => if ds.length = n then h ds τ st else .bad
  | .ktup ds => if ds.length = n then h ds τ st else .bad
  | _ => .bad
theorem jg_tup {h₁ : FGs} {kk : Nat} {n : Nat} (hc : X.calm = true) (hh : JGs X ca W es h₁) (hn : (assignEach es X.env).length = n := by rfl) (hst : (assignEach es X.env).findIdx? (·.1) = none := by rfl) : JG X ca W (.Tuple es kk pos) (gTupD n h₁) :=
  pg_imp (pg_tup hc hh hn hst) fun v σ H Q ⟨ρ, st, τ, d, sl, s, r, h⟩ => by
    cases d with
    | tup ds =>
      simp only [Rep] at r
      obtain ⟨p, xs, rfl, q, rs⟩ := r
      simp only [gTupD] at h
      split at h
      · rename_i z
        exact ⟨p, xs, rfl, SqT.of q, by rw [rs.length]; exact z, ρ, st, τ, ds, sl, s, rs, h⟩
      · exact h.elim
    | ktup ds =>
      simp only [Rep] at r
      obtain ⟨p, xs, rfl, q, rs⟩ := r
      simp only [gTupD] at h
      split at h
      · rename_i z
        exact ⟨p, xs, rfl, q.seq, by rw [rs.length]; exact z, ρ, st, τ, ds, sl, s, rs, h⟩
      · exact h.elim
    | _ => exact h.elim
/-- target = value -/
def sAsg (f : FE) (g₁ : FG) : FS := fun τ st => (f τ st).bind fun d st1 => (g₁ d τ st1).bind fun τ1 st2 => .ok (.nx τ1) st2
theorem js_asg {tg : Expr} {g₁ : FG} (ha : JE X ca W a f) (hg : JG X ca W tg g₁) (hs : swapsWithSole [tg] a pos.line X.env = pure false := by rfl) (hw : swappedStores [tg] a X.env = pure none := by rfl)
    (h1 : (assignEach [tg] X.env).map (·.2) = [assign tg X.env] := by rfl) : JS X ca W (.Assign [tg] a pos) (sAsg f g₁) :=
  ps_imp (ps_asg ha hg hs hw h1) fun Dn σ H ⟨ρ, st, τ, sl, s, h⟩ => at_of sl s h fun d ρ1 st1 H1 x1 sl1 s1 h1 v r1 =>
    ⟨ρ1, st1, τ, d, sl1, s1, r1, (Post.bind h1).mono fun τ1 ρ2 st2 H2 x2 s2 ⟨_, _, q⟩ σ1 sl2 => q.here s2 σ1 sl2⟩
/-- a, b = x, y: names -/
def sPar (i j : Nat) (f g : FE) : FS := fun τ st => (f τ st).bind fun d st1 => (g τ st1).bind fun e st2 => .ok (.nx ((τ.set i (some d)).set j (some e))) st2
theorem js_par (i j : Nat) {x y : Str} {px py pt : Pos} {kt k2 pt2} (hc : X.calm = true) (hN : X.N.Nodup) (hij : i ≠ j) (ha : JE X ca W a f) (hb : JE X ca W b g) (hi : X.N[i]? = some x := by rfl) (hj : X.N[j]? = some y := by rfl)
    (hx : X.env.scope.names.lookup x = some .local := by rfl) (hy : X.env.scope.names.lookup y = some .local := by rfl)
    (hw : swappedStores [.Tuple [.Name x px, .Name y py] kt pt] (.Tuple [a, b] k2 pt2) X.env = pure (some [x, y]) := by rfl)
    (hs : swapsWithSole [.Tuple [.Name x px, .Name y py] kt pt] (.Tuple [a, b] k2 pt2) pos.line X.env = pure false := by rfl)
    (h1 : starEach [a, b] X.env = (false, eval a X.env) :: starEach [b] X.env := by rfl) (h2 : starEach [b] X.env = (false, eval b X.env) :: starEach [] X.env := by rfl) :
    JS X ca W (.Assign [.Tuple [.Name x px, .Name y py] kt pt] (.Tuple [a, b] k2 pt2) pos) (sPar i j f g) :=
  ps_imp (ps_par (i := i) (j := j) hc hN hi hj hij hx hy (pa_cons ha (pa_cons hb pa_nil h2) h1) hw hs) fun Dn σ H ⟨ρ, st, τ, sl, s, h⟩ =>
    at_of sl s h fun d ρ1 st1 H1 x1 sl1 s1 h1 v r1 =>
      at_of sl1 s1 h1 fun e ρ2 st2 H2 x2 sl2 s2 h2 u r2 => ⟨v, u, rfl, h2.here s2 _ ((sl2.set (r1.ext x2) i).set r2 j)⟩

/-! ### loops -/
/-- the end of a turn -/
def afterTurn (next : Ti → Sto → R Out) : Out → Sto → R Out := fun o st => match o with
  | .nx τ => next τ st
  | .ct τ => next τ st
  | .bk τ => .ok (.nx τ) st
  | .rt d => .ok (.rt d) st
def whileD (t : FB) (u : FS) : Nat → FS
  | 0 => fun _ _ => .bad
  | n + 1 => fun τ st => (t τ st).bind fun x st1 => if x = true then (u τ st1).bind (afterTurn (whileD t u n)) else .ok (.nx τ) st1
theorem js_while (n : Nat) {t : FB} {as : List Stmt} (hp : PassesOwn (model X.prog X.w) X.A X.env X.xe) (hc : JB X ca W c t) (hb : JSs X ca W as u) : JS X ca W (.While c as [] pos) (whileD t u n) :=
  ps_imp (ps_while hp hc hb) fun Dn σ H ⟨ρ, st, τ, sl, s, h⟩ => by
    refine ⟨fun m σ H => ∃ ρ st τ, Slots X.K ca ρ st.length H τ σ ∧ SRep X.K ca ρ H st ∧ Post X.K ca W ρ st.length H (whileD t u m τ st) (KS X.K ca Dn), ⟨n, ρ, st, τ, sl, s, h⟩, fun m σ H ⟨ρ, st, τ, sl, s, h⟩ => ?_⟩
    cases m with
    | zero => exact h.elim
    | succ m =>
      refine at_of sl s h fun x ρ1 st1 H1 x1 sl1 s1 h1 => ?_
      cases x with
      | false => rw [if_neg (by decide)] at h1; exact h1.here s1 σ sl1
      | true =>
        rw [if_pos rfl] at h1
        refine ⟨fun σ H => ∃ ρ st τ, Slots X.K ca ρ st.length H τ σ ∧ SRep X.K ca ρ H st ∧ Post X.K ca W ρ st.length H (whileD t u m τ st) (KS X.K ca Dn), fun σ' H' q => ⟨m, Nat.lt_succ_self _, q⟩, ?_⟩
        refine at_of sl1 s1 h1 fun o ρ2 st2 H2 x2 sl2 s2 h2 => ?_
        cases o with
        | nx τ2 => exact fun σ2 sl3 => ⟨ρ2, st2, τ2, sl3, s2, h2⟩
        | ct τ2 => exact fun σ2 sl3 => ⟨ρ2, st2, τ2, sl3, s2, h2⟩
        | bk τ2 => exact fun σ2 sl3 => h2.here s2 σ2 sl3
        | rt d => exact fun v r => h2.here s2 v r
/-- a walk over items that stay -/
def forD (g₁ : FG) (u : FS) : List D → FS
  | [] => fun τ st => .ok (.nx τ) st
  | d :: ds => fun τ st => (g₁ d τ st).bind fun τ1 st1 => (u τ1 st1).bind (afterTurn (forD g₁ u ds))
/-- J walks these items, whatever comes behind -/
def IsIt (K : PySem.W.Frag) (ca : CA) (J : It) (ds : List D) (ρ : Nat → Addr) (n : Nat) (H : Hp) : Prop :=
  ∀ ca' ρ' n' H', Ext ρ n H ρ' n' H' → RK K ca ρ n H ca' ρ' n' H' → (∀ i d, ds[i]? = some d → J.go i H' ∧ ∀ x H2, J.yld i H' x H2 → (H2 = H' ∨ ∃ T xs, H' T = none ∧ H2 = upd H' T (.tup xs)) ∧ Rep K ca' ρ' n' H2 d x) ∧ ∀ i, ds.length ≤ i → J.stop i H'
theorem ext_same {K : PySem.W.Frag} {ρ : Nat → Addr} {H H2 : Hp} {st : Sto} (s : SRep K ca ρ H st) (h : H2 = H ∨ ∃ T xs, H T = none ∧ H2 = upd H T (.tup xs)) : Ext ρ st.length H ρ st.length H2 ∧ SRep K ca ρ H2 st := by
  rcases h with rfl | ⟨T, xs, hT, rfl⟩
  · exact ⟨Ext.refl _ _ _, s⟩
  · exact ⟨Ext.upd_new s hT, s.upd_new hT⟩
theorem loop_imm {g₁ : FG} {J : It} {ds : List D} {ρ : Nat → Addr} {st : Sto} {τ : Ti} {σ : L2.St} {H : Hp} {Dn : Ends} (hj : IsIt X.K ca J ds ρ st.length H) (sl : Slots X.K ca ρ st.length H τ σ) (s : SRep X.K ca ρ H st)
    (h : Post X.K ca W ρ st.length H (forD g₁ u ds τ st) (KS X.K ca Dn)) :
    ∃ Wi : Nat → Nat → L2.St → Hp → Prop, (∃ m, Wi 0 m σ H) ∧ ∀ i m σ H, Wi i m σ H →
      (J.stop i H ∧ Dn.nx σ H) ∨ (J.go i H ∧ ∃ N : L2.St → Hp → Prop, (∀ σ' H', N σ' H' → ∃ m', m' < m ∧ Wi (i + 1) m' σ' H') ∧
        ∀ x H', J.yld i H x H' → tDG X.K ca W g₁ x σ H' fun σ2 H2 => tDS X.K ca W u { Dn with nx := N, ct := N, bk := Dn.nx } σ2 H2) := by
  refine ⟨fun i m σ' H' => i ≤ ds.length ∧ m = ds.length - i ∧ ∃ ρ' st' τ', Ext ρ st.length H ρ' st'.length H' ∧ Slots X.K ca ρ' st'.length H' τ' σ' ∧ SRep X.K ca ρ' H' st' ∧ Post X.K ca W ρ' st'.length H' (forD g₁ u (ds.drop i) τ' st') (KS X.K ca Dn),
    ⟨ds.length, Nat.zero_le _, rfl, ρ, st, τ, Ext.refl _ _ _, sl, s, h⟩, fun i m σ1 H1 ⟨hi, hm, ρ1, st1, τ1, x1, sl1, s1, h1⟩ => ?_⟩
  obtain ⟨hg, hs⟩ := hj ca ρ1 st1.length H1 x1 x1.rk
  by_cases hl : i < ds.length
  · right
    have e := List.drop_eq_getElem_cons hl
    rw [e] at h1
    obtain ⟨g0, gy⟩ := hg i ds[i] (List.getElem?_eq_getElem hl)
    refine ⟨g0, fun σ2 H2 => ∃ ρ' st' τ', Ext ρ st.length H ρ' st'.length H2 ∧ Slots X.K ca ρ' st'.length H2 τ' σ2 ∧ SRep X.K ca ρ' H2 st' ∧ Post X.K ca W ρ' st'.length H2 (forD g₁ u (ds.drop (i + 1)) τ' st') (KS X.K ca Dn),
      fun σ' H' q => ⟨ds.length - (i + 1), by omega, hl, rfl, q⟩, fun x H2 hy => ?_⟩
    obtain ⟨hh, hr⟩ := gy x H2 hy
    obtain ⟨x2, s2⟩ := ext_same s1 hh
    refine ⟨ρ1, st1, τ1, ds[i], sl1.ext x2, s2, hr, (Post.bind (Post.pre x2 h1)).mono fun τ3 ρ3 st3 H3 x3 s3 ⟨_, _, q⟩ σ3 sl3 => ?_⟩
    refine at_of sl3 s3 q fun o ρ4 st4 H4 x4 sl4 s4 h4 => ?_
    have xx : Ext ρ st.length H ρ4 st4.length H4 := ((x1.trans x2).trans x3).trans x4
    cases o with
    | nx τ5 => exact fun σ5 sl5 => ⟨ρ4, st4, τ5, xx, sl5, s4, h4⟩
    | ct τ5 => exact fun σ5 sl5 => ⟨ρ4, st4, τ5, xx, sl5, s4, h4⟩
    | bk τ5 => exact fun σ5 sl5 => h4.here s4 σ5 sl5
    | rt d => exact fun v r => h4.here s4 v r
  · left
    have e : ds.drop i = [] := List.drop_of_length_le (Nat.le_of_not_lt hl)
    rw [e] at h1
    exact ⟨hs i (Nat.le_of_not_lt hl), h1.here s1 σ1 sl1⟩
/-- a walk over a list of the store, as it stands at each turn -/
def forO (g₁ : FG) (u : FS) (k : Nat) : Nat → Nat → FS
  | 0, _ => fun _ _ => .bad
  | n + 1, i => fun τ st => match st[k]? with
    | some (.lst ds) => match ds[i]? with
      | none => .ok (.nx τ) st
      | some d => (g₁ d τ st).bind fun τ1 st1 => (u τ1 st1).bind (afterTurn (forO g₁ u k n (i + 1)))
    | _ => .bad
theorem loop_obj {g₁ : FG} {k n : Nat} {ρ : Nat → Addr} {st : Sto} {τ : Ti} {σ : L2.St} {H : Hp} {Dn : Ends} (hk : k < st.length) (sl : Slots X.K ca ρ st.length H τ σ) (s : SRep X.K ca ρ H st)
    (h : Post X.K ca W ρ st.length H (forO g₁ u k n 0 τ st) (KS X.K ca Dn)) :
    ∃ Wi : Nat → Nat → L2.St → Hp → Prop, (∃ m, Wi 0 m σ H) ∧ ∀ i m σ H, Wi i m σ H →
      ((Itl X.K (ρ k)).stop i H ∧ Dn.nx σ H) ∨ ((Itl X.K (ρ k)).go i H ∧ ∃ N : L2.St → Hp → Prop, (∀ σ' H', N σ' H' → ∃ m', m' < m ∧ Wi (i + 1) m' σ' H') ∧
        ∀ x H', (Itl X.K (ρ k)).yld i H x H' → tDG X.K ca W g₁ x σ H' fun σ2 H2 => tDS X.K ca W u { Dn with nx := N, ct := N, bk := Dn.nx } σ2 H2) := by
  refine ⟨fun i m σ' H' => ∃ ρ' st' τ', Ext ρ st.length H ρ' st'.length H' ∧ Slots X.K ca ρ' st'.length H' τ' σ' ∧ SRep X.K ca ρ' H' st' ∧ Post X.K ca W ρ' st'.length H' (forO g₁ u k m i τ' st') (KS X.K ca Dn),
    ⟨n, ρ, st, τ, Ext.refl _ _ _, sl, s, h⟩, fun i m σ1 H1 ⟨ρ1, st1, τ1, x1, sl1, s1, h1⟩ => ?_⟩
  cases m with
  | zero => exact h1.elim
  | succ m =>
    simp only [forO] at h1
    cases q : st1[k]? with
    | none => simp only [q] at h1; exact h1.elim
    | some mo =>
      cases mo with
      | lst ds =>
        simp only [q] at h1
        obtain ⟨xs, ha, rs⟩ := s1.at_ k _ q
        rw [x1.same k hk] at ha
        cases q2 : ds[i]? with
        | none =>
          left
          simp only [q2] at h1
          refine ⟨⟨xs, SqL.of ha, ?_⟩, h1.here s1 σ1 sl1⟩
          rw [rs.length]
          exact List.getElem?_eq_none_iff.mp q2
        | some d =>
          right
          simp only [q2] at h1
          obtain ⟨v, e, r⟩ := rs.get q2
          refine ⟨⟨xs, v, SqL.of ha, e⟩, fun σ2 H2 => ∃ ρ' st' τ', Ext ρ st.length H ρ' st'.length H2 ∧ Slots X.K ca ρ' st'.length H2 τ' σ2 ∧ SRep X.K ca ρ' H2 st' ∧ Post X.K ca W ρ' st'.length H2 (forO g₁ u k m (i + 1) τ' st') (KS X.K ca Dn),
            fun σ' H' q => ⟨m, Nat.lt_succ_self _, q⟩, fun x H2 ⟨hy, hz⟩ => ?_⟩
          subst hy
          have ex : x = v := by
            have := hz xs (SqL.of ha)
            rw [e] at this
            exact (Option.some.inj this).symm
          subst ex
          refine ⟨ρ1, st1, τ1, d, sl1, s1, r, (Post.bind h1).mono fun τ3 ρ3 st3 H3 x3 s3 ⟨_, _, q⟩ σ3 sl3 => ?_⟩
          refine at_of sl3 s3 q fun o ρ4 st4 H4 x4 sl4 s4 h4 => ?_
          have xx : Ext ρ st.length H ρ4 st4.length H4 := (x1.trans x3).trans x4
          cases o with
          | nx τ5 => exact fun σ5 sl5 => ⟨ρ4, st4, τ5, xx, sl5, s4, h4⟩
          | ct τ5 => exact fun σ5 sl5 => ⟨ρ4, st4, τ5, xx, sl5, s4, h4⟩
          | bk τ5 => exact fun σ5 sl5 => h4.here s4 σ5 sl5
          | rt d => exact fun v r => h4.here s4 v r
      | _ => simp only [q] at h1; exact h1.elim
/-- the turns of a walk over a list of the store -/
def forMost : Nat := 1000000
/-- the items of what stays -/
def itemsOf : D → Option (List D)
  | .tup ds => some ds
  | .ktup ds => some ds
  | .lv ds => some ds
  | .kl ds => some ds
  | .str z => some (z.cps.toList.map fun c => .str ⟨#[c]⟩)
  | _ => none
theorem isIt_list {K : PySem.W.Frag} {ρ : Nat → Addr} {n : Nat} {H : Hp} {a : Addr} {xs : List V} {ds : List D} (hl : ∀ ρ' n' H', Ext ρ n H ρ' n' H' → SqL K H' a xs) (r : Reps K ca ρ n H ds xs) : IsIt K ca (Itl K a) ds ρ n H := by
  intro ca' ρ' n' H' x rk
  have h1 := hl ρ' n' H' x
  refine ⟨fun i d e => ?_, fun i hi => ⟨xs, h1, by rw [r.length]; exact hi⟩⟩
  obtain ⟨v, e', rv⟩ := r.get e
  refine ⟨⟨xs, v, h1, e'⟩, fun y H2 ⟨hy, hz⟩ => ⟨.inl hy, ?_⟩⟩
  have q := hz xs h1
  rw [e'] at q; cases q
  subst hy
  exact rv.rk rk
theorem isIt_tup {K : PySem.W.Frag} {ρ : Nat → Addr} {n : Nat} {H : Hp} {a : Addr} {xs : List V} {ds : List D} (hl : ∀ ρ' n' H', Ext ρ n H ρ' n' H' → SqT K H' a xs) (r : Reps K ca ρ n H ds xs) : IsIt K ca (Itt K a) ds ρ n H := by
  intro ca' ρ' n' H' x rk
  have h1 := hl ρ' n' H' x
  refine ⟨fun i d e => ?_, fun i hi => ⟨xs, h1, by rw [r.length]; exact hi⟩⟩
  obtain ⟨v, e', rv⟩ := r.get e
  refine ⟨⟨xs, v, h1, e'⟩, fun y H2 ⟨hy, hz⟩ => ⟨.inl hy, ?_⟩⟩
  have q := hz xs h1
  rw [e'] at q; cases q
  subst hy
  exact rv.rk rk
theorem isIt_str {K : PySem.W.Frag} {ρ : Nat → Addr} {n : Nat} {H : Hp} {z : Str} : IsIt K ca (Its z) (z.cps.toList.map fun c => D.str ⟨#[c]⟩) ρ n H := by
  intro ca' ρ' n' H' x rk
  refine ⟨fun i d e => ?_, fun i hi => by simpa [Its] using hi⟩
  rw [List.getElem?_map, Option.map_eq_some_iff] at e
  obtain ⟨c, e, rfl⟩ := e
  have hl : i < z.cps.size := by
    have := (List.getElem?_eq_some_iff.mp e).1
    simpa using this
  refine ⟨hl, fun y H2 ⟨hy, c', hc, ey⟩ => ⟨.inl hy, ?_⟩⟩
  rw [Array.getElem?_toList] at e
  rw [e] at hc; cases hc
  simp only [Rep]; exact ey
end
end DL
set_option Elab.async false
set_option linter.all false
set_option maxRecDepth 100000
set_option maxHeartbeats 4000000
namespace DL
open PySem PySem.Spec PyProof.Rows L2 LamX
section
variable {X : Cx} {ca : CA} {W : WX} {a b c e : Expr} {es rest : List Expr} {f g k : FE} {pos : Pos} {s₁ : Stmt} {ss : List Stmt} {u v w : FS} {tg : Expr}
theorem pi_imp {t t' : TI} (h : PI X tg e t) (i : ∀ σ H R, t' σ H R → t σ H R) : PI X tg e t' := ⟨fun pins s σ H R I q => h.run pins s σ H R I (i _ _ _ q)⟩
theorem pi_or {t t' : TI} (h : PI X tg e t) (h' : PI X tg e t') : PI X tg e (fun σ H R => t σ H R ∨ t' σ H R) := ⟨fun pins s σ H R I q => q.elim (h.run pins s σ H R I) (h'.run pins s σ H R I)⟩
/-- what a loop walks: items that stay, or a list of the store -/
inductive Src where
  | imm (ds : List D)
  | obj (k : Nat)
abbrev FI := Ti → Sto → R Src
/-- J walks it -/
def IsSrc (K : PySem.W.Frag) (ca : CA) (J : It) (src : Src) (ρ : Nat → Addr) (n : Nat) (H : Hp) : Prop :=
  match src with
  | .imm ds => IsIt K ca J ds ρ n H
  | .obj k => k < n ∧ J = Itl K (ρ k)
def tDI (K : PySem.W.Frag) (ca : CA) (W : WX) (f : FI) : TI := fun σ H R => At K ca W f σ H fun src ρ st H1 => ∀ J, IsSrc K ca J src ρ st.length H1 → R J H1
def JI (X : Cx) (ca : CA) (W : WX) (tg e : Expr) (f : FI) : Prop := PI X tg e (tDI X.K ca W f)
def srcOf (st : Sto) (d : D) : Option Src := match d with
  | .obj k => match st[k]? with
    | some (.lst _) => some (.obj k)
    | _ => none
  | d => (itemsOf d).map Src.imm
def kindI : D → Nat
  | .tup _ => 1
  | .ktup _ => 1
  | .str _ => 2
  | _ => 0
def iV (f : FE) : FI := fun τ st => (f τ st).bind fun d st1 => match srcOf st1 d with
  | some s => .ok s st1
  | none => .bad
theorem ji_val (ha : JE X ca W a f) : JI X ca W tg a (iV f) := by
  refine pi_imp (pi_or (pi_list (tg := tg) ha) (pi_or (pi_tup (tg := tg) ha) (pi_str (tg := tg) ha))) fun σ H R ⟨ρ, st, τ, sl, s, h⟩ => ?_
  have lst : (∀ d st1, f τ st = .ok d st1 → kindI d = 0) → iList X.K (tD X.K ca W f) σ H R := fun hn => by
    refine at_ofE sl s h fun d ρ1 st1 H1 e1 x1 sl1 s1 h1 v r1 => ?_
    have n0 := hn d st1 e1
    cases d with
    | lv ds =>
      simp only [srcOf, itemsOf, Option.map_some] at h1
      simp only [Rep] at r1
      obtain ⟨p, xs, rfl, q, rs⟩ := r1
      exact ⟨p, rfl, ⟨xs, q.seq⟩, h1.here s1 _ (isIt_list (fun ρ' n' H' x => (x.lst q).seq) rs)⟩
    | kl ds =>
      simp only [srcOf, itemsOf, Option.map_some] at h1
      simp only [Rep] at r1
      obtain ⟨p, xs, rfl, q, rs⟩ := r1
      exact ⟨p, rfl, ⟨xs, q.seq⟩, h1.here s1 _ (isIt_list (fun ρ' n' H' x => (x.kl q).seq) rs)⟩
    | obj j =>
      simp only [srcOf] at h1
      simp only [Rep] at r1
      cases q : st1[j]? with
      | none => simp only [q] at h1; exact h1.elim
      | some m =>
        cases m with
        | lst ds =>
          simp only [q] at h1
          obtain ⟨xs, ha, _⟩ := s1.at_ j _ q
          exact ⟨_, r1.2, ⟨xs, SqL.of ha⟩, h1.here s1 _ ⟨r1.1, rfl⟩⟩
        | _ => simp only [q] at h1; exact h1.elim
    | tup ds => cases n0
    | ktup ds => cases n0
    | str z => cases n0
    | _ => simp only [srcOf, itemsOf, Option.map_none] at h1; exact h1.elim
  cases e : f τ st with
  | bad => exact .inl (lst fun d st1 q => by rw [e] at q; cases q)
  | ex c fs τ' st' => exact .inl (lst fun d st1 q => by rw [e] at q; cases q)
  | ok d0 st0 =>
    cases hk : kindI d0 with
    | zero => exact .inl (lst fun d st1 q => by rw [e] at q; cases q; exact hk)
    | succ m =>
      cases d0 with
      | tup ds =>
        refine .inr (.inl ?_)
        refine at_ofE sl s h fun d ρ1 st1 H1 e1 x1 sl1 s1 h1 v r1 => ?_
        rw [e] at e1; cases e1
        simp only [srcOf, itemsOf, Option.map_some] at h1
        simp only [Rep] at r1
        obtain ⟨p, xs, rfl, q, rs⟩ := r1
        exact ⟨p, rfl, ⟨xs, SqT.of q⟩, h1.here s1 _ (isIt_tup (fun ρ' n' H' x => SqT.of (x.tups _ _ q)) rs)⟩
      | ktup ds =>
        refine .inr (.inl ?_)
        refine at_ofE sl s h fun d ρ1 st1 H1 e1 x1 sl1 s1 h1 v r1 => ?_
        rw [e] at e1; cases e1
        simp only [srcOf, itemsOf, Option.map_some] at h1
        simp only [Rep] at r1
        obtain ⟨p, xs, rfl, q, rs⟩ := r1
        exact ⟨p, rfl, ⟨xs, q.seq⟩, h1.here s1 _ (isIt_tup (fun ρ' n' H' x => q.seq) rs)⟩
      | str z =>
        refine .inr (.inr ?_)
        refine at_ofE sl s h fun d ρ1 st1 H1 e1 x1 sl1 s1 h1 v r1 => ?_
        rw [e] at e1; cases e1
        simp only [srcOf, itemsOf, Option.map_some] at h1
        simp only [Rep] at r1
        exact ⟨z, r1, h1.here s1 _ isIt_str⟩
      | _ => cases hk
/-- range(n), range(a, b) -/
def runD (lo : Int) (n : Nat) : List D := (List.range n).map fun i => D.int (lo + (i : Nat))
theorem isIt_range {K : PySem.W.Frag} {ρ : Nat → Addr} {n : Nat} {H : Hp} {lo : Int} {m : Nat} : IsIt K ca (Itr lo m) (runD lo m) ρ n H := by
  intro ca' ρ' n' H' x rk
  refine ⟨fun i d e => ?_, fun i hi => by simpa [Itr, runD] using hi⟩
  unfold runD at e
  rw [List.getElem?_map, Option.map_eq_some_iff] at e
  obtain ⟨c, e, rfl⟩ := e
  have hl : i < m := by
    have := (List.getElem?_eq_some_iff.mp e).1
    simpa using this
  have hc : c = i := by
    rw [List.getElem?_range hl] at e
    exact (Option.some.inj e).symm
  subst hc
  exact ⟨hl, fun y H2 ⟨hy, ey⟩ => ⟨.inl hy, by simp only [Rep]; exact ey⟩⟩
def smallI (j : Int) : Bool := decide (-(2 ^ 62) ≤ j) && decide (j < 2 ^ 62)
theorem smallI_iff {j : Int} : smallI j = true ↔ -(2 ^ 62) ≤ j ∧ j < 2 ^ 62 := by simp [smallI]
def iRng1D (f : FE) : FI := fun τ st => (f τ st).bind fun d st1 => match d with
  | .int j => if smallI j = true then .ok (.imm (runD 0 j.toNat)) st1 else .bad
  | _ => .bad
def iRng2D (f g : FE) : FI := fun τ st => (f τ st).bind fun d st1 => (g τ st1).bind fun e st2 => match d, e with
  | .int i, .int j => if (smallI i && smallI j) = true then .ok (.imm (runD i (j - i).toNat)) st2 else .bad
  | _, _ => .bad
theorem ji_range1 {p : Pos} (hg : Gl X "range") (hm : X.mg "range" = none) (ha : JE X ca W a f) (hs : starEach [a] X.env = [(false, eval a X.env)] := by rfl) : JI X ca W tg (.Call (.Name "range" p) [a] [] pos) (iRng1D f) :=
  pi_imp (pi_range1 hg hm (pa_cons ha pa_nil hs) hs) fun σ H R ⟨ρ, st, τ, sl, s, h⟩ => at_of sl s h fun d ρ1 st1 H1 x1 sl1 s1 h1 v r1 => by
    cases d with
    | int j =>
      by_cases z : smallI j = true
      · simp only [if_pos z] at h1
        simp only [Rep] at r1
        subst r1
        exact ⟨_, rfl, (smallI_iff.mp z).1, (smallI_iff.mp z).2, h1.here s1 _ isIt_range⟩
      · simp only [if_neg z] at h1; exact h1.elim
    | _ => exact h1.elim
theorem ji_range2 {p : Pos} (hg : Gl X "range") (hm : X.mg "range" = none) (ha : JE X ca W a f) (hb : JE X ca W b g) (hs : starEach [a, b] X.env = [(false, eval a X.env), (false, eval b X.env)] := by rfl) (hs2 : starEach [b] X.env = [(false, eval b X.env)] := by rfl) (hs3 : starEach [a, b] X.env = (false, eval a X.env) :: starEach [b] X.env := by rfl) :
    JI X ca W tg (.Call (.Name "range" p) [a, b] [] pos) (iRng2D f g) :=
  pi_imp (pi_range2 hg hm (pa_cons ha (pa_cons hb pa_nil hs2) hs3) hs hs2) fun σ H R ⟨ρ, st, τ, sl, s, h⟩ => at_of sl s h fun d ρ1 st1 H1 x1 sl1 s1 h1 v r1 => at_of sl1 s1 h1 fun e ρ2 st2 H2 x2 sl2 s2 h2 u r2 => by
    cases d with
    | int i =>
      cases e with
      | int j =>
        by_cases z : (smallI i && smallI j) = true
        · simp only [if_pos z] at h2
          simp only [Rep] at r1 r2
          subst r1 r2
          rw [Bool.and_eq_true] at z
          exact ⟨i, j, rfl, ⟨(smallI_iff.mp z.1).1, (smallI_iff.mp z.1).2, (smallI_iff.mp z.2).1, (smallI_iff.mp z.2).2⟩, h2.here s2 _ isIt_range⟩
        · simp only [if_neg z] at h2; exact h2.elim
      | _ => exact h2.elim
    | _ => exact h2.elim
/-- for target in ..: -/
def sFor (f : FI) (g₁ : FG) (u : FS) : FS := fun τ st => (f τ st).bind fun src st1 => match src with
  | .imm ds => forD g₁ u ds τ st1
  | .obj k => forO g₁ u k forMost 0 τ st1
theorem js_for {fi : FI} {g₁ : FG} (hp : PassesOwn (model X.prog X.w) X.A X.env X.xe) (hc : X.calm = true) (hi : JI X ca W tg a fi) (hg : JG X ca W tg g₁) (hb : JSs X ca W ss u)
    (hs : ∀ x, foldedSetIterable a X.env x = pure x := by intro _; rfl) : JS X ca W (.For tg a ss [] pos) (sFor fi g₁ u) :=
  ps_imp (ps_for hp hc hi hg hb hs) fun Dn σ H ⟨ρ, st, τ, sl, s, h⟩ =>
    at_of sl s h fun src ρ1 st1 H1 x1 sl1 s1 h1 J hJ => by
      cases src with
      | imm ds => exact loop_imm hJ sl1 s1 h1
      | obj k => obtain ⟨hk, rfl⟩ := hJ; exact loop_obj hk sl1 s1 h1

/-! ### a dict is walked: locked meanwhile -/
section
variable {K : PySem.W.Frag} {ρ : Nat → Addr} {st : Sto} {H : Hp} {k : Nat} {kvs : List (Key × D)} {ws : List (Key × V)} {od : Obj}
theorem ext_lock (s : SRep K ca ρ H st) (q : st[k]? = some (.dic kvs)) (ha : H (ρ k) = some (.dK ws)) : Ext ρ st.length H ρ (st.set k (.lck kvs)).length (upd H (ρ k) (.frz od (.dK ws))) := by
  rw [List.length_set]; exact Ext.write s q rfl
theorem srep_lock (s : SRep K ca ρ H st) (q : st[k]? = some (.dic kvs)) (ha : H (ρ k) = some (.dK ws)) (rs : RepKV K ca ρ st.length H kvs ws) : SRep K ca ρ (upd H (ρ k) (.frz od (.dK ws))) (st.set k (.lck kvs)) :=
  s.write q rfl ⟨od, ws, upd_same, rs.ext (Ext.write s q rfl)⟩
/-- .. and open again -/
theorem rk_open {n : Nat} {d : Addr} (h : H d = some (.frz od (.dK ws))) (hn : ∃ i, i < n ∧ ρ i = d) : RK K ca ρ n H ca ρ n (upd H d (.dK ws)) where
  f := rfl
  le := Nat.le_refl _
  same := fun _ _ => rfl
  tup := fun a xs e => by rw [upd_ne (ne_of e h (fun z => nomatch z))]; exact e
  lst := fun a xs e => ⟨by rw [upd_ne (ne_of e.1 h (fun z => nomatch z))]; exact e.1, e.2⟩
  kl := fun a xs e => by
    rcases e with ⟨o, e⟩ | e
    · exact .inl ⟨o, by rw [upd_ne (ne_of e h (fun z => nomatch z))]; exact e⟩
    · exact .inr e
  dv := fun a kvs e => by
    obtain ⟨i, hi, rfl⟩ := hn
    obtain ⟨e, h2⟩ := e
    exact ⟨by rw [upd_ne (Ne.symm (h2 i hi))]; exact e, h2⟩
theorem srep_open (s : SRep K ca ρ H st) (hk : k < st.length) (h : H (ρ k) = some (.frz od (.dK ws))) (rs : RepKV K ca ρ st.length H kvs ws) : SRep K ca ρ (upd H (ρ k) (.dK ws)) (st.set k (.dic kvs)) := by
  have x : RK K ca ρ st.length H ca ρ st.length (upd H (ρ k) (.dK ws)) := rk_open h ⟨k, hk, rfl⟩
  refine ⟨fun i o e => ?_, fun a b ha hb z => s.inj a b (by simpa using ha) (by simpa using hb) z, fun a ha => ?_, tabs_write h ⟨fun _ => nofun, fun c q z => by unfold CodeO at z; cases z⟩ s.tab⟩
  · rw [List.length_set]
    by_cases hi : i = k
    · subst hi
      rw [List.getElem?_set_self hk] at e; cases e
      exact ⟨ws, upd_same, rs.rk x⟩
    · rw [List.getElem?_set_ne (Ne.symm hi)] at e
      have hl := (List.getElem?_eq_some_iff.mp e).1
      have hne : ρ i ≠ ρ k := fun z => hi (s.inj i k hl hk z)
      have r := s.at_ i o e
      cases o with
      | lst ds => obtain ⟨xs, e, r⟩ := r; exact ⟨xs, by rw [upd_ne hne]; exact e, r.rk x⟩
      | dic ks => obtain ⟨xs, e, r⟩ := r; exact ⟨xs, by rw [upd_ne hne]; exact e, r.rk x⟩
      | dit ks => obtain ⟨xs, e, r⟩ := r; exact ⟨xs, by rw [upd_ne hne]; exact e, r.rk x⟩
      | lck ks => obtain ⟨o, xs, e, r⟩ := r; exact ⟨o, xs, by rw [upd_ne hne]; exact e, r.rk x⟩
      | ins c fs => obtain ⟨C, dx, xs, c1, e, d, r⟩ := r; exact ⟨C, dx, xs, c1, by rw [upd_ne hne]; exact e, by rw [upd_ne (ne_of d h (fun z => nomatch z))]; exact d, r.rk x⟩
  · obtain ⟨⟨xs, e⟩, hn⟩ := s.res a ha
    exact ⟨⟨xs, by rw [upd_ne (ne_of e h (fun z => nomatch z))]; exact e⟩, by rw [List.length_set]; exact hn⟩
/-- from ahead of the lock to behind it -/
theorem ext_open {ρ' : Nat → Addr} {st' : Sto} {H' : Hp} (s : SRep K ca ρ H st) (q : st[k]? = some (.dic kvs)) (ha : H (ρ k) = some (.dK ws)) (x : Ext ρ (st.set k (.lck kvs)).length (upd H (ρ k) (.frz od (.dK ws))) ρ' st'.length H') :
    Ext ρ st.length H ρ' st'.length (upd H' (ρ k) (.dK ws)) := by
  have hk := (List.getElem?_eq_some_iff.mp q).1
  have x : Ext ρ st.length H ρ' st'.length H' := (ext_lock s q ha).trans x
  exact ⟨x.le, x.same, x.new, fun a o e nt hn => by rw [upd_ne (Ne.symm (hn k hk))]; exact x.keep a o e nt hn, fun a xs e => by rw [upd_ne (ne_of e ha (fun z => nomatch z))]; exact x.tups a xs e,
    fun a o u e => by rw [upd_ne (ne_of e ha (fun z => nomatch z))]; exact x.frzs a o u e, fun a u e => by rw [upd_ne (ne_of e ha (fun z => nomatch z))]; exact x.owns a u e,
    fun a o e => by
      by_cases h : a = ρ k
      · subst h; exact ⟨_, upd_same⟩
      · rw [upd_ne h]; exact x.there a o e⟩
theorem Slots.rk {τ : Ti} {σ : L2.St} {n n' : Nat} {ρ' : Nat → Addr} {H' : Hp} (x : RK K ca ρ n H ca ρ' n' H') (h : Slots K ca ρ n H τ σ) : Slots K ca ρ' n' H' τ σ := ⟨h.1, fun i d e =>
  let ⟨v, e', r⟩ := h.2 i d e; ⟨v, e', r.rk x⟩⟩
end
/-- behind a statement, a dict is opened again; what a raise leaves stays locked -/
def opened {α : Type} (k : Nat) (kvs : List (Key × D)) (r : R α) : R α := r.bind fun o st => .ok o (st.set k (.dic kvs))
def withLock {α : Type} (f : FE) (u : Ti → Sto → R α) : Ti → Sto → R α := fun τ st => match f τ st with
  | .ok (.obj k) _ => match st[k]? with
    | some (.dic kvs) => opened k kvs (u τ (st.set k (.lck kvs)))
    | _ => .bad
  | _ => .bad
theorem at_lock {α : Type} {K : PySem.W.Frag} {ρ : Nat → Addr} {st : Sto} {H : Hp} {τ : Ti} {σ : L2.St} {u : Ti → Sto → R α} {F : α → (Nat → Addr) → Sto → Hp → Prop} (f : FE) (sl : Slots K ca ρ st.length H τ σ) (s : SRep K ca ρ H st) (h : Post K ca W ρ st.length H (withLock f u τ st) F) :
    ∃ d o, H d = some o ∧ Mut (some o) ∧ ∀ od, At K ca W u σ (upd H d (.frz od o)) fun a ρ1 st1 H1 => H1 d = some (.frz od o) ∧ ∃ st2, RK K ca ρ1 st1.length H1 ca ρ1 st2.length (upd H1 d o) ∧ F a ρ1 st2 (upd H1 d o) := by
  unfold withLock at h
  split at h
  · rename_i k _ _
    split at h
    · rename_i kvs q
      obtain ⟨ws, ha, rs⟩ := s.at_ k _ q
      have hk := (List.getElem?_eq_some_iff.mp q).1
      refine ⟨ρ k, .dK ws, ha, True.intro, fun od => ⟨ρ, st.set k (.lck kvs), τ, sl.ext (ext_lock s q ha), srep_lock s q ha rs, ?_⟩⟩
      cases e : u τ (st.set k (.lck kvs)) with
      | bad => rw [e] at h; exact h
      | ex c fs τ' st' => rw [e] at h; exact fun C σ' dx H' ρ' e1 x => h C σ' dx H' ρ' e1 ((ext_lock s q ha).trans x)
      | ok o st1 =>
        rw [e] at h
        intro H1 ρ1 x s1
        have hz := x.frzs _ _ _ (upd_same (H := H) (a := ρ k) (o := HO.frz od (.dK ws)))
        have hr : ρ1 k = ρ k := x.same k (by rw [List.length_set]; exact hk)
        have hk1 : k < st1.length := Nat.lt_of_lt_of_le (by rw [List.length_set]; exact hk) x.le
        have rs1 : RepKV K ca ρ1 st1.length H1 kvs ws := rs.ext ((ext_lock s q ha).trans x)
        refine ⟨hz, st1.set k (.dic kvs), by rw [List.length_set]; exact rk_open hz ⟨k, hk1, hr⟩, ?_⟩
        have s2 := srep_open s1 hk1 (by rw [hr]; exact hz) rs1
        have x2 := ext_open s q ha x
        rw [hr] at s2
        exact h _ ρ1 (by rw [List.length_set]; exact x2) s2
    · exact h.elim
  · exact h.elim
theorem js_lock (f : FE) (h1 : JS X ca W s₁ u) : JS X ca W s₁ (withLock f u) :=
  ps_imp (ps_lock h1) fun Dn σ H ⟨ρ, st, τ, sl, s, h⟩ => by
    obtain ⟨d, o, hd, mu, g⟩ := at_lock f sl s h
    refine ⟨d, o, hd, mu, fun od => ?_⟩
    obtain ⟨ρ, st, τ, sl, s, g⟩ := g od
    refine ⟨ρ, st, τ, sl, s, g.mono fun o ρ1 st1 H1 x1 s1 ⟨hz, st2, rk, g⟩ => ?_⟩
    cases o with
    | nx τ1 => exact fun σ1 sl1 => ⟨hz, g _ (sl1.rk rk)⟩
    | ct τ1 => exact fun σ1 sl1 => ⟨hz, g _ (sl1.rk rk)⟩
    | bk τ1 => exact fun σ1 sl1 => ⟨hz, g _ (sl1.rk rk)⟩
    | rt v => exact fun v r => ⟨hz, g _ (r.rk rk)⟩
theorem je_lock (f : FE) (h1 : JE X ca W a g) : JE X ca W a (withLock f g) :=
  pe_imp (pe_lock h1) fun σ H Q ⟨ρ, st, τ, sl, s, h⟩ => by
    obtain ⟨d, o, hd, mu, g⟩ := at_lock f sl s h
    refine ⟨d, o, hd, mu, fun od => ?_⟩
    obtain ⟨ρ, st, τ, sl, s, g⟩ := g od
    exact ⟨ρ, st, τ, sl, s, g.mono fun o ρ1 st1 H1 x1 s1 ⟨hz, st2, rk, g⟩ v r => ⟨hz, g _ (r.rk rk)⟩⟩
theorem RepKV.get {κ : Type} {K : PySem.W.Frag} {ρ : Nat → Addr} {n : Nat} {H : Hp} : ∀ {kvs : List (κ × D)} {ws : List (κ × V)} {i : Nat} {p : κ × D}, RepKV K ca ρ n H kvs ws → kvs[i]? = some p → ∃ v, ws[i]? = some (p.1, v) ∧ Rep K ca ρ n H p.2 v
  | [], _, i, p, r, e => by simp at e
  | q :: kvs, ws, 0, p, r, e => by
    simp only [RepKV] at r
    obtain ⟨v, rs, rfl, r1, r2⟩ := r
    simp at e; subst e
    exact ⟨v, rfl, r1⟩
  | q :: kvs, ws, i + 1, p, r, e => by
    simp only [RepKV] at r
    obtain ⟨v, rs, rfl, r1, r2⟩ := r
    obtain ⟨u, e', r'⟩ := RepKV.get (i := i) r2 (by simpa using e)
    exact ⟨u, by simpa using e', r'⟩
theorem rep_kD {ca : CA} {K : PySem.W.Frag} {ρ : Nat → Addr} {n : Nat} {H : Hp} (k : Key) : Rep K ca ρ n H (kD k) (kV k) := by
  cases k <;> simp only [kD, Rep] <;> rfl
/-- the keys, values, pairs of a locked dict -/
theorem isIt_keys {K : PySem.W.Frag} {ρ : Nat → Addr} {n : Nat} {H : Hp} {d : Addr} {o : Obj} {kvs : List (Key × D)} {ws : List (Key × V)} (hd : H d = some (.frz o (.dK ws))) (rs : RepKV K ca ρ n H kvs ws) : IsIt K ca (Itk d o ws) (kvs.map fun p => kD p.1) ρ n H := by
  intro ca' ρ' n' H' x rk
  have hd' := x.frzs _ _ _ hd
  refine ⟨fun i e q => ?_, fun i hi => ⟨hd', by rw [rs.length]; simpa using hi⟩⟩
  rw [List.getElem?_map, Option.map_eq_some_iff] at q
  obtain ⟨p, q, rfl⟩ := q
  obtain ⟨v, q', r⟩ := rs.get q
  refine ⟨⟨hd', (List.getElem?_eq_some_iff.mp q').1⟩, fun y H2 ⟨hy, k, v', hk, ey⟩ => ⟨.inl hy, ?_⟩⟩
  rw [q'] at hk; cases hk
  subst ey
  exact rep_kD _
theorem isIt_vals {K : PySem.W.Frag} {ρ : Nat → Addr} {n : Nat} {H : Hp} {d : Addr} {o : Obj} {kvs : List (Key × D)} {ws : List (Key × V)} (hd : H d = some (.frz o (.dK ws))) (rs : RepKV K ca ρ n H kvs ws) : IsIt K ca (Itd d o ws) (kvs.map fun p => p.2) ρ n H := by
  intro ca' ρ' n' H' x rk
  have hd' := x.frzs _ _ _ hd
  refine ⟨fun i e q => ?_, fun i hi => ⟨hd', by rw [rs.length]; simpa using hi⟩⟩
  rw [List.getElem?_map, Option.map_eq_some_iff] at q
  obtain ⟨p, q, rfl⟩ := q
  obtain ⟨v, q', r⟩ := rs.get q
  refine ⟨⟨hd', (List.getElem?_eq_some_iff.mp q').1⟩, fun y H2 ⟨hy, k, hk⟩ => ⟨.inl hy, ?_⟩⟩
  rw [q'] at hk; cases hk
  subst hy
  exact r.rk rk
theorem isIt_items {K : PySem.W.Frag} {ρ : Nat → Addr} {n : Nat} {H : Hp} {d : Addr} {o : Obj} {kvs : List (Key × D)} {ws : List (Key × V)} (hd : H d = some (.frz o (.dK ws))) (rs : RepKV K ca ρ n H kvs ws) : IsIt K ca (Iti d o ws) (kvs.map fun p => D.tup [kD p.1, p.2]) ρ n H := by
  intro ca' ρ' n' H' x rk
  have hd' := x.frzs _ _ _ hd
  refine ⟨fun i e q => ?_, fun i hi => ⟨hd', by rw [rs.length]; simpa using hi⟩⟩
  rw [List.getElem?_map, Option.map_eq_some_iff] at q
  obtain ⟨p, q, rfl⟩ := q
  obtain ⟨v, q', r⟩ := rs.get q
  refine ⟨⟨hd', (List.getElem?_eq_some_iff.mp q').1⟩, fun y H2 ⟨T, k, v', hk, ey, hT, hy⟩ => ⟨.inr ⟨T, _, hT, hy⟩, ?_⟩⟩
  rw [q'] at hk; cases hk
  subst ey hy
  simp only [Rep]
  refine ⟨T, _, rfl, upd_same, Reps.cons (rep_kD _) (Reps.cons ?_ Reps.nil)⟩
  refine Rep.rk (ca := ca') (ρ := ρ') (n := n') (H := H') ⟨rfl, Nat.le_refl _, fun _ _ => rfl, fun a xs e => ?_, fun a xs e => ⟨?_, e.2⟩, fun a xs e => ?_, fun a kvs e => ⟨?_, e.2⟩⟩ (r.rk rk)
  · rw [upd_ne (ne_of_none e hT)]; exact e
  · rw [upd_ne (ne_of_none e.1 hT)]; exact e.1
  · rcases e with ⟨o, e⟩ | e
    · exact .inl ⟨o, by rw [upd_ne (ne_of_none e hT)]; exact e⟩
    · exact .inr e
  · rcases e.1 with e | ⟨o, e⟩
    · exact .inl (by rw [upd_ne (ne_of_none e hT)]; exact e)
    · exact .inr ⟨o, by rw [upd_ne (ne_of_none e hT)]; exact e⟩
def lckOf (st : Sto) (d : D) : Option (List (Key × D)) := match d with
  | .obj k => match st[k]? with
    | some (.lck kvs) => some kvs
    | _ => none
  | _ => none
theorem lckOf_rep {K : PySem.W.Frag} {ρ : Nat → Addr} {st : Sto} {H : Hp} (s : SRep K ca ρ H st) {d : D} {kvs : List (Key × D)} {v : V} (e : lckOf st d = some kvs) (r : Rep K ca ρ st.length H d v) : ∃ a o ws, v = .ref a ∧ H a = some (.frz o (.dK ws)) ∧ RepKV K ca ρ st.length H kvs ws := by
  cases d with
  | obj i =>
    simp only [lckOf] at e
    cases q : st[i]? with
    | none => simp [q] at e
    | some m =>
      cases m with
      | lck es =>
        simp only [q, Option.some.injEq] at e; subst e
        simp only [Rep] at r
        obtain ⟨o, xs, ha, rs⟩ := s.at_ i _ q
        exact ⟨_, o, xs, r.2, ha, rs⟩
      | _ => simp [q] at e
  | _ => simp [lckOf] at e
def iLck (m : List (Key × D) → List D) (f : FE) : FI := fun τ st => (f τ st).bind fun d st1 => match lckOf st1 d with
  | some kvs => .ok (.imm (m kvs)) st1
  | none => .bad
theorem ji_keys (ha : JE X ca W a f) : JI X ca W tg a (iLck (fun kvs => kvs.map fun p => kD p.1) f) :=
  pi_imp (pi_keys ha) fun σ H R ⟨ρ, st, τ, sl, s, h⟩ => at_of sl s h fun d ρ1 st1 H1 x1 sl1 s1 h1 v r1 => by
    cases q : lckOf st1 d with
    | none => simp only [q] at h1; exact h1.elim
    | some kvs =>
      simp only [q] at h1
      obtain ⟨p, o, ws, rfl, hp, rs⟩ := lckOf_rep s1 q r1
      exact ⟨p, o, rfl, .inl ⟨ws, hp, h1.here s1 _ (isIt_keys hp rs)⟩⟩
theorem ji_keysM {apos cpos : Pos} (ha : JE X ca W a f) (hbase : attributeBase a "keys" X.env (eval a X.env) = eval a X.env := by rfl) (hline : (apos.endLine == cpos.line) = true := by rfl) : JI X ca W tg (.Call (.Attribute a "keys" apos) [] [] cpos) (iLck (fun kvs => kvs.map fun p => kD p.1) f) :=
  pi_imp (pi_keysM ha hbase hline) fun σ H R ⟨ρ, st, τ, sl, s, h⟩ => at_of sl s h fun d ρ1 st1 H1 x1 sl1 s1 h1 v r1 => by
    cases q : lckOf st1 d with
    | none => simp only [q] at h1; exact h1.elim
    | some kvs =>
      simp only [q] at h1
      obtain ⟨p, o, ws, rfl, hp, rs⟩ := lckOf_rep s1 q r1
      exact ⟨p, o, ws, rfl, hp, h1.here s1 _ (isIt_keys hp rs)⟩
theorem ji_values {apos cpos : Pos} (ha : JE X ca W a f) (hbase : attributeBase a "values" X.env (eval a X.env) = eval a X.env := by rfl) (hline : (apos.endLine == cpos.line) = true := by rfl) : JI X ca W tg (.Call (.Attribute a "values" apos) [] [] cpos) (iLck (fun kvs => kvs.map fun p => p.2) f) :=
  pi_imp (pi_values ha hbase hline) fun σ H R ⟨ρ, st, τ, sl, s, h⟩ => at_of sl s h fun d ρ1 st1 H1 x1 sl1 s1 h1 v r1 => by
    cases q : lckOf st1 d with
    | none => simp only [q] at h1; exact h1.elim
    | some kvs =>
      simp only [q] at h1
      obtain ⟨p, o, ws, rfl, hp, rs⟩ := lckOf_rep s1 q r1
      exact ⟨p, o, ws, rfl, hp, h1.here s1 _ (isIt_vals hp rs)⟩
theorem ji_items {elts : List Expr} {kk : Nat} {tpos apos cpos : Pos} (ha : JE X ca W a f) (hbase : attributeBase a "items" X.env (eval a X.env) = eval a X.env := by rfl) (hline : (apos.endLine == cpos.line) = true := by rfl) : JI X ca W (.Tuple elts kk tpos) (.Call (.Attribute a "items" apos) [] [] cpos) (iLck (fun kvs => kvs.map fun p => D.tup [kD p.1, p.2]) f) :=
  pi_imp (pi_items ha hbase hline) fun σ H R ⟨ρ, st, τ, sl, s, h⟩ => at_of sl s h fun d ρ1 st1 H1 x1 sl1 s1 h1 v r1 => by
    cases q : lckOf st1 d with
    | none => simp only [q] at h1; exact h1.elim
    | some kvs =>
      simp only [q] at h1
      obtain ⟨p, o, ws, rfl, hp, rs⟩ := lckOf_rep s1 q r1
      exact ⟨p, o, ws, rfl, hp, h1.here s1 _ (isIt_items hp rs)⟩
/-- a walk over a value of any kind: a dict is locked -/
def isDic (f : FE) (τ : Ti) (st : Sto) : Bool := match f τ st with
  | .ok (.obj k) _ => match st[k]? with
    | some (.dic _) => true
    | _ => false
  | _ => false
def sForV (f : FE) (g₁ : FG) (u : FS) : FS := fun τ st => if isDic f τ st = true then withLock f (sFor (iLck (fun kvs => kvs.map fun p => kD p.1) f) g₁ u) τ st else sFor (iV f) g₁ u τ st
theorem js_forV {g₁ : FG} (hp : PassesOwn (model X.prog X.w) X.A X.env X.xe) (hc : X.calm = true) (ha : JE X ca W a f) (hg : JG X ca W tg g₁) (hb : JSs X ca W ss u)
    (hs : ∀ x, foldedSetIterable a X.env x = pure x := by intro _; rfl) : JS X ca W (.For tg a ss [] pos) (sForV f g₁ u) :=
  ⟨fun pins s σ H D I ⟨ρ, st, τ, sl, sr, h⟩ => by
    by_cases z : isDic f τ st = true
    · rw [sForV, if_pos z] at h
      exact (js_lock f (js_for hp hc (ji_keys ha) hg hb hs)).run pins s σ H D I ⟨ρ, st, τ, sl, sr, h⟩
    · rw [sForV, if_neg z] at h
      exact (js_for hp hc (ji_val ha) hg hb hs).run pins s σ H D I ⟨ρ, st, τ, sl, sr, h⟩⟩
end
end DL
set_option Elab.async false
set_option linter.all false
set_option maxRecDepth 100000
set_option maxHeartbeats 4000000
namespace DL
open PySem PySem.Spec PyProof.Rows L2 LamX
/-! list comprehensions -/
abbrev W0 : WX := fun _ _ _ _ => False
/-- the same slots, own ones forgotten -/
def wipeT (τ : Ti) : List Nat → Ti
  | [] => τ
  | v :: vs => (wipeT τ vs).set v none
theorem wipeT_length (τ : Ti) : ∀ vs : List Nat, (wipeT τ vs).length = τ.length
  | [] => rfl
  | v :: vs => by unfold wipeT; rw [List.length_set, wipeT_length τ vs]
theorem wipeT_some {τ : Ti} {i : Nat} {x : D} : ∀ {vs : List Nat}, (wipeT τ vs)[i]? = some (some x) → τ[i]? = some (some x) ∧ i ∉ vs
  | [], h => ⟨h, by simp⟩
  | v :: vs, h => by
    unfold wipeT at h
    by_cases hi : v = i
    · subst hi
      by_cases hv : v < (wipeT τ vs).length
      · rw [List.getElem?_set_self hv] at h; cases h
      · rw [List.getElem?_eq_none (by simpa using hv)] at h; cases h
    · rw [List.getElem?_set_ne hi] at h
      obtain ⟨h1, h2⟩ := wipeT_some h
      exact ⟨h1, by simp only [List.mem_cons, not_or]; exact ⟨fun e => hi e.symm, h2⟩⟩
theorem wipe_get : ∀ (σ : L2.St) (vs : List Nat) (j : Nat), (L2.wipe σ vs)[j]? = if j ∈ vs then (σ[j]?).map (fun _ => none) else σ[j]? := by
  intro σ vs
  induction vs with
  | nil => intro j; simp [L2.wipe]
  | cons v vs ih =>
    intro j
    unfold L2.wipe
    rw [List.getElem?_set]
    by_cases hj : v = j
    · subst hj
      simp only [if_true, wipe_length, List.mem_cons, true_or]
      by_cases hl : v < σ.length
      · rw [if_pos hl, List.getElem?_eq_getElem hl]; rfl
      · rw [if_neg hl, List.getElem?_eq_none (by omega)]; rfl
    · rw [if_neg hj, ih]
      simp only [List.mem_cons]
      have : ¬ j = v := fun e => hj e.symm
      simp [this]
theorem wipe_set {σ : L2.St} {i : Nat} {x : Option V} {vs : List Nat} (h : i ∈ vs) : L2.wipe (σ.set i x) vs = L2.wipe σ vs := by
  apply List.ext_getElem?
  intro j
  rw [wipe_get, wipe_get]
  by_cases hj : j ∈ vs
  · rw [if_pos hj, if_pos hj, List.getElem?_set]
    split
    · rename_i q
      subst q
      by_cases hl : i < σ.length
      · simp [hl]
      · simp [hl]
    · rfl
  · rw [if_neg hj, if_neg hj, List.getElem?_set_ne (fun (e : i = j) => hj (by rw [← e]; exact h))]
theorem wipe_wipe {σ : L2.St} {vs : List Nat} : L2.wipe (L2.wipe σ vs) vs = L2.wipe σ vs := by
  apply List.ext_getElem?
  intro j
  rw [wipe_get, wipe_get]
  by_cases hj : j ∈ vs
  · rw [if_pos hj, if_pos hj]; cases σ[j]? <;> rfl
  · rw [if_neg hj, if_neg hj]
section
variable {X : Cx} {ca : CA} {W : WX} {a b c e : Expr} {es rest : List Expr} {f g k : FE} {pos : Pos} {s₁ : Stmt} {ss : List Stmt} {u v w : FS} {tg : Expr}
theorem Slots.wipe {K : PySem.W.Frag} {ρ : Nat → Addr} {n : Nat} {H : Hp} {τ : Ti} {σ : L2.St} (h : Slots K ca ρ n H τ σ) (vs : List Nat) : Slots K ca ρ n H (wipeT τ vs) (L2.wipe σ vs) := by
  refine ⟨by rw [wipeT_length, wipe_length]; exact h.1, fun i d e => ?_⟩
  obtain ⟨e1, e2⟩ := wipeT_some e
  obtain ⟨v, e3, r⟩ := h.2 i d e1
  exact ⟨v, by rw [wipe_out e2]; exact e3, r⟩
theorem Slots.rk2 {K : PySem.W.Frag} {ca' : CA} {τ : Ti} {σ : L2.St} {n n' : Nat} {ρ ρ' : Nat → Addr} {H H' : Hp} (x : RK K ca ρ n H ca' ρ' n' H') (h : Slots K ca ρ n H τ σ) : Slots K ca' ρ' n' H' τ σ := ⟨h.1, fun i d e =>
  let ⟨v, e', r⟩ := h.2 i d e; ⟨v, e', r.rk x⟩⟩
/-! targets that keep all slots but vs -/
def tGw (K : PySem.W.Frag) (ca : CA) (vs : List Nat) (g : FG) : TG := fun v σ H Q => ∃ rv ρ st τ d, Slots K ⟨ca.f, rv⟩ ρ st.length H τ σ ∧ SRep K ⟨ca.f, rv⟩ ρ H st ∧ Rep K ⟨ca.f, rv⟩ ρ st.length H d v ∧
  Post K ⟨ca.f, rv⟩ W0 ρ st.length H (g d τ st) fun τ1 ρ1 st1 H1 => ∀ σ1, Slots K ⟨ca.f, rv⟩ ρ1 st1.length H1 τ1 σ1 → L2.wipe σ1 vs = L2.wipe σ vs → Q σ1 H1
def tGws (K : PySem.W.Frag) (ca : CA) (vs : List Nat) (g : FGs) : TGs := fun v σ H Q => ∃ rv ρ st τ d, Slots K ⟨ca.f, rv⟩ ρ st.length H τ σ ∧ SRep K ⟨ca.f, rv⟩ ρ H st ∧ Reps K ⟨ca.f, rv⟩ ρ st.length H d v ∧
  Post K ⟨ca.f, rv⟩ W0 ρ st.length H (g d τ st) fun τ1 ρ1 st1 H1 => ∀ σ1, Slots K ⟨ca.f, rv⟩ ρ1 st1.length H1 τ1 σ1 → L2.wipe σ1 vs = L2.wipe σ vs → Q σ1 H1
def JGw (X : Cx) (ca : CA) (vs : List Nat) (e : Expr) (g : FG) : Prop := PG X e (tGw X.K ca vs g)
def JGws (X : Cx) (ca : CA) (vs : List Nat) (es : List Expr) (g : FGs) : Prop := PGs X es (tGws X.K ca vs g)
theorem jgw_name {vs : List Nat} (i : Nat) {x : Str} (hv : i ∈ vs) (hN : X.N.Nodup) (hi : X.N[i]? = some x := by rfl) (hx : Loc X.env.scope x := by first | exact Or.inl rfl | exact Or.inr rfl) (hf : X.fn x = true ∨ X.env.scope.names.lookup x = some .local := by first | exact .inl rfl | exact .inr rfl | assumption) : JGw X ca vs (.Name x pos) (gN i) :=
  pg_imp (pg_name (i := i) hN hi hx hf) fun v σ H Q ⟨rv, ρ, st, τ, d, sl, s, r, h⟩ => h.here s _ (sl.set r i) (wipe_set hv)
theorem jgws_nil {vs : List Nat} : JGws X ca vs [] gNilD := pgs_imp pgs_nil fun v σ H Q ⟨rv, ρ, st, τ, d, sl, s, r, h⟩ => by
  cases d with
  | nil => simp only [Reps] at r; exact ⟨r, h.here s σ sl rfl⟩
  | cons _ _ => exact h.elim
theorem jgws_cons {vs : List Nat} {g₁ : FG} {h₁ : FGs} (hg : JGw X ca vs e g₁) (hh : JGws X ca vs es h₁) (hs : (assignEach (e :: es) X.env).map (·.2) = assign e X.env :: (assignEach es X.env).map (·.2) := by rfl) : JGws X ca vs (e :: es) (gConsD g₁ h₁) :=
  pgs_imp (pgs_cons hg hh hs) fun v σ H Q ⟨rv, ρ, st, τ, d, sl, s, r, h⟩ => by
    cases d with
    | nil => exact h.elim
    | cons d ds =>
      simp only [Reps] at r
      obtain ⟨v0, vs0, rfl, r1, r2⟩ := r
      refine ⟨v0, vs0, rfl, rv, ρ, st, τ, d, sl, s, r1, (Post.bind h).mono fun τ1 ρ1 st1 H1 x1 s1 ⟨_, _, q⟩ σ1 sl1 w1 => ?_⟩
      exact ⟨rv, ρ1, st1, τ1, ds, sl1, s1, r2.ext x1, q.mono fun τ2 ρ2 st2 H2 x2 s2 q σ2 sl2 w2 => q σ2 sl2 (w2.trans w1)⟩
theorem jgw_tup {vs : List Nat} {h₁ : FGs} {kk : Nat} {n : Nat} (hc : X.calm = true) (hh : JGws X ca vs es h₁) (hn : (assignEach es X.env).length = n := by rfl) (hst : (assignEach es X.env).findIdx? (·.1) = none := by rfl) : JGw X ca vs (.Tuple es kk pos) (gTupD n h₁) :=
  pg_imp (pg_tup hc hh hn hst) fun v σ H Q ⟨rv, ρ, st, τ, d, sl, s, r, h⟩ => by
    cases d with
    | tup ds =>
      simp only [Rep] at r
      obtain ⟨p, xs, rfl, q, rs⟩ := r
      simp only [gTupD] at h
      split at h
      · rename_i z
        exact ⟨p, xs, rfl, SqT.of q, by rw [rs.length]; exact z, rv, ρ, st, τ, ds, sl, s, rs, h⟩
      · exact h.elim
    | ktup ds =>
      simp only [Rep] at r
      obtain ⟨p, xs, rfl, q, rs⟩ := r
      simp only [gTupD] at h
      split at h
      · rename_i z
        exact ⟨p, xs, rfl, q.seq, by rw [rs.length]; exact z, rv, ρ, st, τ, ds, sl, s, rs, h⟩
      · exact h.elim
    | _ => exact h.elim
/-! the walk -/
def noX {α : Type} : R α → R α
  | .ok a st => .ok a st
  | _ => .bad
def lcD {β : Type} (g₁ : FG) (t : FB) (e : FE) (τ0 : Ti) (fin : List D → Sto → R β) : List D → List D → Sto → R β
  | [], acc => fun st => fin acc st
  | d :: ds, acc => fun st => (noX (g₁ d τ0 st)).bind fun τ1 st1 => (noX (t τ1 st1)).bind fun x st2 =>
    if x = true then (noX (e τ1 st2)).bind fun y st3 => if acc.length < sizeLine then lcD g₁ t e τ0 fin ds (acc ++ [y]) st3 else .bad else lcD g₁ t e τ0 fin ds acc st2
def lcO {β : Type} (g₁ : FG) (t : FB) (e : FE) (τ0 : Ti) (fin : List D → Sto → R β) (k : Nat) : Nat → Nat → List D → Sto → R β
  | 0, _, _ => fun _ => .bad
  | n + 1, i, acc => fun st => match st[k]? with
    | some (.lst ds) => match ds[i]? with
      | none => fin acc st
      | some d => (noX (g₁ d τ0 st)).bind fun τ1 st1 => (noX (t τ1 st1)).bind fun x st2 =>
        if x = true then (noX (e τ1 st2)).bind fun y st3 => if acc.length < sizeLine then lcO g₁ t e τ0 fin k n (i + 1) (acc ++ [y]) st3 else .bad else lcO g₁ t e τ0 fin k n (i + 1) acc st2
    | _ => .bad
def finLv (ys : List D) (st : Sto) : R D := .ok (.lv ys) st
def finO (ys : List D) (st : Sto) : R D := .ok (.obj st.length) (st ++ [.lst ys])
def fLcG (fin : List D → Sto → R D) (f : FI) (g₁ : FG) (vs : List Nat) (t : FB) (e : FE) : FE := fun τ st => (f τ st).bind fun src st1 => match src with
  | .imm ds => lcD g₁ t e (wipeT τ vs) fin ds [] st1
  | .obj k => lcO g₁ t e (wipeT τ vs) fin k forMost 0 [] st1
def bYes : FB := fun _ st => .ok true st
theorem Post.noX {α : Type} {K : PySem.W.Frag} {ρ : Nat → Addr} {n : Nat} {H : Hp} {r : R α} {F : α → (Nat → Addr) → Sto → Hp → Prop} (h : Post K ca W ρ n H (noX r) F) : Post K ca W0 ρ n H r F := by
  cases r with
  | ok a st => exact h
  | _ => exact h.elim
def tEr (K : PySem.W.Frag) (ca : CA) (f : FE) : TE := fun σ H Q => ∃ rv, tD K ⟨ca.f, rv⟩ W0 f σ H Q
def tTr (K : PySem.W.Frag) (ca : CA) (f : FB) : TT := fun σ H Q => ∃ rv, tDB K ⟨ca.f, rv⟩ W0 f σ H Q
section
variable {K : PySem.W.Frag} {ρ ρ' : Nat → Addr} {st st' : Sto} {H H' : Hp} {dd : Addr} {n n' : Nat}
/-- things move at an address that was free -/
theorem Ext.at_new {o : HO} (x : Ext ρ n H ρ' n' H') (h : H dd = none) : Ext ρ n H ρ' n' (upd H' dd o) :=
  ⟨x.le, x.same, x.new, fun a o e hn => by rw [upd_ne (ne_of_none e h)]; exact x.keep a o e hn, fun a xs e => by rw [upd_ne (ne_of_none e h)]; exact x.tups a xs e,
    fun a o u e => by rw [upd_ne (ne_of_none e h)]; exact x.frzs a o u e, fun a u e => by rw [upd_ne (ne_of_none e h)]; exact x.owns a u e,
    fun a o e => by rw [upd_ne (ne_of_none e h)]; exact x.there a o e⟩
/-- into the making -/
theorem Ext.rk_in (x : Ext ρ n H ρ' n' H') (h : H dd = none) : RK K ca ρ n H ⟨ca.f, dd :: ca.rv⟩ ρ' n' H' :=
  ⟨rfl, x.le, x.same, x.tups, fun a xs e => ⟨(x.lst e).1, (x.lst e).2.1, by simp only [List.mem_cons, not_or]; exact ⟨ne_of_none e.1 h, e.2.2⟩⟩, fun _ _ => x.kl, fun _ _ => x.dv⟩
/-- .. and out -/
theorem rk_out : RK K ⟨ca.f, dd :: ca.rv⟩ ρ n H ca ρ n H :=
  ⟨rfl, Nat.le_refl _, fun _ _ => rfl, fun _ _ e => e, fun a xs e => ⟨e.1, e.2.1, fun z => e.2.2 (List.mem_cons_of_mem _ z)⟩, fun _ _ e => e, fun _ _ e => e⟩
/-- the list in the making is written -/
theorem rk_mk {ca : CA} {xs ys : List V} (h : H dd = some (.lst xs)) (hd : dd ∈ ca.rv) : RK K ca ρ n H ca ρ n (upd H dd (.lst ys)) where
  f := rfl
  le := Nat.le_refl _
  same := fun _ _ => rfl
  tup := fun a xs e => by rw [upd_ne (ne_of e h (fun z => nomatch z))]; exact e
  lst := fun a xs e => ⟨by rw [upd_ne (fun (z : a = dd) => e.2.2 (by rw [z]; exact hd))]; exact e.1, e.2⟩
  kl := fun a xs e => by
    rcases e with ⟨o, e⟩ | e
    · exact .inl ⟨o, by rw [upd_ne (ne_of e h (fun z => nomatch z))]; exact e⟩
    · exact .inr e
  dv := fun a kvs e => by
    refine ⟨?_, e.2⟩
    rcases e.1 with e | ⟨o, e⟩
    · exact .inl (by rw [upd_ne (ne_of e h (fun z => nomatch z))]; exact e)
    · exact .inr ⟨o, by rw [upd_ne (ne_of e h (fun z => nomatch z))]; exact e⟩
theorem ORep.rk {ca ca' : CA} {o : MO} {a : Addr} (x : RK K ca ρ n H ca' ρ' n' H') (hk : ∀ b u, H b = some u → (b = a ∨ u = .own a) → H' b = some u) (h : ORep K ca ρ n H o a) : ORep K ca' ρ' n' H' o a := by
  cases o with
  | lst ds => obtain ⟨xs, e, r⟩ := h; exact ⟨xs, hk _ _ e (.inl rfl), r.rk x⟩
  | dic ks => obtain ⟨xs, e, r⟩ := h; exact ⟨xs, hk _ _ e (.inl rfl), r.rk x⟩
  | dit ks => obtain ⟨xs, e, r⟩ := h; exact ⟨xs, hk _ _ e (.inl rfl), r.rk x⟩
  | lck ks => obtain ⟨o, xs, e, r⟩ := h; exact ⟨o, xs, hk _ _ e (.inl rfl), r.rk x⟩
  | ins c fs => obtain ⟨C, dx, xs, c1, e, d, r⟩ := h; exact ⟨C, dx, xs, by rw [x.f]; exact c1, hk _ _ e (.inl rfl), hk _ _ d (.inr rfl), r.rk x⟩
theorem srep_mk {ca : CA} {xs ys : List V} (s : SRep K ca ρ H st) (h : H dd = some (.lst xs)) (hd : dd ∈ ca.rv) : SRep K ca ρ (upd H dd (.lst ys)) st := by
  refine ⟨fun i o e => (s.at_ i o e).rk (rk_mk h hd) fun b u q z => ?_, s.inj, fun a ha => ⟨?_, (s.res a ha).2⟩, tabs_write h ⟨fun _ => nofun, fun c q z => by unfold CodeO at z; cases z⟩ s.tab⟩
  · rcases z with z | z
    · rw [upd_ne (z ▸ (s.res dd hd).2 i (List.getElem?_eq_some_iff.mp e).1)]; exact q
    · rw [upd_ne (ne_of q h (fun w => by rw [z] at w; cases w))]; exact q
  · by_cases q : a = dd
    · subst q; exact ⟨ys, upd_same⟩
    · rw [upd_ne q]; exact (s.res a ha).1
/-- a new list begins to be made -/
theorem srep_in (s : SRep K ca ρ H st) (h : H dd = none) : SRep K ⟨ca.f, dd :: ca.rv⟩ ρ (upd H dd (.lst [])) st := by
  have s1 := s.upd_new (o := .lst []) h
  have x := Ext.upd_new (o := .lst []) s h
  refine ⟨fun i o e => (s.at_ i o e).rk (x.rk_in h) fun b u q _ => by rw [upd_ne (ne_of_none q h)]; exact q, s.inj, fun a ha => ?_, s1.tab⟩
  rcases List.mem_cons.mp ha with rfl | ha
  · exact ⟨⟨[], upd_same⟩, s.ne_new h⟩
  · exact s1.res a ha
theorem srep_out (s : SRep K ⟨ca.f, dd :: ca.rv⟩ ρ H st) : SRep K ca ρ H st :=
  ⟨fun i o e => (s.at_ i o e).rk rk_out fun _ _ q _ => q, s.inj, fun a ha => s.res a (List.mem_cons_of_mem _ ha), s.tab⟩
end
theorem mk_step {K : PySem.W.Frag} {ca : CA} {ρ2 ρ3 : Nat → Addr} {st2 st3 : Sto} {H2 H3 : Hp} {dd : Addr} {acc : List D} {xs : List V} (s2 : SRep K ca ρ2 H2 st2) (hm : dd ∈ ca.rv) (hd : H2 dd = some (.lst xs)) (rs : Reps K ca ρ2 st2.length H2 acc xs)
    (x : Ext ρ2 st2.length H2 ρ3 st3.length H3) : H3 dd = some (.lst xs) ∧ Reps K ca ρ3 st3.length H3 acc xs :=
  ⟨x.keep _ _ hd (fun _ => nofun) (s2.res dd hm).2, rs.ext x⟩
/-- a turn: from the item to what the rest wants -/
theorem lc_turn {K : PySem.W.Frag} {g₁ : FG} {t : FB} {e : FE} {τ : Ti} {vs : List Nat} {σ : L2.St} {dd : Addr} {ρ1 ρ2 : Nat → Addr} {n1 : Nat} {st2 : Sto} {H1 H2 : Hp} {d : D} {x : V} {acc : List D} {xs : List V} {β : Type} {rest : List D → Sto → R β}
    {F : β → (Nat → Addr) → Sto → Hp → Prop} {Nx : Hp → Prop} (h0 : H1 dd = none) (sl : Slots K ca ρ1 n1 H1 τ σ)
    (x2 : Ext ρ1 n1 H1 ρ2 st2.length H2) (s2 : SRep K ⟨ca.f, dd :: ca.rv⟩ ρ2 H2 st2) (hd : H2 dd = some (.lst xs)) (rs : Reps K ⟨ca.f, dd :: ca.rv⟩ ρ2 st2.length H2 acc xs) (rx : Rep K ⟨ca.f, dd :: ca.rv⟩ ρ2 st2.length H2 d x)
    (h : Post K ca W ρ1 n1 H1 ((noX (g₁ d (wipeT τ vs) st2)).bind fun τ1 st1 => (noX (t τ1 st1)).bind fun b st2 => if b = true then (noX (e τ1 st2)).bind fun y st3 => if acc.length < sizeLine then rest (acc ++ [y]) st3 else .bad else rest acc st2) F)
    (hN : ∀ ρ3 st3 H3 acc' xs', Ext ρ1 n1 H1 ρ3 st3.length H3 → SRep K ⟨ca.f, dd :: ca.rv⟩ ρ3 H3 st3 → H3 dd = some (.lst xs') → Reps K ⟨ca.f, dd :: ca.rv⟩ ρ3 st3.length H3 acc' xs' → Post K ca W ρ1 n1 H1 (rest acc' st3) F → Nx H3) :
    tGw K ca vs g₁ x (L2.wipe σ vs) H2 fun σ2 H2 => L2.wipe σ2 vs = L2.wipe σ vs ∧ tTr K ca t σ2 H2 fun b H3 =>
      if b = true then tEr K ca e σ2 H3 fun y H4 => ∃ acc, H4 dd = some (.lst acc) ∧ acc.length < sizeLine ∧ Nx (upd H4 dd (.lst (acc ++ [y]))) else Nx H3 := by
  have hm : dd ∈ (⟨ca.f, dd :: ca.rv⟩ : CA).rv := List.mem_cons_self
  refine ⟨dd :: ca.rv, ρ2, st2, wipeT τ vs, d, (sl.rk2 (x2.rk_in h0)).wipe vs, s2, rx, ?_⟩
  cases e1 : g₁ d (wipeT τ vs) st2 with
  | bad => rw [e1] at h; exact h
  | ex c fs τ' st' => rw [e1] at h; exact h.elim
  | ok τ1 st3 =>
    rw [e1] at h
    intro H3 ρ3 x3 s3 σ3 sl3 w3
    obtain ⟨hd3, rs3⟩ := mk_step s2 hm hd rs x3
    refine ⟨by rw [w3, wipe_wipe], dd :: ca.rv, ρ3, st3, τ1, sl3, s3, ?_⟩
    replace h : Post K ca W ρ1 n1 H1 ((noX (t τ1 st3)).bind fun b st2 => if b = true then (noX (e τ1 st2)).bind fun y st3 => if acc.length < sizeLine then rest (acc ++ [y]) st3 else .bad else rest acc st2) F := h
    cases e2 : t τ1 st3 with
    | bad => rw [e2] at h; exact h
    | ex c fs τ' st' => rw [e2] at h; exact h.elim
    | ok b st4 =>
      rw [e2] at h
      intro H4 ρ4 x4 s4
      obtain ⟨hd4, rs4⟩ := mk_step s3 hm hd3 rs3 x4
      have xx := (x2.trans x3).trans x4
      show if b = true then _ else _
      cases b with
      | false =>
        replace h : Post K ca W ρ1 n1 H1 (rest acc st4) F := h
        rw [if_neg (by decide)]
        exact hN _ _ _ _ _ xx s4 hd4 rs4 h
      | true =>
        replace h : Post K ca W ρ1 n1 H1 ((noX (e τ1 st4)).bind fun y st3 => if acc.length < sizeLine then rest (acc ++ [y]) st3 else .bad) F := h
        rw [if_pos rfl]
        refine ⟨dd :: ca.rv, ρ4, st4, τ1, sl3.ext x4, s4, ?_⟩
        cases e3 : e τ1 st4 with
        | bad => rw [e3] at h; exact h
        | ex c fs τ' st' => rw [e3] at h; exact h.elim
        | ok y st5 =>
          rw [e3] at h
          replace h : Post K ca W ρ1 n1 H1 (if acc.length < sizeLine then rest (acc ++ [y]) st5 else .bad) F := h
          intro H5 ρ5 x5 s5 v rv
          obtain ⟨hd5, rs5⟩ := mk_step s4 hm hd4 rs4 x5
          by_cases z : acc.length < sizeLine
          · rw [if_pos z] at h
            refine ⟨xs, hd5, by rw [rs5.length]; exact z, hN _ _ _ _ _ ((xx.trans x5).at_new h0) (srep_mk s5 hd5 hm) upd_same ?_ h⟩
            exact (rs5.append (Reps.cons rv Reps.nil)).rk (rk_mk hd5 hm)
          · rw [if_neg z] at h; exact h.elim
/-- what the end makes of the new list -/
def FinOk (fin : List D → Sto → R D) : Prop := ∀ (K : PySem.W.Frag) (ca : CA) (W : WX) (ρ1 : Nat → Addr) (n1 : Nat) (H1 : Hp) (ρ2 : Nat → Addr) (st2 : Sto) (H2 : Hp) (dd : Addr) (ys : List D) (xs : List V) (Q : VK), H1 dd = none → Ext ρ1 n1 H1 ρ2 st2.length H2 →
  dd ∉ ca.rv → SRep K ⟨ca.f, dd :: ca.rv⟩ ρ2 H2 st2 → H2 dd = some (.lst xs) → Reps K ⟨ca.f, dd :: ca.rv⟩ ρ2 st2.length H2 ys xs → Post K ca W ρ1 n1 H1 (fin ys st2) (KD K ca Q) → Q (.ref dd) H2
theorem finLv_ok : FinOk finLv := fun K ca W ρ1 n1 H1 ρ2 st2 H2 dd ys xs Q h0 x hn s hd rs h => by
  refine h H2 ρ2 x (srep_out s) _ ?_
  simp only [Rep]
  exact ⟨dd, xs, rfl, ⟨hd, (s.res dd List.mem_cons_self).2, hn⟩, rs.rk rk_out⟩
theorem finO_ok : FinOk finO := fun K ca W ρ1 n1 H1 ρ2 st2 H2 dd ys xs Q h0 x hn s hd rs h => by
  have hne := (s.res dd List.mem_cons_self).2
  have rk : RK K ⟨ca.f, dd :: ca.rv⟩ ρ2 st2.length H2 ca (more ρ2 st2.length dd) (st2.length + 1) H2 :=
    ⟨rfl, Nat.le_succ _, fun i hi => more_lt hi, fun _ _ e => e, fun a xs e => ⟨e.1, fun i hi => by
      by_cases q : i < st2.length
      · rw [more_lt q]; exact e.2.1 i q
      · have : i = st2.length := by omega
        subst this
        rw [more_same]
        exact fun z => e.2.2 (by rw [← z]; exact List.mem_cons_self), fun z => e.2.2 (List.mem_cons_of_mem _ z)⟩, fun _ _ e => e, fun a kvs e => ⟨e.1, fun i hi => by
      by_cases q : i < st2.length
      · rw [more_lt q]; exact e.2 i q
      · have : i = st2.length := by omega
        subst this
        rw [more_same]
        intro z
        subst z
        rcases e.1 with e | ⟨o, e⟩ <;> (rw [hd] at e; cases e)⟩⟩
  have hs : SRep K ca (more ρ2 st2.length dd) H2 (st2 ++ [.lst ys]) := by
    refine ⟨fun i o e => ?_, fun i j hi hj q => ?_, fun a ha => ⟨(s.res a (List.mem_cons_of_mem _ ha)).1, fun i hi => ?_⟩, s.tab⟩
    · rw [List.length_append, List.length_singleton]
      by_cases h : i < st2.length
      · rw [List.getElem?_append_left h] at e
        rw [more_lt h]
        exact (s.at_ i o e).rk rk fun _ _ q _ => q
      · have hi : i = st2.length := by
          have := (List.getElem?_eq_some_iff.mp e).1
          simp at this; omega
        subst hi
        simp at e; subst e
        rw [more_same]
        exact ⟨xs, hd, rs.rk rk⟩
    · simp at hi hj
      by_cases h : i < st2.length
      · by_cases h' : j < st2.length
        · rw [more_lt h, more_lt h'] at q; exact s.inj i j h h' q
        · have hj : j = st2.length := by omega
          subst hj
          rw [more_lt h, more_same] at q
          exact absurd q (hne i h)
      · have hi : i = st2.length := by omega
        subst hi
        by_cases h' : j < st2.length
        · rw [more_lt h', more_same] at q
          exact absurd q.symm (hne j h')
        · omega
    · simp at hi
      by_cases h : i < st2.length
      · rw [more_lt h]; exact (s.res a (List.mem_cons_of_mem _ ha)).2 i h
      · have : i = st2.length := by omega
        subst this
        rw [more_same]
        exact fun z => hn (z ▸ ha)
  refine h H2 (more ρ2 st2.length dd) ?_ hs _ (rep_obj_new _)
  rw [List.length_append, List.length_singleton]
  exact ⟨Nat.le_succ_of_le x.le, fun i hi => by rw [more_lt (Nat.lt_of_lt_of_le hi x.le)]; exact x.same i hi, fun i h1 h2 => by
    by_cases h : i < st2.length
    · rw [more_lt h]; exact x.new i h1 h
    · have : i = st2.length := by omega
      subst this
      rw [more_same]; exact h0, x.keep, x.tups, x.frzs, x.owns, x.there⟩
theorem lc_tLc {fin : List D → Sto → R D} (hf : FinOk fin) {K : PySem.W.Frag} {fi : FI} {g₁ : FG} {vs : List Nat} {t : FB} {e : FE} {σ : L2.St} {H : Hp} {Q : VK}
    (h : tD K ca W (fLcG fin fi g₁ vs t e) σ H Q) : tLc (tDI K ca W fi) (tGw K ca vs g₁) (tTr K ca t) (tEr K ca e) vs σ H Q := by
  obtain ⟨ρ, st, τ, sl, s, h⟩ := h
  refine at_of sl s h fun src ρ1 st1 H1 x1 sl1 s1 h1 J hJ dd h0 => ?_
  have hn : dd ∉ ca.rv := s1.not_res h0
  have hm : dd ∈ (⟨ca.f, dd :: ca.rv⟩ : CA).rv := List.mem_cons_self
  have s2 := srep_in (ca := ca) s1 h0
  have x2 := Ext.upd_new (o := .lst []) s1 h0
  cases src with
  | imm ds =>
    refine ⟨fun i m H' => i ≤ ds.length ∧ m = ds.length - i ∧ ∃ ρ' st' acc xs, Ext ρ1 st1.length H1 ρ' st'.length H' ∧ SRep K ⟨ca.f, dd :: ca.rv⟩ ρ' H' st' ∧ H' dd = some (.lst xs) ∧ Reps K ⟨ca.f, dd :: ca.rv⟩ ρ' st'.length H' acc xs ∧
        Post K ca W ρ1 st1.length H1 (lcD g₁ t e (wipeT τ vs) fin (ds.drop i) acc st') (KD K ca Q),
      ⟨ds.length, Nat.zero_le _, rfl, ρ1, st1, [], [], x2, s2, upd_same, Reps.nil, h1⟩, fun i m H2 ⟨hi, hm', ρ2, st2, acc, xs, x3, s3, hd, rs, h2⟩ => ?_⟩
    obtain ⟨hg, hs⟩ := hJ ⟨ca.f, dd :: ca.rv⟩ ρ2 st2.length H2 x3 (x3.rk_in h0)
    by_cases hl : i < ds.length
    · right
      rw [List.drop_eq_getElem_cons hl] at h2
      obtain ⟨g0, gy⟩ := hg i ds[i] (List.getElem?_eq_getElem hl)
      refine ⟨g0, fun H2 => ∃ ρ' st' acc xs, Ext ρ1 st1.length H1 ρ' st'.length H2 ∧ SRep K ⟨ca.f, dd :: ca.rv⟩ ρ' H2 st' ∧ H2 dd = some (.lst xs) ∧ Reps K ⟨ca.f, dd :: ca.rv⟩ ρ' st'.length H2 acc xs ∧
        Post K ca W ρ1 st1.length H1 (lcD g₁ t e (wipeT τ vs) fin (ds.drop (i + 1)) acc st') (KD K ca Q), fun H' q => ⟨ds.length - (i + 1), by omega, hl, rfl, q⟩, fun x H4 hy => ?_⟩
      obtain ⟨hh, hr⟩ := gy x H4 hy
      obtain ⟨x4, s4⟩ := ext_same s3 hh
      obtain ⟨hd4, rs4⟩ := mk_step s3 hm hd rs x4
      exact lc_turn (W := W) h0 sl1 (x3.trans x4) s4 hd4 rs4 hr (rest := fun acc st => lcD g₁ t e (wipeT τ vs) fin (ds.drop (i + 1)) acc st) h2 fun ρ3 st3 H3 acc' xs' xx ss hdd rr pp => ⟨ρ3, st3, acc', xs', xx, ss, hdd, rr, pp⟩
    · left
      have e : ds.drop i = [] := List.drop_of_length_le (Nat.le_of_not_lt hl)
      rw [e] at h2
      exact ⟨hs i (Nat.le_of_not_lt hl), hf K ca W _ _ _ _ _ _ _ _ _ _ h0 x3 hn s3 hd rs h2⟩
  | obj k =>
    obtain ⟨hk, rfl⟩ := hJ
    refine ⟨fun i m H' => ∃ ρ' st' acc xs, Ext ρ1 st1.length H1 ρ' st'.length H' ∧ SRep K ⟨ca.f, dd :: ca.rv⟩ ρ' H' st' ∧ H' dd = some (.lst xs) ∧ Reps K ⟨ca.f, dd :: ca.rv⟩ ρ' st'.length H' acc xs ∧
        Post K ca W ρ1 st1.length H1 (lcO g₁ t e (wipeT τ vs) fin k m i acc st') (KD K ca Q),
      ⟨forMost, ρ1, st1, [], [], x2, s2, upd_same, Reps.nil, h1⟩, fun i m H2 ⟨ρ2, st2, acc, xs, x3, s3, hd, rs, h2⟩ => ?_⟩
    cases m with
    | zero => exact h2.elim
    | succ m =>
      simp only [lcO] at h2
      cases q : st2[k]? with
      | none => simp only [q] at h2; exact h2.elim
      | some mo =>
        cases mo with
        | lst ds =>
          simp only [q] at h2
          obtain ⟨ys, ha, rr⟩ := s3.at_ k _ q
          rw [x3.same k hk] at ha
          cases q2 : ds[i]? with
          | none =>
            left
            simp only [q2] at h2
            refine ⟨⟨ys, SqL.of ha, ?_⟩, hf K ca W _ _ _ _ _ _ _ _ _ _ h0 x3 hn s3 hd rs h2⟩
            rw [rr.length]
            exact List.getElem?_eq_none_iff.mp q2
          | some d =>
            right
            simp only [q2] at h2
            obtain ⟨v, ev, r⟩ := rr.get q2
            refine ⟨⟨ys, v, SqL.of ha, ev⟩, fun H2 => ∃ ρ' st' acc xs, Ext ρ1 st1.length H1 ρ' st'.length H2 ∧ SRep K ⟨ca.f, dd :: ca.rv⟩ ρ' H2 st' ∧ H2 dd = some (.lst xs) ∧ Reps K ⟨ca.f, dd :: ca.rv⟩ ρ' st'.length H2 acc xs ∧
              Post K ca W ρ1 st1.length H1 (lcO g₁ t e (wipeT τ vs) fin k m (i + 1) acc st') (KD K ca Q), fun H' q => ⟨m, Nat.lt_succ_self _, q⟩, fun x H4 ⟨hy, hz⟩ => ?_⟩
            subst hy
            have ex : x = v := by
              have := hz ys (SqL.of ha)
              rw [ev] at this
              exact (Option.some.inj this).symm
            subst ex
            exact lc_turn (W := W) h0 sl1 x3 s3 hd rs r (rest := fun acc st => lcO g₁ t e (wipeT τ vs) fin k m (i + 1) acc st) h2 fun ρ3 st3 H3 acc' xs' xx ss hdd rr pp => ⟨ρ3, st3, acc', xs', xx, ss, hdd, rr, pp⟩
        | _ => simp only [q] at h2; exact h2.elim
theorem pe_ex {ι : Type} {t : ι → TE} (h : ∀ i, PE X a (t i)) : PE X a (fun σ H Q => ∃ i, t i σ H Q) := ⟨fun pins s σ H Q I ⟨i, q⟩ => (h i).run pins s σ H Q I q⟩
theorem pts_ex {ι : Type} {ifs : List Expr} {t : ι → TT} (h : ∀ i, PTs X ifs (t i)) : PTs X ifs (fun σ H Q => ∃ i, t i σ H Q) := ⟨fun pins s σ H Q I ⟨i, q⟩ => (h i).run pins s σ H Q I q⟩
theorem pts_imp {ifs : List Expr} {t t' : TT} (h : PTs X ifs t) (i : ∀ σ H Q, t' σ H Q → t σ H Q) : PTs X ifs t' := ⟨fun pins s σ H Q I q => h.run pins s σ H Q I (i σ H Q q)⟩
/-- what stands in a comprehension's block -/
def JEb (X : Cx) (ca : CA) (scope : Scope) (e : Expr) (f : FE) : Prop := ∀ (s : Shared) (H : Hp) (C : Addr) (cl : List (Str × Addr)) (fp : List Addr) (rv : List Addr), JE (X.blk s H scope (compEnvC scope cl C X.env) fp) ⟨ca.f, rv⟩ W0 e f
def JTs (X : Cx) (ca : CA) (scope : Scope) (ifs : List Expr) (t : FB) : Prop := ∀ (s : Shared) (H : Hp) (C : Addr) (cl : List (Str × Addr)) (fp : List Addr), PTs (X.blk s H scope (compEnvC scope cl C X.env) fp) ifs (tTr X.K ca t)
def JGb (X : Cx) (ca : CA) (scope : Scope) (vs : List Nat) (e : Expr) (g : FG) : Prop := ∀ (s : Shared) (H : Hp) (C : Addr) (cl : List (Str × Addr)) (fp : List Addr), JGw (X.blk s H scope (compEnvC scope cl C X.env) fp) ca vs e g
theorem jts_nil {scope : Scope} : JTs X ca scope [] bYes := fun s H C cl fp => pts_imp pts_nil fun σ H Q ⟨rv, ρ, st, τ, sl, s, h⟩ => h.here s
theorem jts_one {scope : Scope} {t : FB} (h : ∀ (s : Shared) (H : Hp) (C : Addr) (cl : List (Str × Addr)) (fp : List Addr) (rv : List Addr), JB (X.blk s H scope (compEnvC scope cl C X.env) fp) ⟨ca.f, rv⟩ W0 c t) : JTs X ca scope [c] t :=
  fun s H C cl fp => pts_ex fun rv => pts_one (h s H C cl fp rv)
theorem je_lc {iter elt : Expr} {ifs : List Expr} {scope : Scope} {own : List (Str × Nat)} {fin : List D → Sto → R D} {fi : FI} {g₁ : FG} {t : FB} {e : FE} (hf : FinOk fin) (hc : X.calm = true) (hN : X.N.Nodup) (hi : JI X ca W tg iter fi) (ok : BlkOk X.N X.env.scope scope own)
    (hg : JGb X ca scope (own.map (·.2)) tg g₁) (ht : JTs X ca scope ifs t) (he : JEb X ca scope elt e) (hs : ∀ x, foldedSetIterable iter X.env x = pure x := by intro _; rfl) : JE X ca W (.ListComp elt [⟨tg, iter, ifs, 0⟩] scope pos) (fLcG fin fi g₁ (own.map (·.2)) t e) :=
  pe_imp (pe_lc (own := own) (g := tGw X.K ca (own.map (fun p : Str × Nat => p.2)) g₁) (tt := tTr X.K ca t) (te := tEr X.K ca e) hc hN hi ok hg ht (fun s H C cl fp => pe_ex (t := fun rv => tD X.K ⟨ca.f, rv⟩ W0 e) fun rv => he s H C cl fp rv) hs) fun σ H Q h => lc_tLc hf h
theorem js_setLc (i : Nat) {y : Str} {py spos : Pos} {iter elt : Expr} {ifs : List Expr} {scope : Scope} {own : List (Str × Nat)} {fin : List D → Sto → R D} {fi : FI} {g₁ : FG} {t : FB} {e : FE} (hf : FinOk fin) (hc : X.calm = true) (hN : X.N.Nodup) (hi : JI X ca W tg iter fi) (ok : BlkOk X.N X.env.scope scope own)
    (hg : JGb X ca scope (own.map (·.2)) tg g₁) (ht : JTs X ca scope ifs t) (he : JEb X ca scope elt e) (hy : X.N[i]? = some y := by rfl) (hyl : X.env.scope.names.lookup y = some .local := by rfl)
    (hsw : swapsWith (.ListComp elt [⟨tg, iter, ifs, 0⟩] scope pos) (some (.Name y py)) spos.line X.env = pure true := by exact sw_true rfl rfl rfl rfl) (hs : ∀ x, foldedSetIterable iter X.env x = pure x := by intro _; rfl) :
    JS X ca W (.Assign [.Name y py] (.ListComp elt [⟨tg, iter, ifs, 0⟩] scope pos) spos) (sSet i (fLcG fin fi g₁ (own.map (·.2)) t e)) :=
  ps_imp (ps_setLc (own := own) (g := tGw X.K ca (own.map (fun p : Str × Nat => p.2)) g₁) (tt := tTr X.K ca t) (te := tEr X.K ca e) hc hN hy hyl hsw hi ok hg ht (fun s H C cl fp => pe_ex (t := fun rv => tD X.K ⟨ca.f, rv⟩ W0 e) fun rv => he s H C cl fp rv) hs) fun Dn σ H ⟨ρ, st, τ, sl, s, h⟩ => lc_tLc hf ⟨ρ, st, τ, sl, s, (Post.bind h).mono fun d ρ1 st1 H1 x1 s1 ⟨_, _, q⟩ v r => q.here s1 _ ((sl.ext x1).set r i)⟩
end
end DL
set_option Elab.async false
set_option linter.all false
set_option maxRecDepth 100000
set_option maxHeartbeats 4000000
namespace DL
open PySem PySem.Spec PyProof.Rows L2
/-! calls: a def's promise by a function over values and the store; nothing is being told by repr when it is called -/
/-- frames that a level may take -/
def frm : Nat := 2
structure RoomL (k : Nat) (A : Around) : Prop where
  hd : A.handled = none
  dp : A.depth + frm * k + 60 < recursionLimit
  un : A.units + 7 * (frm * k) + 400 < cLine
theorem frm_succ (k : Nat) : frm * k + 1 ≤ frm * (k + 1) := by
  rw [Nat.mul_succ]; exact Nat.add_le_add_left (by decide) _
theorem RoomL.mono {j k : Nat} {A : Around} (r : RoomL k A) (h : j ≤ k) : RoomL j A := by
  have m : frm * j ≤ frm * k := Nat.mul_le_mul_left _ h
  exact ⟨r.hd, by have := r.dp; omega, by have := r.un; omega⟩
theorem RoomL.deeper {k : Nat} {A : Around} (r : RoomL (k + 1) A) (env : Env) : RoomL k (A.deeper env) := by
  have m := frm_succ k
  exact ⟨r.hd, by have := r.dp; show A.depth + 1 + frm * k + 60 < _; omega, by have := r.un; show A.units + 3 + 7 * (frm * k) + 400 < _; omega⟩
theorem RoomL.make {k : Nat} {A : Around} (r : RoomL (k + 1) A) (C : Addr) (us : List Value) (kw : List (Str × Value)) : RoomL k (A.under (.builtin "type.__call__" ⟨.ref C :: us, kw⟩)) := by
  have m := frm_succ k
  exact ⟨r.hd, by have := r.dp; rw [make_depth]; omega, by have := r.un; rw [make_units]; omega⟩
theorem RoomL.depth {k : Nat} {A : Around} (r : RoomL k A) : A.depth < recursionLimit := by have := r.dp; omega
theorem RoomL.room {k : Nat} {A : Around} (r : RoomL k A) : Room 12 A := ⟨r.hd, by have := r.dp; omega, by have := r.un; omega⟩
structure FnG (P : Program) (w : World) (K : PySem.W.Frag) (mg : Str → Option Value) (base : Heap) (k : Nat)
    (f : Addr) (fd : FuncData) (ps : List Str) (sp : Sp) : Prop where
  len : ∀ xs H Q E, sp xs H Q E → xs.length = ps.length
  run : ∀ (A : Around) (outer : List Env) (s : Shared) (H : Hp) (args : Args) (us : List Value) (xs : List V) (Q : VK) (E : XK),
    RoomL k A → A.guards = some [] → Env0 P w K mg base A outer s H → BindsTo s fd args (ps.zip us) → Vals xs us → sp xs H Q E →
      codeAny (model P w) A (.call (.ref f) args) (CR (L2.CX P w) outer P w H s Q E) s
section
variable {P : Program} {w : World} {K : PySem.W.Frag} {mg : Str → Option Value} {base : Heap} {k j : Nat} {f : Addr} {fd : FuncData} {ps : List Str} {sp : Sp}
theorem FnG.up (F : FnG P w K mg base j f fd ps sp) (h : j ≤ k) : FnG P w K mg base k f fd ps sp :=
  ⟨F.len, fun A outer s H args us xs Q E hr => F.run A outer s H args us xs Q E (hr.mono h)⟩
end
section
variable {X : Cx} {k : Nat} {f C : Addr} {fd : FuncData} {ps : List Str} {sp : Sp} {W : WX} {x m : Str} {p pos apos : Pos} {e o : Expr} {es : List Expr} {ta : TE} {t : TA}
theorem run_g {pins : List (Addr × Obj)} {σ : L2.St} {H : Hp} {s : Shared} {Q : VK} {us : List Value} {xs : List V} (F : FnG X.prog X.w X.K X.mg X.base k f fd ps sp) (hr : RoomL k X.A)
    (hg : X.A.guards = some []) (hb : Binds X.K fd ps []) (tk : Takes X W) (I : Inv X pins σ H s) (r : Vals xs us) (h : sp xs H Q (WE W σ)) :
    wpAny (model X.prog X.w) X.A (call (.ref f) us) (EP X pins σ Q) X.xe s := by
  have hl : (us ++ []).length = ps.length := by rw [List.append_nil, ← r.length]; exact F.len _ _ _ _ h
  have bb := hb s us I.kIn hl
  rw [List.append_nil] at bb
  refine wpAny_call (codeAny_mono (F.run X.A X.stack s H ⟨us, []⟩ us xs Q (WE W σ) hr hg I.env0 bb r h) fun res s2 q => ?_)
  match res, q with
  | .error ev, q => exact passAt tk σ pins H s ev s2 I q
  | .ok (.ret u), q => exact I.after q
/-- f(e, ..) -/
def tCallG (sp : Sp) (W : WX) (t : TA) : TE := fun σ H Q => t σ H fun xs H1 => sp xs H1 Q (WE W σ)
theorem pe_callG (F : FnG X.prog X.w X.K X.mg X.base k f fd ps sp) (hr : RoomL k X.A) (hgd : X.A.guards = some []) (hg : Gl X x) (hm : X.mg x = some (.ref f)) (hk : PySem.W.keepIn X.K (.ref f) = true)
    (hb : Binds X.K fd ps []) (tk : Takes X W) (ha : PA X (e :: es) t) (hdb : (x == ("__debug__" : Str)) = false) (he : starEach (e :: es) X.env = (false, eval e X.env) :: starEach es X.env)
    (hpl : (backTo pos (starEach es X.env)).any (·.1) = false) : PE X (.Call (.Name x p) (e :: es) [] pos) (tCallG sp W t) :=
  ⟨fun pins s σ H Q I h => wpAny_Call_Name_kw (ld_glob I hg hm
    (PySem.W.callWith_K (h₀ := X.base) I.ok.mod.kin hk (thn (ha.run pos pins s σ H _ I h) fun us s1 ⟨xs, H1, I1, r, q⟩ => ⟨I1.kIn, run_g F hr hgd hb tk I1 r q⟩) he hpl) hdb)⟩
theorem pe_callG0 (F : FnG X.prog X.w X.K X.mg X.base k f fd ps sp) (hr : RoomL k X.A) (hgd : X.A.guards = some []) (hg : Gl X x) (hm : X.mg x = some (.ref f)) (hk : PySem.W.keepIn X.K (.ref f) = true)
    (hb : Binds X.K fd ps []) (tk : Takes X W) (hdb : (x == ("__debug__" : Str)) = false) : PE X (.Call (.Name x p) [] [] pos) (tCallG sp W tNil) :=
  ⟨fun pins s σ H Q I h => wpAny_Call_Name_kw (ld_glob I hg hm (PySem.W.callWith_K0 I.kIn hk (run_g (us := []) F hr hgd hb tk I .nil h)) hdb)⟩
/-- o.m(e, ..) -/
def tMethG (C : Addr) (m : Str) (sp : Sp) (W : WX) (ta : TE) (t : TA) : TE := fun σ H Q => ta σ H fun y H1 => ∃ a dx fs, y = .ref a ∧ H1 a = some (.ins C dx fs) ∧ fs.lookup m = none ∧
  t σ H1 fun xs H2 => sp (y :: xs) H2 Q (WE W σ)
abbrev MethTree (pl : Sem Bool) (o : Expr) (m : Str) (apos pos : Pos) (args : List Expr) (env : Env) : Prop := eval (.Call (.Attribute o m apos) args [] pos) env = (do
      let ov ← eval o env
      standAt apos.atName
      let (f, first) ← holding [ov] (getMethod ov m pl)
      callWith pos f first (backTo pos (starEach args env)) (backToKw pos (keywordEach [] env)))
theorem pe_methG {pl : Sem Bool} (he : PE X o ta) (c : Cls X.K C) (hm : Meth X.K C m f) (F : FnG X.prog X.w X.K X.mg X.base k f fd ps sp) (hr : RoomL k X.A) (hgd : X.A.guards = some []) (hb : Binds X.K fd ps [])
    (tk : Takes X W) (ha : PA X (e :: es) t) (hst : starEach (e :: es) X.env = (false, eval e X.env) :: starEach es X.env) (hpl : (backTo pos (starEach es X.env)).any (·.1) = false)
    (ht : MethTree pl o m apos pos (e :: es) X.env) : PE X (.Call (.Attribute o m apos) (e :: es) [] pos) (tMethG C m sp W ta t) := by
  refine ⟨fun pins s σ H Q I h => PySem.W.methodCall_KW (pl := pl) (thn (he.run pins s σ H _ I h) fun u s1 ⟨y, H1, I1, ry, a, dx, fs, ey, ea, l, q⟩ => ?_) ht⟩
  subst ey
  cases (show u = Value.ref a from ry)
  exact getmeth_ok I1 ea c hm l (PySem.W.callWith_K (first := [.ref a]) (h₀ := X.base) I1.ok.mod.kin hm.kp (thn (ha.run pos pins s1 σ H1 _ I1 q) fun us s2 ⟨xs, H2, I2, r, q2⟩ =>
    ⟨I2.kIn, run_g (us := .ref a :: us) (xs := .ref a :: xs) F hr hgd hb tk I2 (.cons rfl r) q2⟩) hst hpl)
theorem pe_methG0 {pl : Sem Bool} (he : PE X o ta) (c : Cls X.K C) (hm : Meth X.K C m f) (F : FnG X.prog X.w X.K X.mg X.base k f fd ps sp) (hr : RoomL k X.A) (hgd : X.A.guards = some []) (hb : Binds X.K fd ps [])
    (tk : Takes X W) (ht : MethTree pl o m apos pos [] X.env) : PE X (.Call (.Attribute o m apos) [] [] pos) (tMethG C m sp W ta tNil) := by
  refine ⟨fun pins s σ H Q I h => PySem.W.methodCall_KW (pl := pl) (thn (he.run pins s σ H _ I h) fun u s1 ⟨y, H1, I1, ry, a, dx, fs, ey, ea, l, q⟩ => ?_) ht⟩
  subst ey
  cases (show u = Value.ref a from ry)
  exact getmeth_ok I1 ea c hm l (PySem.W.callWith_K0 (first := [.ref a]) I1.kIn hm.kp (run_g (us := [.ref a]) (xs := [.ref a]) F hr hgd hb tk I1 (.cons rfl .nil) q))
/-- C(..) -/
def tMakeG (C : Addr) (sp : Sp) (W : WX) (t : TA) : TE := fun σ H Q => t σ H fun xs H1 => ∀ y dx, H1 y = none → H1 dx = none → dx ≠ y →
  sp (.ref y :: xs) (upd (upd H1 dx (.own y)) y (.ins C dx [])) (fun v H2 => v = .non ∧ Q (.ref y) H2) (WE W σ)
theorem guards_make {A : Around} {C : Addr} {us : List Value} {kw : List (Str × Value)} : (A.under (.builtin "type.__call__" ⟨.ref C :: us, kw⟩)).guards = A.guards := by
  first | rfl | simp [Around.under, Code.weight, Code.isCreation, Code.isGuard, Code.isCaller, Code.frames, Code.isFrame, guardIds]
theorem run_mk {pins : List (Addr × Obj)} {σ : L2.St} {H : Hp} {s : Shared} {Q : VK} {us : List Value} {xs : List V} (M : Mk X.K C f) (F : FnG X.prog X.w X.K X.mg X.base k f fd ps sp) (hr : RoomL (k + 1) X.A)
    (hgd : X.A.guards = some []) (hb : Binds X.K fd ps []) (tk : Takes X W) (I : Inv X pins σ H s) (r : Vals xs us)
    (h : ∀ y dx, H y = none → H dx = none → dx ≠ y → sp (.ref y :: xs) (upd (upd H dx (.own y)) y (.ins C dx [])) (fun v H2 => v = .non ∧ Q (.ref y) H2) (WE W σ)) :
    wpAny (model X.prog X.w) X.A (call (.ref C) us) (EP X pins σ Q) X.xe s := by
  have ne : s.heap.objs.size ≠ s.heap.objs.size + 1 := Nat.ne_of_lt (Nat.lt_succ_self _)
  have q0 := h (s.heap.objs.size + 1) s.heap.objs.size (I.hok.fresh (Nat.le_succ _)) (I.hok.fresh (Nat.le_refl _)) ne
  have I2 := Inv.made (C := C) I
  have rr : Vals (V.ref (s.heap.objs.size + 1) :: xs) (Value.ref (s.heap.objs.size + 1) :: us) := .cons rfl r
  have hl : ((Value.ref (s.heap.objs.size + 1) :: us) ++ []).length = ps.length := by rw [List.append_nil, ← rr.length]; exact F.len _ _ _ _ q0
  have bb := hb _ (Value.ref (s.heap.objs.size + 1) :: us) I2.kIn hl
  rw [List.append_nil] at bb
  refine wpAny_call (make_map (f := f) I.kIn M.makes M.init (beq_iff_eq.mp M.fn) (codeAny_mono (F.run _ X.stack _ _ ⟨Value.ref (s.heap.objs.size + 1) :: us, []⟩ _ _ _ (WE W σ) (hr.make C us [])
    (guards_make.trans hgd) (I2.env0.make C us []) bb rr q0) fun res s2 q => ?_))
  match res, q with
  | .error ev, q => exact passAt tk σ pins _ _ ev s2 I2 q
  | .ok (.ret u), q =>
    obtain ⟨v, H3, I3, rv, ev, q3⟩ := I2.after q
    subst ev
    exact ⟨rv, ⟨V.ref (s.heap.objs.size + 1), H3, I3, rfl, q3⟩⟩
theorem pe_makeG (M : Mk X.K C f) (F : FnG X.prog X.w X.K X.mg X.base k f fd ps sp) (hr : RoomL (k + 1) X.A) (hgd : X.A.guards = some []) (hg : Gl X x) (hm : X.mg x = some (.ref C))
    (hb : Binds X.K fd ps []) (tk : Takes X W) (ha : PA X (e :: es) t) (hdb : (x == ("__debug__" : Str)) = false) (he : starEach (e :: es) X.env = (false, eval e X.env) :: starEach es X.env)
    (hpl : (backTo pos (starEach es X.env)).any (·.1) = false) : PE X (.Call (.Name x p) (e :: es) [] pos) (tMakeG C sp W t) :=
  ⟨fun pins s σ H Q I h => wpAny_Call_Name_kw (ld_glob I hg hm
    (PySem.W.callWith_K (h₀ := X.base) I.ok.mod.kin M.kp (thn (ha.run pos pins s σ H _ I h) fun us s1 ⟨xs, H1, I1, r, q⟩ => ⟨I1.kIn, run_mk M F hr hgd hb tk I1 r q⟩) he hpl) hdb)⟩
theorem pe_makeG0 (M : Mk X.K C f) (F : FnG X.prog X.w X.K X.mg X.base k f fd ps sp) (hr : RoomL (k + 1) X.A) (hgd : X.A.guards = some []) (hg : Gl X x) (hm : X.mg x = some (.ref C))
    (hb : Binds X.K fd ps []) (tk : Takes X W) (hdb : (x == ("__debug__" : Str)) = false) : PE X (.Call (.Name x p) [] [] pos) (tMakeG C sp W tNil) :=
  ⟨fun pins s σ H Q I h => wpAny_Call_Name_kw (ld_glob I hg hm (PySem.W.callWith_K0 I.kIn M.kp (run_mk (us := []) M F hr hgd hb tk I .nil h)) hdb)⟩
end
/-! ### the data layer's promise -/
abbrev Fn := List D → Sto → R D
def spD (K : PySem.W.Frag) (cf : CF) (n : Nat) (r : Fn) : Sp := fun xs H Q E => xs.length = n ∧ ∃ rv ρ st ds, Reps K ⟨cf, rv⟩ ρ st.length H ds xs ∧ SRep K ⟨cf, rv⟩ ρ H st ∧
  Post K ⟨cf, rv⟩ (fun c d _ H => E c d H) ρ st.length H (r ds st) (KD K ⟨cf, rv⟩ Q)
/-- a raise leaves the slots as they are -/
def exAt {α : Type} (τ : Ti) : R α → R α
  | .ex c fs _ st => .ex c fs τ st
  | r => r
def fCall (r : Fn) (h : FA) : FE := fun τ st => (h τ st).bind fun ds st1 => exAt τ (r ds st1)
/-- a body's end -/
def runB (u : FS) (N : Nat) : Fn := fun ds st => (u (ds.map some ++ List.replicate (N - ds.length) none) st).bind fun o st1 => match o with
  | .rt d => .ok d st1
  | .nx _ => .ok .non st1
  | _ => .bad
/-- a def that may be called by its name -/
structure CalG (P : Program) (w : World) (K : PySem.W.Frag) (mg : Str → Option Value) (base : Heap) (cf : CF) (k : Nat) (x : Str) (n : Nat) (r : Fn) : Prop where
  ex : ∃ (f : Addr) (fd : FuncData) (ps : List Str), FnG P w K mg base k f fd ps (spD K cf n r) ∧ mg x = some (.ref f) ∧ PySem.W.keepIn K (.ref f) = true ∧ Binds K fd ps []
structure MetG (P : Program) (w : World) (K : PySem.W.Frag) (mg : Str → Option Value) (base : Heap) (cf : CF) (k : Nat) (c m : Str) (n : Nat) (r : Fn) : Prop where
  ex : ∃ (C f : Addr) (fd : FuncData) (ps : List Str), cf c = some C ∧ Cls K C ∧ Meth K C m f ∧ FnG P w K mg base k f fd ps (spD K cf n r) ∧ Binds K fd ps []
structure MakG (P : Program) (w : World) (K : PySem.W.Frag) (mg : Str → Option Value) (base : Heap) (cf : CF) (k : Nat) (c : Str) (n : Nat) (r : Fn) : Prop where
  ex : ∃ (C f : Addr) (fd : FuncData) (ps : List Str), cf c = some C ∧ mg c = some (.ref C) ∧ Mk K C f ∧ FnG P w K mg base k f fd ps (spD K cf n r) ∧ Binds K fd ps []
section
variable {X : Cx} {ca : CA} {W : WX} {k j n : Nat} {x c m : Str} {p pos apos : Pos} {e o : Expr} {es : List Expr} {f : FE} {h : FA} {r : Fn}
theorem Post.atCall {ρ : Nat → Addr} {n : Nat} {H : Hp} {τ : Ti} {σ : L2.St} {q : R D} {F : D → (Nat → Addr) → Sto → Hp → Prop} {K : PySem.W.Frag} (sl : Slots K ca ρ n H τ σ)
    (h : Post K ca W ρ n H (exAt τ q) F) : Post K ca (fun c d _ H => WE W σ c d H) ρ n H q F := by
  cases q with
  | ok d st => exact h
  | bad => exact h
  | ex c fs τ' st => exact fun C σ' dx H' ρ' e x _ r s => h C σ dx H' ρ' e x (sl.ext x) r s
theorem call_spD {K : PySem.W.Frag} {σ : L2.St} {H : Hp} {Q : VK} {τ : Ti} {st : Sto} {ρ : Nat → Addr} {ds : List D} {xs : List V} (sl : Slots K ca ρ st.length H τ σ) (s : SRep K ca ρ H st) (rs : Reps K ca ρ st.length H ds xs) (hn : xs.length = n)
    (h : Post K ca W ρ st.length H (exAt τ (r ds st)) (KD K ca Q)) : spD K ca.f n r xs H Q (WE W σ) :=
  ⟨hn, ca.rv, ρ, st, ds, rs, s, h.atCall sl⟩
theorem pa_len {n : Nat} {K : PySem.W.Frag} (hn : es.length = n) {f : FA} : True := trivial
/-- how many values an argument list has -/
def lenA (n : Nat) (h : FA) : FA := fun τ st => (h τ st).bind fun ds st1 => if ds.length = n then .ok ds st1 else .bad
def fCallN (n : Nat) (r : Fn) (h : FA) : FE := fun τ st => (h τ st).bind fun ds st1 => if ds.length = n then exAt τ (r ds st1) else .bad
theorem je_call (cl : CalG X.prog X.w X.K X.mg X.base ca.f k x n r) (hr : RoomL j X.A) (hj : k ≤ j) (hgd : X.A.guards = some []) (tk : Takes X W) (hg : Gl X x) (ha : JA X ca W (e :: es) h)
    (hdb : (x == ("__debug__" : Str)) = false := by decide) (he : starEach (e :: es) X.env = (false, eval e X.env) :: starEach es X.env := by rfl)
    (hpl : (backTo pos (starEach es X.env)).any (·.1) = false := by rfl) : JE X ca W (.Call (.Name x p) (e :: es) [] pos) (fCallN n r h) := by
  obtain ⟨f, fd, ps, F, hm, hk, hb⟩ := cl.ex
  refine pe_imp (pe_callG F (hr.mono hj) hgd hg hm hk hb tk ha hdb he hpl) fun σ H Q ⟨ρ, st, τ, sl, s, h⟩ => ?_
  refine at_of sl s h fun ds ρ1 st1 H1 x1 sl1 s1 h1 xs rs => ?_
  by_cases z : ds.length = n
  · rw [if_pos z] at h1; exact call_spD sl1 s1 rs (by rw [rs.length]; exact z) h1
  · rw [if_neg z] at h1; exact h1.elim
theorem je_call0 (cl : CalG X.prog X.w X.K X.mg X.base ca.f k x 0 r) (hr : RoomL j X.A) (hj : k ≤ j) (hgd : X.A.guards = some []) (tk : Takes X W) (hg : Gl X x)
    (hdb : (x == ("__debug__" : Str)) = false := by decide) : JE X ca W (.Call (.Name x p) [] [] pos) (fCallN 0 r aNil) := by
  obtain ⟨f, fd, ps, F, hm, hk, hb⟩ := cl.ex
  refine pe_imp (pe_callG0 F (hr.mono hj) hgd hg hm hk hb tk hdb) fun σ H Q ⟨ρ, st, τ, sl, s, h⟩ => ?_
  exact call_spD sl s Reps.nil rfl h
def insOf (st : Sto) (c : Str) : D → Option (List (Str × D))
  | .obj i => match st[i]? with
    | some (.ins c' fs) => if c' = c then some fs else none
    | _ => none
  | _ => none
theorem insOf_rep {K : PySem.W.Frag} {ρ : Nat → Addr} {st : Sto} {H : Hp} {d : D} {fs : List (Str × D)} {v : V} (s : SRep K ca ρ H st) (q : insOf st c d = some fs) (rv : Rep K ca ρ st.length H d v) :
    ∃ a C dx ws, v = .ref a ∧ ca.f c = some C ∧ H a = some (.ins C dx ws) ∧ H dx = some (.own a) ∧ RepKV K ca ρ st.length H fs ws := by
  cases d with
  | obj i =>
    simp only [insOf] at q
    cases e : st[i]? with
    | none => simp [e] at q
    | some mo =>
      cases mo with
      | ins c' fs' =>
        simp only [e] at q
        split at q
        · rename_i z
          cases q
          subst z
          simp only [Rep] at rv
          obtain ⟨C, dx, ws, hc, ha, hd, rk⟩ := s.at_ i _ e
          exact ⟨_, C, dx, ws, rv.2, hc, ha, hd, rk⟩
        · cases q
      | _ => simp [e] at q
  | _ => simp [insOf] at q
theorem RepKV.lookup {K : PySem.W.Frag} {ρ : Nat → Addr} {n : Nat} {H : Hp} {y : Str} : ∀ {fs : List (Str × D)} {ws : List (Str × V)}, RepKV K ca ρ n H fs ws →
    (fs.lookup y = none ∧ ws.lookup y = none) ∨ ∃ d v, fs.lookup y = some d ∧ ws.lookup y = some v ∧ Rep K ca ρ n H d v
  | [], ws, r => by simp only [RepKV] at r; subst r; exact .inl ⟨rfl, rfl⟩
  | p :: fs, ws, r => by
    simp only [RepKV] at r
    obtain ⟨v, rs, rfl, r1, r2⟩ := r
    by_cases z : y = p.1
    · have zb : (y == p.1) = true := beq_iff_eq.mpr z
      exact .inr ⟨p.2, v, by rw [List.lookup_cons, zb], by rw [List.lookup_cons, zb], r1⟩
    · have zb : (y == p.1) = false := beq_eq_false_iff_ne.mpr z
      rcases RepKV.lookup (y := y) r2 with ⟨h1, h2⟩ | ⟨d, u, h1, h2, h3⟩
      · exact .inl ⟨by rw [List.lookup_cons, zb]; exact h1, by rw [List.lookup_cons, zb]; exact h2⟩
      · exact .inr ⟨d, u, by rw [List.lookup_cons, zb]; exact h1, by rw [List.lookup_cons, zb]; exact h2, h3⟩
def fMethN (c m : Str) (n : Nat) (r : Fn) (f : FE) (h : FA) : FE := fun τ st => (f τ st).bind fun d st1 => match insOf st1 c d with
  | some fs => if fs.lookup m = none then (h τ st1).bind fun ds st2 => if ds.length + 1 = n then exAt τ (r (d :: ds) st2) else .bad else .bad
  | none => .bad
theorem je_meth {pl : Sem Bool} (cl : MetG X.prog X.w X.K X.mg X.base ca.f k c m n r) (hr : RoomL j X.A) (hj : k ≤ j) (hgd : X.A.guards = some []) (tk : Takes X W) (ho : JE X ca W o f) (ha : JA X ca W (e :: es) h)
    (hst : starEach (e :: es) X.env = (false, eval e X.env) :: starEach es X.env := by rfl) (hpl : (backTo pos (starEach es X.env)).any (·.1) = false := by rfl)
    (ht : MethTree pl o m apos pos (e :: es) X.env := by rfl) : JE X ca W (.Call (.Attribute o m apos) (e :: es) [] pos) (fMethN c m n r f h) := by
  obtain ⟨C, g, fd, ps, hc, hC, hm, F, hb⟩ := cl.ex
  refine pe_imp (pe_methG (pl := pl) ho hC hm F (hr.mono hj) hgd hb tk ha hst hpl ht) fun σ H Q ⟨ρ, st, τ, sl, s, h⟩ => ?_
  refine at_of sl s h fun d ρ1 st1 H1 x1 sl1 s1 h1 v rv => ?_
  cases q : insOf st1 c d with
  | none => simp only [q] at h1; exact h1.elim
  | some fs =>
    simp only [q] at h1
    obtain ⟨a, C', dx, ws, rfl, hc', ha', _, rk⟩ := insOf_rep s1 q rv
    rw [hc] at hc'; cases hc'
    by_cases l : fs.lookup m = none
    · rw [if_pos l] at h1
      have l' : ws.lookup m = none := by
        rcases rk.lookup (y := m) with ⟨_, h2⟩ | ⟨d, u, h1, _⟩
        · exact h2
        · rw [l] at h1; cases h1
      refine ⟨a, dx, ws, rfl, ha', l', at_of sl1 s1 h1 fun ds ρ2 st2 H2 x2 sl2 s2 h2 xs rs => ?_⟩
      by_cases z : ds.length + 1 = n
      · rw [if_pos z] at h2
        exact call_spD sl2 s2 (Reps.cons (rv.ext x2) rs) (by rw [List.length_cons, rs.length]; exact z) h2
      · rw [if_neg z] at h2; exact h2.elim
    · rw [if_neg l] at h1; exact h1.elim
theorem je_meth0 {pl : Sem Bool} (cl : MetG X.prog X.w X.K X.mg X.base ca.f k c m n r) (hr : RoomL j X.A) (hj : k ≤ j) (hgd : X.A.guards = some []) (tk : Takes X W) (ho : JE X ca W o f)
    (ht : MethTree pl o m apos pos [] X.env := by rfl) : JE X ca W (.Call (.Attribute o m apos) [] [] pos) (fMethN c m n r f aNil) := by
  obtain ⟨C, g, fd, ps, hc, hC, hm, F, hb⟩ := cl.ex
  refine pe_imp (pe_methG0 (pl := pl) ho hC hm F (hr.mono hj) hgd hb tk ht) fun σ H Q ⟨ρ, st, τ, sl, s, h⟩ => ?_
  refine at_of sl s h fun d ρ1 st1 H1 x1 sl1 s1 h1 v rv => ?_
  cases q : insOf st1 c d with
  | none => simp only [q] at h1; exact h1.elim
  | some fs =>
    simp only [q] at h1
    obtain ⟨a, C', dx, ws, rfl, hc', ha', _, rk⟩ := insOf_rep s1 q rv
    rw [hc] at hc'; cases hc'
    by_cases l : fs.lookup m = none
    · rw [if_pos l] at h1
      have l' : ws.lookup m = none := by
        rcases rk.lookup (y := m) with ⟨_, h2⟩ | ⟨d, u, h1, _⟩
        · exact h2
        · rw [l] at h1; cases h1
      refine ⟨a, dx, ws, rfl, ha', l', ?_⟩
      replace h1 : Post X.K ca W ρ1 st1.length H1 (if ([] : List D).length + 1 = n then exAt τ (r [d] st1) else .bad) (KD X.K ca Q) := h1
      by_cases z : ([] : List D).length + 1 = n
      · rw [if_pos z] at h1
        exact call_spD sl1 s1 (Reps.cons rv Reps.nil) z h1
      · rw [if_neg z] at h1; exact h1.elim
    · rw [if_neg l] at h1; exact h1.elim
def fMakeN (c : Str) (n : Nat) (r : Fn) (h : FA) : FE := fun τ st => (h τ st).bind fun ds st1 => if ds.length + 1 = n then (exAt τ (r (.obj st1.length :: ds) (st1 ++ [.ins c []]))).bind fun d st2 => match d with
  | .non => .ok (.obj st1.length) st2
  | _ => .bad
  else .bad
theorem make_spD {K : PySem.W.Frag} {C : Addr} {σ : L2.St} {H : Hp} {Q : VK} {τ : Ti} {st : Sto} {ρ : Nat → Addr} {ds : List D} {xs : List V} (hc : ca.f c = some C) (sl : Slots K ca ρ st.length H τ σ) (s : SRep K ca ρ H st)
    (rs : Reps K ca ρ st.length H ds xs) (hn : xs.length + 1 = n)
    (h : Post K ca W ρ st.length H ((exAt τ (r (.obj st.length :: ds) (st ++ [.ins c []]))).bind fun d st2 => match d with | .non => .ok (.obj st.length) st2 | _ => .bad) (KD K ca Q)) :
    ∀ y dx, H y = none → H dx = none → dx ≠ y → spD K ca.f n r (.ref y :: xs) (upd (upd H dx (.own y)) y (.ins C dx [])) (fun v H2 => v = .non ∧ Q (.ref y) H2) (WE W σ) := by
  intro y dx hy hd hne
  have kp : ∀ a u, H a = some u → upd (upd H dx (.own y)) y (.ins C dx []) a = some u := fun a u e => by
    rw [upd_ne (ne_of_none e hy), upd_ne (ne_of_none e hd)]; exact e
  have x1 := Ext.more s hy kp
  have s1 : SRep K ca (more ρ st.length y) (upd (upd H dx (.own y)) y (.ins C dx [])) (st ++ [.ins c []]) :=
    s.more hy kp ⟨C, dx, [], hc, upd_same, by rw [upd_ne hne, upd_same], by simp only [RepKV]⟩
  have x1' : Ext ρ st.length H (more ρ st.length y) (st ++ [MO.ins c []]).length (upd (upd H dx (.own y)) y (.ins C dx [])) := by
    rw [List.length_append, List.length_singleton]; exact x1
  refine ⟨by rw [List.length_cons]; exact hn, ca.rv, more ρ st.length y, st ++ [.ins c []], .obj st.length :: ds, Reps.cons (rep_obj_new _) (rs.ext x1'), s1, ?_⟩
  have h2 : Post K ca W (more ρ st.length y) (st ++ [MO.ins c []]).length (upd (upd H dx (.own y)) y (.ins C dx [])) (exAt τ (r (.obj st.length :: ds) (st ++ [.ins c []]))) _ := Post.bind (Post.pre x1' h)
  refine (h2.atCall (sl.ext x1')).mono fun d ρ2 st2 H2 x2 s2 q v rv => ?_
  obtain ⟨x3, s3, q⟩ := q
  cases d with
  | non =>
    simp only [Rep] at rv
    refine ⟨rv, q.here s2 _ ?_⟩
    have r0 : Rep K ca (more ρ st.length y) (st ++ [MO.ins c []]).length (upd (upd H dx (.own y)) y (.ins C dx [])) (.obj st.length) (.ref y) := rep_obj_new _
    exact r0.ext x2
  | _ => exact q.elim
theorem je_make (cl : MakG X.prog X.w X.K X.mg X.base ca.f k c n r) (hr : RoomL j X.A) (hj : k + 1 ≤ j) (hgd : X.A.guards = some []) (tk : Takes X W) (hg : Gl X c) (ha : JA X ca W (e :: es) h)
    (hdb : (c == ("__debug__" : Str)) = false := by decide) (he : starEach (e :: es) X.env = (false, eval e X.env) :: starEach es X.env := by rfl)
    (hpl : (backTo pos (starEach es X.env)).any (·.1) = false := by rfl) : JE X ca W (.Call (.Name c p) (e :: es) [] pos) (fMakeN c n r h) := by
  obtain ⟨C, f, fd, ps, hc, hm, M, F, hb⟩ := cl.ex
  refine pe_imp (pe_makeG M F (hr.mono hj) hgd hg hm hb tk ha hdb he hpl) fun σ H Q ⟨ρ, st, τ, sl, s, h⟩ => ?_
  refine at_of sl s h fun ds ρ1 st1 H1 x1 sl1 s1 h1 xs rs => ?_
  by_cases z : ds.length + 1 = n
  · rw [if_pos z] at h1; exact make_spD hc sl1 s1 rs (by rw [rs.length]; exact z) h1
  · rw [if_neg z] at h1; exact h1.elim
theorem je_make0 (cl : MakG X.prog X.w X.K X.mg X.base ca.f k c 1 r) (hr : RoomL j X.A) (hj : k + 1 ≤ j) (hgd : X.A.guards = some []) (tk : Takes X W) (hg : Gl X c)
    (hdb : (c == ("__debug__" : Str)) = false := by decide) : JE X ca W (.Call (.Name c p) [] [] pos) (fMakeN c 1 r aNil) := by
  obtain ⟨C, f, fd, ps, hc, hm, M, F, hb⟩ := cl.ex
  refine pe_imp (pe_makeG0 M F (hr.mono hj) hgd hg hm hb tk hdb) fun σ H Q ⟨ρ, st, τ, sl, s, h⟩ => ?_
  exact make_spD hc sl s Reps.nil rfl h
end
/-! ### the body -/
/-- what stands around a body -/
structure Cz (X : Cx) (W : WX) (k : Nat) : Prop where
  tk : Takes X W
  hr : RoomL k X.A
  sl : X.A.depth + frm * k + 59 + frm < recursionLimit
  hg : X.A.guards = some []
  hc : X.calm = true
theorem Cz.blk {X : Cx} {W : WX} {k : Nat} (z : Cz X W k) {s : Shared} {H : Hp} {scope : Scope} {cenv : Env} {fp : List Addr} : Cz (X.blk s H scope cenv fp) W0 k := ⟨takes0, z.hr, z.sl, z.hg, z.hc⟩
theorem Cz.deep {X : Cx} {W : WX} {k : Nat} (z : Cz X W k) : Deep X := by
  have := z.hr.un
  show X.A.units + 65 < cLine
  omega
section
variable {P : Program} {w : World} {K : PySem.W.Frag} {mg : Str → Option Value} {base : Heap} {k n : Nat} {f : Addr} {fd : FuncData} {N ps : List Str}
theorem slots_start {K : PySem.W.Frag} {ca : CA} {ρ : Nat → Addr} {n : Nat} {H : Hp} {ds : List D} {xs : List V} (N : List Str) (r : Reps K ca ρ n H ds xs) : Slots K ca ρ n H (ds.map some ++ List.replicate (N.length - ds.length) none) (L2.start N xs) := by
  have hl := r.length
  refine ⟨by unfold L2.start; simp [hl], fun i d e => ?_⟩
  have hi : i < ds.length := by
    by_cases hi : i < ds.length
    · exact hi
    · rw [List.getElem?_append_right (by simpa using hi), List.getElem?_replicate] at e
      split at e <;> cases e
  rw [List.getElem?_append_left (by simpa using hi), List.getElem?_map] at e
  cases q : ds[i]? with
  | none => rw [q] at e; cases e
  | some d' =>
    rw [q] at e
    cases e
    obtain ⟨v, q', rv⟩ := r.get q
    refine ⟨v, ?_, rv⟩
    unfold L2.start
    rw [List.getElem?_append_left (by simpa [hl] using hi), List.getElem?_map, q']
    rfl
theorem fnG_of {x qual : Str} {params : Arguments} {body : List Stmt} {scope : Scope} {cf : CF} {u : FS} (F : FunD K x qual params body scope [] [] f fd) (S : FnScope N ps scope)
    (hbody : ∀ (cdv : Value), (∃ oc od osl c, K.lookup f = some ⟨oc, od, .func fd, osl⟩ ∧ fd.code = .ref c ∧ cdv = .ref c) → ∀ (A : Around) (outer : List Env) (s : Shared) (H : Hp) (E : XK) (rv : List Addr),
      Cz (cxOf (L2.CX P w) P w K mg base N qual scope f cdv A outer s H E) (fun c d _ H => E c d H) k → PassesOwn (model P w) (A.deeper (envOfC qual scope s.heap.objs.size f cdv)) (envOfC qual scope s.heap.objs.size f cdv) (cxOf (L2.CX P w) P w K mg base N qual scope f cdv A outer s H E).xe →
      JSs (cxOf (L2.CX P w) P w K mg base N qual scope f cdv A outer s H E) ⟨cf, rv⟩ (fun c d _ H => E c d H) body u) :
    FnG P w K mg base (k + 1) f fd ps (spD K cf ps.length (runB u N.length)) := by
  obtain ⟨oc, od, dV, kV, doc, pm, an, cdv, ct, osl, rfl, lk, hcd, _, _⟩ := F.ex
  have cdi : ∃ oc1 od1 osl1 c, K.lookup f = some ⟨oc1, od1, .func (PySem.W.fnOf x qual params body scope dV kV doc pm an cdv ct), osl1⟩ ∧ (PySem.W.fnOf x qual params body scope dV kV doc pm an cdv ct).code = .ref c ∧ cdv = .ref c := by
    cases cdv with
    | ref c => exact ⟨_, _, _, c, lk, rfl, rfl⟩
    | _ => cases hcd
  refine ⟨fun xs H Q E h => h.1, fun A outer s H args us xs Q E hr hg e0 hb r hsp => ?_⟩
  have KX : K.In s.heap := e0.mod.kin.keeps fun b o q => (e0.bs b o q).1
  have nl : s.heap.NoLimit := e0.mod.nolimit.keeps fun b o q => (e0.bs b o q).1
  have kd : ∀ y ∈ ps.zip us, scope.names.lookup y.1 = some .local ∨ (scope.names.lookup y.1 = some .cell ∧ ((cellsFrom (s.heap.objs.size + 1) scope.names []).lookup y.1).isSome = true) := fun y hy =>
    (S.par y.1 (List.of_mem_zip (a := y.1) (b := y.2) hy).1).elim .inl fun q => .inr ⟨q, PySem.W.cellsFrom_some _ _ _ (.inl q)⟩
  refine codeAny_call_function hr.depth (KX _ _ lk) rfl S.co S.gen rfl (PySem.W.codeRec_of KX hcd) (hb _ _ _ _ (wpAny_newFunctionEnv_cells S.kind kd fun env he s1 hx => ?_))
  subst he
  refine ⟨nl.keeps hx.toInCall.keep, codeAny_func ?_⟩
  obtain ⟨hl, rv, ρ, st, ds, rs, sr, hp⟩ := hsp
  have tk : Takes (cxOf (L2.CX P w) P w K mg base N qual scope f cdv A outer s H E) (fun c d _ H => E c d H) := takes_of rfl rfl rfl rfl
  have cz : Cz (cxOf (L2.CX P w) P w K mg base N qual scope f cdv A outer s H E) (fun c d _ H => E c d H) k := ⟨tk, hr.deeper _, (by have := hr.dp; rw [Nat.mul_succ] at this; show A.depth + 1 + frm * k + 59 + frm < _; omega), hg, rfl⟩
  have po : PassesOwn (model P w) (A.deeper (envOfC qual scope s.heap.objs.size f cdv)) (envOfC qual scope s.heap.objs.size f cdv) (cxOf (L2.CX P w) P w K mg base N qual scope f cdv A outer s H E).xe := passes_of (X := cxOf (L2.CX P w) P w K mg base N qual scope f cdv A outer s H E) rfl
  have I : Inv (cxOf (L2.CX P w) P w K mg base N qual scope f cdv A outer s H E) [] (L2.start N xs) H s1 := inv_start S hr.hd e0 hl r hx
  have done : ∀ {σ' : L2.St} {H' : Hp} {v : V} {z : Value} {s2 : Shared}, Inv (cxOf (L2.CX P w) P w K mg base N qual scope f cdv A outer s H E) [] σ' H' s2 → RelV v z → Q v H' → CE outer P w H s Q z s2 :=
    fun {σ' H' v z s2} J rv q => ⟨v, H', J.os, J.bare, J.base, J.hok, rv, q⟩
  have q0 : tDS K ⟨cf, rv⟩ (fun c d _ H => E c d H) u { nx := fun _ H' => Q .non H', rt := Q } (L2.start N xs) H := by
    refine at_of (slots_start N rs) sr (f := u) (σ := L2.start N xs) hp fun o ρ1 st1 H1 x1 sl1 s1 h1 => ?_
    cases o with
    | nx τ1 => exact fun σ1 _ => h1.here s1 _ (by simp only [Rep])
    | rt d => exact fun v r => h1.here s1 v r
    | bk τ1 => exact h1.elim
    | ct τ1 => exact h1.elim
  refine wpAny_mono ((hbody cdv cdi A outer s H E rv cz po).run [] s1 (L2.start N xs) H _ I q0) (fun fl s2 hs => ?_) fun _ _ hs => hs
  match fl, hs with
  | .ret z, ⟨v, σ', H', J, rv', q⟩ => exact done J rv' q
  | .next, ⟨σ', H', J, q⟩ => exact done (v := V.non) (z := Value.none) J rfl q
  | .brk, ⟨_, _, _, q⟩ => exact False.elim q
  | .cont, ⟨_, _, _, q⟩ => exact False.elim q
end
end DL
set_option Elab.async false
set_option linter.all false
set_option maxRecDepth 100000
set_option maxHeartbeats 4000000
namespace DL
open PySem PySem.Spec PyProof.Rows L2
section
variable {X : Cx} {ca : CA} {W : WX} {a b c e o : Expr} {es rest : List Expr} {f g k : FE} {h : FA} {pos p apos : Pos} {x : Str}
/-! ### built-ins by name -/
theorem CallR.imp {f : Value} {r r' : List V → Hp → VK → Prop} (h : CallR X f r) (i : ∀ xs H Q, r' xs H Q → r xs H Q) : CallR X f r' := fun pins s σ H xs us Q I rv q => h pins s σ H xs us Q I rv (i _ _ _ q)
theorem CallR.or {f : Value} {r r' : List V → Hp → VK → Prop} (h : CallR X f r) (h' : CallR X f r') : CallR X f (fun xs H Q => r xs H Q ∨ r' xs H Q) := fun pins s σ H xs us Q I rv q => q.elim (h pins s σ H xs us Q I rv) (h' pins s σ H xs us Q I rv)
def fB (r : Fn) (h : FA) : FE := fun τ st => (h τ st).bind fun ds st1 => r ds st1
theorem je_callB {id : String} {r : Fn} (hc : CallR X (.builtin id) (rDL ca X.K r)) (hn : ∀ ds st, NoEx (r ds st)) (hg : Gl X x) (hm : X.mg x = none) (hv : bootBuiltins x = some (.builtin id)) (ha : JA X ca W (e :: es) h)
    (hnm : x ≠ "__name__" := by decide) (hdb : (x == ("__debug__" : Str)) = false := by decide) (he : starEach (e :: es) X.env = (false, eval e X.env) :: starEach es X.env := by rfl)
    (hpl : (backTo pos (starEach es X.env)).any (·.1) = false := by rfl) : JE X ca W (.Call (.Name x p) (e :: es) [] pos) (fB r h) :=
  pe_imp (pe_callB hc hg hm hv ha hnm hdb he hpl) fun σ H Q ⟨ρ, st, τ, sl, s, h⟩ => at_of sl s h fun ds ρ1 st1 H1 x1 sl1 s1 h1 xs rs => ⟨ρ1, st1, ds, rs, s1, h1.nox (hn _ _)⟩
theorem je_callTy {T : String} {r : Fn} (hc : CallR X (.type T) (rDL ca X.K r)) (hn : ∀ ds st, NoEx (r ds st)) (hg : Gl X x) (hm : X.mg x = none) (hv : bootBuiltins x = some (.type T)) (ha : JA X ca W (e :: es) h)
    (hnm : x ≠ "__name__" := by decide) (hdb : (x == ("__debug__" : Str)) = false := by decide) (he : starEach (e :: es) X.env = (false, eval e X.env) :: starEach es X.env := by rfl)
    (hpl : (backTo pos (starEach es X.env)).any (·.1) = false := by rfl) : JE X ca W (.Call (.Name x p) (e :: es) [] pos) (fB r h) :=
  pe_imp (pe_callTy hc hg hm hv ha hnm hdb he hpl) fun σ H Q ⟨ρ, st, τ, sl, s, h⟩ => at_of sl s h fun ds ρ1 st1 H1 x1 sl1 s1 h1 xs rs => ⟨ρ1, st1, ds, rs, s1, h1.nox (hn _ _)⟩
section
variable {K : PySem.W.Frag} {ρ : Nat → Addr} {n : Nat} {H : Hp}
theorem Reps.one {d : D} {xs : List V} (r : Reps K ca ρ n H [d] xs) : ∃ v, xs = [v] ∧ Rep K ca ρ n H d v := by
  simp only [Reps] at r
  obtain ⟨v, t, rfl, rv, rfl⟩ := r
  exact ⟨v, rfl, rv⟩
theorem Reps.two {d e : D} {xs : List V} (r : Reps K ca ρ n H [d, e] xs) : ∃ v u, xs = [v, u] ∧ Rep K ca ρ n H d v ∧ Rep K ca ρ n H e u := by
  simp only [Reps] at r
  obtain ⟨v, t, rfl, rv, u, t', rfl, ru, rfl⟩ := r
  exact ⟨v, u, rfl, rv, ru⟩
end
/-! len -/
def lenD (st : Sto) (d : D) : Option Nat := match d with
  | .str y => if y.length ≤ sizeLine then some y.length else none
  | .obj i => match st[i]? with
    | some (.lst ds) => some ds.length
    | some (.dic kvs) => some kvs.length
    | _ => none
  | d => (seqOf st d).map (·.length)
def oLen : Fn := fun ds st => match ds with
  | [d] => match lenD st d with
    | some n => .ok (.int n) st
    | none => .bad
  | _ => .bad
theorem nox_okint {d : D} {st : Sto} : NoEx (.ok d st : R D) := fun _ _ _ _ z => nomatch z
theorem nox_bad {α : Type} : NoEx (.bad : R α) := fun _ _ _ _ z => nomatch z
theorem oLen_nox (ds : List D) (st : Sto) : NoEx (oLen ds st) := by
  intro c fs τ st' q
  unfold oLen at q
  split at q
  · split at q <;> cases q
  · cases q
theorem cr_len : CallR X (.builtin "len") (rDL ca X.K oLen) := CallR.imp (CallR.or call_len call_lenD) fun xs H Q ⟨ρ, st, ds, rs, s, q⟩ => by
  match ds, rs, q with
  | [d], rs, q =>
    obtain ⟨v, rfl, rv⟩ := rs.one
    simp only [oLen] at q
    cases hl : lenD st d with
    | none => simp only [hl] at q; exact q.elim
    | some m =>
      simp only [hl] at q
      have fin : Q (.int m) H := q.here s _ (by simp only [Rep])
      have seq : ∀ {ds : List D}, seqOf st d = some ds → m = ds.length → ((∃ x n, [v] = [x] ∧ LenV X.K x H n ∧ Q (.int n) H)) := fun {ds} e em => by
        obtain ⟨a, xs, rfl, hq, rr⟩ := seqOf_rep s e rv
        refine ⟨_, m, rfl, ?_, fin⟩
        rcases hq with hq | hq
        · exact .inl ⟨xs, hq, by rw [em, rr.length]⟩
        · exact .inr ⟨xs, hq, by rw [em, rr.length]⟩
      cases d with
      | str y =>
        simp only [lenD] at hl
        split at hl
        · rename_i z
          cases hl
          simp only [Rep] at rv
          subst rv
          exact .inl ⟨_, _, rfl, ⟨z, rfl⟩, fin⟩
        · cases hl
      | obj i =>
        simp only [lenD] at hl
        cases e : st[i]? with
        | none => simp [e] at hl
        | some mo =>
          cases mo with
          | lst es => simp only [e, Option.some.injEq] at hl; exact .inl (seq (by simp only [seqOf, listOf, e]) hl.symm)
          | dic kvs =>
            simp only [e, Option.some.injEq] at hl
            simp only [Rep] at rv
            obtain ⟨ws, ha, rr⟩ := s.at_ i _ e
            exact .inr ⟨_, ws, by rw [rv.2], ha, by rw [rr.length, hl]; exact fin⟩
          | _ => simp [e] at hl
      | _ =>
        simp only [lenD, Option.map_eq_some_iff] at hl
        obtain ⟨es, e, em⟩ := hl
        exact .inl (seq e em.symm)
  | [], _, q => exact q.elim
  | _ :: _ :: _, _, q => exact q.elim
/-! int -/
def oInt : Fn := fun ds st => match ds with
  | [.int i] => .ok (.int i) st
  | [.bl k] => .ok (.int (if k then 1 else 0)) st
  | _ => .bad
theorem oInt_nox (ds : List D) (st : Sto) : NoEx (oInt ds st) := by
  intro c fs τ st' q
  unfold oInt at q
  split at q <;> cases q
theorem cr_int : CallR X (.type "int") (rDL ca X.K oInt) := CallR.imp call_int1 fun xs H Q ⟨ρ, st, ds, rs, s, q⟩ => by
  unfold oInt at q
  split at q
  · obtain ⟨v, rfl, rv⟩ := rs.one
    simp only [Rep] at rv
    subst rv
    exact .inl ⟨_, rfl, q.here s _ (by simp only [Rep])⟩
  · obtain ⟨v, rfl, rv⟩ := rs.one
    simp only [Rep] at rv
    subst rv
    exact .inr ⟨_, rfl, q.here s _ (by simp only [Rep])⟩
  · exact q.elim
/-! str of an int -/
def oStr : Fn := fun ds st => match ds with
  | [.int i] => if i.natAbs.log2 < 1920 then .ok (.str (toString i)) st else .bad
  | _ => .bad
theorem oStr_nox (ds : List D) (st : Sto) : NoEx (oStr ds st) := by
  intro c fs τ st' q
  unfold oStr at q
  split at q
  · split at q <;> cases q
  · cases q
theorem cr_str : CallR X (.type "str") (rDL ca X.K oStr) := CallR.imp call_str_int fun xs H Q ⟨ρ, st, ds, rs, s, q⟩ => by
  unfold oStr at q
  split at q
  · obtain ⟨v, rfl, rv⟩ := rs.one
    simp only [Rep] at rv
    subst rv
    split at q
    · rename_i z
      exact ⟨_, rfl, z, q.here s _ (by simp only [Rep])⟩
    · exact q.elim
  · exact q.elim
/-! tuple, list of a list or a tuple -/
def oTup (d : D) (st : Sto) : R D := match d with
  | .tup ds => .ok (.tup ds) st
  | .ktup ds => .ok (.ktup ds) st
  | d => match listOf st d with
    | some ds => .ok (.tup ds) st
    | none => .bad
def fTupOf (f : FE) : FE := fun τ st => (f τ st).bind fun d st1 => oTup d st1
theorem je_tupleOf (hg : Gl X "tuple") (hm : X.mg "tuple" = none) (ha : JE X ca W a f) (na : starEach [a] X.env = (false, eval a X.env) :: starEach [] X.env := by rfl) : JE X ca W (.Call (.Name "tuple" p) [a] [] pos) (fTupOf f) :=
  pe_imp (pe_tupleOf hg hm ha na) fun σ H Q ⟨ρ, st, τ, sl, s, h⟩ => at_of sl s h fun d ρ1 st1 H1 x1 sl1 s1 h1 v rv => by
    have lst : ∀ {ds : List D}, listOf st1 d = some ds → Post X.K ca W ρ1 st1.length H1 (.ok (.tup ds) st1) (KD X.K ca Q) → kTup X.K v H1 Q := fun {ds} e q => by
      obtain ⟨a, xs, rfl, hq, rr⟩ := listOf_rep s1 e rv
      exact .inl ⟨a, xs, rfl, hq, fun l hl => q _ _ (Ext.upd_new s1 hl) (s1.upd_new hl) _ (rep_tup_new s1 hl rr)⟩
    cases d with
    | tup ds =>
      have rv' := rv
      simp only [Rep] at rv'
      obtain ⟨a, xs, rfl, q, _⟩ := rv'
      exact .inr ⟨a, xs, rfl, SqT.of q, h1.here s1 _ rv⟩
    | ktup ds =>
      have rv' := rv
      simp only [Rep] at rv'
      obtain ⟨a, xs, rfl, q, _⟩ := rv'
      exact .inr ⟨a, xs, rfl, q.seq, h1.here s1 _ rv⟩
    | lv ds => exact lst (ds := ds) rfl h1
    | kl ds => exact lst (ds := ds) rfl h1
    | obj i =>
      simp only [oTup] at h1
      cases e : listOf st1 (.obj i) with
      | none => simp only [e] at h1; exact h1.elim
      | some ds => simp only [e] at h1; exact lst e h1
    | _ => exact h1.elim
def oListV : Fn := fun ds st => match ds with
  | [d] => match seqOf st d with
    | some es => .ok (.lv es) st
    | none => .bad
  | _ => .bad
def oListO : Fn := fun ds st => match ds with
  | [d] => match seqOf st d with
    | some es => .ok (.obj st.length) (st ++ [.lst es])
    | none => .bad
  | _ => .bad
theorem oListV_nox (ds : List D) (st : Sto) : NoEx (oListV ds st) := by
  intro c fs τ st' q
  unfold oListV at q
  split at q
  · split at q <;> cases q
  · cases q
theorem oListO_nox (ds : List D) (st : Sto) : NoEx (oListO ds st) := by
  intro c fs τ st' q
  unfold oListO at q
  split at q
  · split at q <;> cases q
  · cases q
theorem cr_listV : CallR X (.type "list") (rDL ca X.K oListV) := CallR.imp call_list_of fun xs H Q ⟨ρ, st, ds, rs, s, q⟩ => by
  match ds, rs, q with
  | [d], rs, q =>
    obtain ⟨v, rfl, rv⟩ := rs.one
    simp only [oListV] at q
    cases e : seqOf st d with
    | none => simp only [e] at q; exact q.elim
    | some es =>
      simp only [e] at q
      obtain ⟨a, xs, rfl, hq, rr⟩ := seqOf_rep s e rv
      exact ⟨a, xs, rfl, hq, fun l hl => q _ _ (Ext.upd_new s hl) (s.upd_new hl) _ (rep_lv_new s hl rr)⟩
  | [], _, q => exact q.elim
  | _ :: _ :: _, _, q => exact q.elim
theorem cr_listO : CallR X (.type "list") (rDL ca X.K oListO) := CallR.imp call_list_of fun xs H Q ⟨ρ, st, ds, rs, s, q⟩ => by
  match ds, rs, q with
  | [d], rs, q =>
    obtain ⟨v, rfl, rv⟩ := rs.one
    simp only [oListO] at q
    cases e : seqOf st d with
    | none => simp only [e] at q; exact q.elim
    | some es =>
      simp only [e] at q
      obtain ⟨a, xs, rfl, hq, rr⟩ := seqOf_rep s e rv
      exact ⟨a, xs, rfl, hq, fun l hl => q _ _ (ext_more s hl _) (srep_lst_new s hl rr) _ (rep_obj_new _)⟩
  | [], _, q => exact q.elim
  | _ :: _ :: _, _, q => exact q.elim
/-! repr -/
def oRepr : Fn := fun ds st => match ds with
  | [d] => match toPyS st d with
    | some p => if p.showable = true ∧ p.hasDict = false ∧ p.depth ≤ 63 ∧ p.shown.length ≤ sizeLine ∧ (seqOf st d).isSome = true then .ok (.str p.shown) st else .bad
    | none => .bad
  | _ => .bad
theorem oRepr_nox (ds : List D) (st : Sto) : NoEx (oRepr ds st) := by
  intro c fs τ st' q
  unfold oRepr at q
  split at q
  · split at q
    · split at q <;> cases q
    · cases q
  · cases q
theorem cr_repr (hg : X.A.guards = some []) (hu : X.A.units + 65 < cLine) : CallR X (.builtin "repr") (rDL ca X.K oRepr) := by
  intro pins s σ H xs us Q I r ⟨ρ, st, ds, rs, sr, q⟩
  match ds, rs, q with
  | [d], rs, q =>
    obtain ⟨v, rfl, rv⟩ := rs.one
    obtain ⟨u, rfl, ru⟩ := r.one
    simp only [oRepr] at q
    cases e : toPyS st d with
    | none => simp only [e] at q; exact q.elim
    | some pd =>
      simp only [e] at q
      split at q
      · rename_i z
        obtain ⟨z1, z2, z3, z4, z5⟩ := z
        obtain ⟨es, ez⟩ := Option.isSome_iff_exists.mp z5
        obtain ⟨a, ys, rfl, _, _⟩ := seqOf_rep sr ez rv
        obtain ⟨as, rd⟩ := Dp.reads I pd _ u (dpS_of sr e rv) ru
        cases (show u = Value.ref a from ru)
        refine repr_of_reads' rd z1 (PyData.noDict_hsm z2) hg (by omega) (fun _ _ e => e) (fun h' u tk hk => ?_) z4
        exact ⟨.str pd.shown, H, I.kept hk, ⟨u, rfl⟩, q.here sr _ (by simp only [Rep])⟩
      · exact q.elim
  | [], _, q => exact q.elim
  | _ :: _ :: _, _, q => exact q.elim
/-! isinstance by a built-in type -/
def tyD (st : Sto) : D → Option String
  | .non => some "NoneType"
  | .bl _ => some "bool"
  | .int _ => some "int"
  | .str _ => some "str"
  | .tup _ => some "tuple"
  | .ktup _ => some "tuple"
  | .lv _ => some "list"
  | .kl _ => some "list"
  | .dv _ _ => some "dict"
  | .obj i => match st[i]? with
    | some (.lst _) => some "list"
    | some (.dic _) => some "dict"
    | some (.dit _) => some "dict"
    | some (.lck _) => some "dict"
    | _ => none
  | _ => none
def isiB (T a : String) : Bool := a == T || (a == "bool" && T == "int")
def oIsi (T : String) (d : D) (st : Sto) : R D := match tyD st d with
  | some a => .ok (.bl (isiB T a)) st
  | none => .bad
end
section
variable {X : Cx} {ca : CA} {W : WX} {a b c e o : Expr} {es rest : List Expr} {f g k : FE} {h : FA} {pos p apos : Pos} {x : Str}
theorem kit_isi {K : PySem.W.Frag} : ∀ {T a : String}, T ∈ ["tuple", "list", "int", "str", "bool", "dict"] → a ∈ ["NoneType", "bool", "int", "str", "tuple", "list", "dict"] → PySem.W.kitOne K (.type a) (.type T) = some (isiB T a) := by
  intro T a hT ha
  simp only [List.mem_cons, List.mem_nil_iff, or_false] at hT ha
  rcases hT with rfl | rfl | rfl | rfl | rfl | rfl <;> rcases ha with rfl | rfl | rfl | rfl | rfl | rfl | rfl <;> kernel_rfl
end
end DL
set_option Elab.async false
set_option linter.all false
set_option maxRecDepth 100000
set_option maxHeartbeats 4000000
namespace DL
open PySem PySem.Spec PyProof.Rows L2
section
variable {X : Cx} {ca : CA} {W : WX} {a b c e o : Expr} {es rest : List Expr} {f g k : FE} {h : FA} {pos p apos : Pos} {x : Str} {s₁ : Stmt} {ss : List Stmt} {u v w : FS}
/-! ### isinstance(e, T) -/
theorem isiTy_of {K : PySem.W.Frag} {ρ : Nat → Addr} {st : Sto} {H : Hp} {d : D} {v : V} {T : String} (s : SRep K ca ρ H st) (e : tyD st d = some T) (r : Rep K ca ρ st.length H d v) : TyX K H v (.type T) ∧ T ∈ ["NoneType", "bool", "int", "str", "tuple", "list", "dict"] := by
  cases d with
  | non => simp only [tyD, Option.some.injEq] at e; subst e; simp only [Rep] at r; subst r; exact ⟨.base .non, by decide⟩
  | bl k => simp only [tyD, Option.some.injEq] at e; subst e; simp only [Rep] at r; subst r; exact ⟨.base (.bl k), by decide⟩
  | int k => simp only [tyD, Option.some.injEq] at e; subst e; simp only [Rep] at r; subst r; exact ⟨.base (.int k), by decide⟩
  | str k => simp only [tyD, Option.some.injEq] at e; subst e; simp only [Rep] at r; subst r; exact ⟨.base (.str k), by decide⟩
  | tup ds =>
    simp only [tyD, Option.some.injEq] at e; subst e
    simp only [Rep] at r
    obtain ⟨a, xs, rfl, q, _⟩ := r
    exact ⟨.base (.tup q), by decide⟩
  | ktup ds =>
    simp only [tyD, Option.some.injEq] at e; subst e
    simp only [Rep] at r
    obtain ⟨a, xs, rfl, ⟨ob, its, m, q, hc, _⟩, _⟩ := r
    exact ⟨.kTuple q hc, by decide⟩
  | lv ds =>
    simp only [tyD, Option.some.injEq] at e; subst e
    simp only [Rep] at r
    obtain ⟨a, xs, rfl, q, _⟩ := r
    exact ⟨.base (.lst q.1), by decide⟩
  | kl ds =>
    simp only [tyD, Option.some.injEq] at e; subst e
    simp only [Rep] at r
    obtain ⟨a, xs, rfl, q, _⟩ := r
    rcases q with ⟨ob, q⟩ | ⟨ob, its, m, q, hc, _⟩
    · exact ⟨.base (.frz q), by decide⟩
    · exact ⟨.kList q hc, by decide⟩
  | dv ks vs =>
    simp only [tyD, Option.some.injEq] at e; subst e
    simp only [Rep] at r
    obtain ⟨a, kvs, rfl, q, _⟩ := r
    rcases q.1 with q | ⟨ob, q⟩
    · exact ⟨.base (.dK q), by decide⟩
    · exact ⟨.fDict q, by decide⟩
  | obj i =>
    simp only [tyD] at e
    simp only [Rep] at r
    cases q : st[i]? with
    | none => simp [q] at e
    | some m =>
      cases m with
      | lst es =>
        simp only [q, Option.some.injEq] at e; subst e
        obtain ⟨xs, ha, _⟩ := s.at_ i _ q
        rw [r.2]
        exact ⟨.base (.lst ha), by decide⟩
      | dic es =>
        simp only [q, Option.some.injEq] at e; subst e
        obtain ⟨xs, ha, _⟩ := s.at_ i _ q
        rw [r.2]
        exact ⟨.base (.dK ha), by decide⟩
      | dit es =>
        simp only [q, Option.some.injEq] at e; subst e
        obtain ⟨xs, ha, _⟩ := s.at_ i _ q
        rw [r.2]
        exact ⟨.base (.dT ha), by decide⟩
      | lck es =>
        simp only [q, Option.some.injEq] at e; subst e
        obtain ⟨o, xs, ha, _⟩ := s.at_ i _ q
        rw [r.2]
        exact ⟨.fDict ha, by decide⟩
      | ins c fs => simp [q] at e
  | ty n => simp [tyD] at e
  | glb n => simp [tyD] at e
def oIsi2 : Fn := fun ds st => match ds with
  | [d, .ty T] => if T ∈ ["tuple", "list", "int", "str", "bool", "dict"] then oIsi T d st else .bad
  | _ => .bad
theorem oIsi2_nox (ds : List D) (st : Sto) : NoEx (oIsi2 ds st) := by
  intro c fs τ st' q
  unfold oIsi2 at q
  split at q
  · split at q
    · unfold oIsi at q
      split at q <;> cases q
    · cases q
  · cases q
theorem cr_isi : CallR X (.builtin "isinstance") (rDL ca X.K oIsi2) := CallR.imp call_isi fun xs H Q ⟨ρ, st, ds, rs, s, q⟩ => by
  unfold oIsi2 at q
  split at q
  · rename_i d T
    obtain ⟨v, u, rfl, rv, ru⟩ := rs.two
    split at q
    · rename_i hT
      unfold oIsi at q
      cases e : tyD st d with
      | none => simp only [e] at q; exact q.elim
      | some a =>
        simp only [e] at q
        obtain ⟨ty, ha⟩ := isiTy_of s e rv
        simp only [Rep] at ru
        subst ru
        exact ⟨v, .ty T, _, .type T, isiB T a, rfl, .ty T, ty, kit_isi hT ha, q.here s _ (by simp only [Rep])⟩
    · exact q.elim
  · exact q.elim
/-- a built-in type's name -/
theorem je_ty {T : String} (hg : Gl X x) (hm : X.mg x = none) (hv : bootBuiltins x = some (.type T)) (hn : x ≠ "__name__" := by decide) (hdb : (x == ("__debug__" : Str)) = false := by decide) : JE X ca W (.Name x pos) (fC (.ty T)) :=
  je_const (pe_bltn (v := .ty T) hg hm hv rfl hn hdb) fun _ _ _ => by simp only [Rep]
/-! ### methods of lists -/
def oAppend (d : D) (ds : List D) (st : Sto) : R D := match d, ds with
  | .obj i, [y] => match st[i]? with
    | some (.lst xs) => if xs.length < sizeLine then .ok .non (st.set i (.lst (xs ++ [y]))) else .bad
    | _ => .bad
  | _, _ => .bad
def oExtend (d : D) (ds : List D) (st : Sto) : R D := match d, ds with
  | .obj i, [y] => match st[i]?, mlOf st y with
    | some (.lst xs), some zs => if xs.length + zs.length ≤ sizeLine then .ok .non (st.set i (.lst (xs ++ zs))) else .bad
    | _, _ => .bad
  | _, _ => .bad
def oPop (d : D) (ds : List D) (st : Sto) : R D := match d, ds with
  | .obj i, [] => match st[i]? with
    | some (.lst xs) => match xs[xs.length - 1]? with
      | some y => .ok y (st.set i (.lst xs.dropLast))
      | none => .bad
    | _ => .bad
  | _, _ => .bad
def fMt (r : D → List D → Sto → R D) (f : FE) (h : FA) : FE := fun τ st => (f τ st).bind fun d st1 => match mlOf st1 d with
  | some _ => (h τ st1).bind fun ds st2 => r d ds st2
  | none => .bad
theorem tyV_list {K : PySem.W.Frag} {ρ : Nat → Addr} {st : Sto} {H : Hp} {d : D} {ds : List D} {v : V} (s : SRep K ca ρ H st) (e : mlOf st d = some ds) (r : Rep K ca ρ st.length H d v) : tyV K "list" v H := by
  obtain ⟨a, xs, rfl, q, _⟩ := mlOf_rep s e r
  exact .inl ⟨rfl, xs, SqL.of q⟩
theorem je_mt {name : Str} {id : String} {rr : V → List V → Hp → VK → Prop} {r : D → List D → Sto → R D} (slot : Slot "list" name id) (hty : typeOf (.builtin id) = pure (.type "method_descriptor")) (hm : MtR X id rr)
    (hi : ∀ x xs H Q, rDM ca X.K r x xs H Q → rr x xs H Q) (hn : ∀ d ds st, NoEx (r d ds st)) (ho : JE X ca W o f) (ha : JA X ca W (e :: es) h)
    (hbase : attributeBase o name X.env (eval o X.env) = eval o X.env := by rfl)
    (hfew : ((backTo pos (starEach (e :: es) X.env)).all (fun x => !x.1) && (backToKw pos (keywordEach [] X.env)).all (fun x => x.1.isSome)
      && decide ((e :: es).length + ([] : List Keyword).length + (if ([] : List Keyword).isEmpty then 0 else 1) < 30)) = true := by rfl)
    (hline : (apos.endLine == pos.line) = true := by rfl) (hs : starEach (e :: es) X.env = (false, eval e X.env) :: starEach es X.env := by rfl) (hplain : (backTo pos (starEach es X.env)).any (·.1) = false := by rfl) :
    JE X ca W (.Call (.Attribute o name apos) (e :: es) [] pos) (fMt r f h) :=
  pe_imp (pe_bm PySem.F.plainAttrs_list slot hty hm ho ha hbase hfew hline hs hplain) fun σ H Q ⟨ρ, st, τ, sl, s, h⟩ => at_of sl s h fun d ρ1 st1 H1 x1 sl1 s1 h1 v rv => by
    cases e : mlOf st1 d with
    | none => simp only [e] at h1; exact h1.elim
    | some ds =>
      simp only [e] at h1
      exact ⟨tyV_list s1 e rv, at_of sl1 s1 h1 fun ds ρ2 st2 H2 x2 sl2 s2 h2 xs rs => hi _ _ _ _ ⟨ρ2, st2, d, ds, rv.ext x2, rs, s2, h2.nox (hn _ _ _)⟩⟩
theorem je_mt0 {name : Str} {id : String} {rr : V → List V → Hp → VK → Prop} {r : D → List D → Sto → R D} (slot : Slot "list" name id) (hty : typeOf (.builtin id) = pure (.type "method_descriptor")) (hm : MtR X id rr)
    (hi : ∀ x xs H Q, rDM ca X.K r x xs H Q → rr x xs H Q) (hn : ∀ d ds st, NoEx (r d ds st)) (ho : JE X ca W o f)
    (hbase : attributeBase o name X.env (eval o X.env) = eval o X.env := by rfl) (hline : (apos.endLine == pos.line) = true := by rfl) :
    JE X ca W (.Call (.Attribute o name apos) [] [] pos) (fMt r f aNil) :=
  pe_imp (pe_bm0 PySem.F.plainAttrs_list slot hty hm ho hbase hline) fun σ H Q ⟨ρ, st, τ, sl, s, h⟩ => at_of sl s h fun d ρ1 st1 H1 x1 sl1 s1 h1 v rv => by
    cases e : mlOf st1 d with
    | none => simp only [e] at h1; exact h1.elim
    | some ds =>
      simp only [e] at h1
      exact ⟨tyV_list s1 e rv, hi _ _ _ _ ⟨ρ1, st1, d, [], rv, Reps.nil, s1, Post.nox (hn _ _ _) (W := W) h1⟩⟩
section
variable {K : PySem.W.Frag} {ρ : Nat → Addr} {st : Sto} {H : Hp} {i : Nat}
theorem lst_at (s : SRep K ca ρ H st) {xs : List D} (e : st[i]? = some (.lst xs)) : ∃ ys, H (ρ i) = some (.lst ys) ∧ Reps K ca ρ st.length H xs ys := s.at_ i _ e
theorem lst_put (s : SRep K ca ρ H st) {xs ys : List D} {vs : List V} (e : st[i]? = some (.lst xs)) (r : Reps K ca ρ st.length H ys vs) : SRep K ca ρ (upd H (ρ i) (.lst vs)) (st.set i (.lst ys)) ∧ Ext ρ st.length H ρ (st.set i (.lst ys)).length (upd H (ρ i) (.lst vs)) :=
  ⟨s.write e rfl ⟨vs, upd_same, r.ext (Ext.write s e rfl)⟩, by rw [List.length_set]; exact Ext.write s e rfl⟩
end
theorem oAppend_nox (d : D) (ds : List D) (st : Sto) : NoEx (oAppend d ds st) := by
  intro c fs τ st' q
  unfold oAppend at q
  split at q
  · split at q
    · split at q <;> cases q
    · cases q
  · cases q
theorem oExtend_nox (d : D) (ds : List D) (st : Sto) : NoEx (oExtend d ds st) := by
  intro c fs τ st' q
  unfold oExtend at q
  split at q
  · split at q
    · split at q <;> cases q
    · cases q
  · cases q
theorem oPop_nox (d : D) (ds : List D) (st : Sto) : NoEx (oPop d ds st) := by
  intro c fs τ st' q
  unfold oPop at q
  split at q
  · split at q
    · split at q <;> cases q
    · cases q
  · cases q
theorem hi_append {K : PySem.W.Frag} (x : V) (xs : List V) (H : Hp) (Q : VK) : rDM ca K oAppend x xs H Q → rAppend x xs H Q := fun ⟨ρ, st, d, ds, rd, rs, s, q⟩ => by
  unfold oAppend at q
  split at q
  · rename_i i y
    split at q
    · rename_i es e
      obtain ⟨v, rfl, rv⟩ := rs.one
      simp only [Rep] at rd
      obtain ⟨ys, ha, rr⟩ := lst_at s e
      split at q
      · rename_i z
        have rn := rr.append (Reps.cons rv Reps.nil)
        obtain ⟨s2, x2⟩ := lst_put s e rn
        exact ⟨ρ i, ys, v, rd.2, rfl, ha, by rw [rr.length]; exact z, q _ ρ x2 s2 _ (by simp only [Rep])⟩
      · exact q.elim
    · exact q.elim
  · exact q.elim
theorem hi_extend {K : PySem.W.Frag} (x : V) (xs : List V) (H : Hp) (Q : VK) : rDM ca K oExtend x xs H Q → rExtend x xs H Q := fun ⟨ρ, st, d, ds, rd, rs, s, q⟩ => by
  unfold oExtend at q
  split at q
  · rename_i i y
    split at q
    · rename_i es zs e e2
      obtain ⟨v, rfl, rv⟩ := rs.one
      simp only [Rep] at rd
      obtain ⟨ys, ha, rr⟩ := lst_at s e
      obtain ⟨b, ws, rfl, hb, rw'⟩ := mlOf_rep s e2 rv
      split at q
      · rename_i z
        have rn := rr.append rw'
        obtain ⟨s2, x2⟩ := lst_put s e rn
        exact ⟨ρ i, b, ys, ws, rd.2, rfl, ha, hb, by rw [rr.length, rw'.length]; exact z, q _ ρ x2 s2 _ (by simp only [Rep])⟩
      · exact q.elim
    · exact q.elim
  · exact q.elim
theorem Reps.dropLast {K : PySem.W.Frag} {ρ : Nat → Addr} {n : Nat} {H : Hp} : ∀ {ds : List D} {vs : List V}, Reps K ca ρ n H ds vs → Reps K ca ρ n H ds.dropLast vs.dropLast
  | [], vs, h => by simp only [Reps] at h; subst h; exact Reps.nil
  | [d], vs, h => by obtain ⟨v, rfl, _⟩ := h.one; exact Reps.nil
  | d :: e :: ds, vs, h => by
    simp only [Reps] at h
    obtain ⟨v, t, rfl, rv, u, t', rfl, ru, rt⟩ := h
    have := Reps.dropLast (Reps.cons ru rt)
    exact Reps.cons rv this
theorem hi_pop {K : PySem.W.Frag} (x : V) (xs : List V) (H : Hp) (Q : VK) : rDM ca K oPop x xs H Q → rPop x xs H Q := fun ⟨ρ, st, d, ds, rd, rs, s, q⟩ => by
  unfold oPop at q
  split at q
  · rename_i i
    split at q
    · rename_i es e
      simp only [Reps] at rs
      subst rs
      simp only [Rep] at rd
      obtain ⟨ys, ha, rr⟩ := lst_at s e
      split at q
      · rename_i y e2
        obtain ⟨v, e3, rv⟩ := rr.get e2
        obtain ⟨s2, x2⟩ := lst_put s e rr.dropLast
        exact ⟨ρ i, ys, v, rd.2, rfl, ha, by rw [rr.length]; exact e3, q _ ρ x2 s2 _ (rv.ext x2)⟩
      · exact q.elim
    · exact q.elim
  · exact q.elim
theorem je_append (ho : JE X ca W o f) (ha : JE X ca W e g) (hbase : attributeBase o "append" X.env (eval o X.env) = eval o X.env := by rfl)
    (hfew : ((backTo pos (starEach [e] X.env)).all (fun x => !x.1) && (backToKw pos (keywordEach [] X.env)).all (fun x => x.1.isSome) && decide ([e].length + ([] : List Keyword).length + (if ([] : List Keyword).isEmpty then 0 else 1) < 30)) = true := by rfl)
    (hline : (apos.endLine == pos.line) = true := by rfl) (hs : starEach [e] X.env = (false, eval e X.env) :: starEach [] X.env := by rfl) : JE X ca W (.Call (.Attribute o "append" apos) [e] [] pos) (fMt oAppend f (aCons g aNil)) :=
  je_mt PySem.F.slot_list_append PySem.F.type_list_append mt_append hi_append oAppend_nox ho (ja_cons ha ja_nil hs) hbase hfew hline hs
theorem je_extend (ho : JE X ca W o f) (ha : JE X ca W e g) (hbase : attributeBase o "extend" X.env (eval o X.env) = eval o X.env := by rfl)
    (hfew : ((backTo pos (starEach [e] X.env)).all (fun x => !x.1) && (backToKw pos (keywordEach [] X.env)).all (fun x => x.1.isSome) && decide ([e].length + ([] : List Keyword).length + (if ([] : List Keyword).isEmpty then 0 else 1) < 30)) = true := by rfl)
    (hline : (apos.endLine == pos.line) = true := by rfl) (hs : starEach [e] X.env = (false, eval e X.env) :: starEach [] X.env := by rfl) : JE X ca W (.Call (.Attribute o "extend" apos) [e] [] pos) (fMt oExtend f (aCons g aNil)) :=
  je_mt PySem.F.slot_list_extend PySem.F.type_list_extend mt_extend hi_extend oExtend_nox ho (ja_cons ha ja_nil hs) hbase hfew hline hs
theorem je_pop (ho : JE X ca W o f) (hbase : attributeBase o "pop" X.env (eval o X.env) = eval o X.env := by rfl)
    (hline : (apos.endLine == pos.line) = true := by rfl) : JE X ca W (.Call (.Attribute o "pop" apos) [] [] pos) (fMt oPop f aNil) :=
  je_mt0 PySem.F.slot_list_pop PySem.F.type_list_pop mt_pop hi_pop oPop_nox ho hbase hline
/-! ### o[i] = v -/
def putItem (o i d : D) (st : Sto) : R Unit := match o with
  | .obj k => match st[k]? with
    | some (.lst xs) => match i with
      | .int j => match ixN xs.length j with
        | some m => .ok () (st.set k (.lst (xs.set m d)))
        | none => .bad
      | _ => .bad
    | some (.dic kvs) => match keyOf i with
      | some y => if kvs.length < sizeLine then .ok () (st.set k (.dic (putD kvs y d))) else .bad
      | none => .bad
    | some (.dit kvs) => match tkeyOf i with
      | some y => if kvs.length < sizeLine then .ok () (st.set k (.dit (putD kvs y d))) else .bad
      | none => .bad
    | _ => .bad
  | _ => .bad
theorem PSet.or {t t' : TSet} (h : PSet X t) (h' : PSet X t') : PSet X (fun o i v H Q => t o i v H Q ∨ t' o i v H Q) := fun pins s σ H o i v ov iv u Q I ro ri rv q => q.elim (h pins s σ H o i v ov iv u Q I ro ri rv) (h' pins s σ H o i v ov iv u Q I ro ri rv)
theorem putItem_ok {K : PySem.W.Frag} {ρ : Nat → Addr} {st : Sto} {H : Hp} {o i d : D} {ov iv v : V} {F : Unit → (Nat → Addr) → Sto → Hp → Prop} {Q : Hp → Prop} (s : SRep K ca ρ H st) (ro : Rep K ca ρ st.length H o ov) (ri : Rep K ca ρ st.length H i iv) (rv : Rep K ca ρ st.length H d v)
    (h : Post K ca W ρ st.length H (putItem o i d st) F) (hq : ∀ ρ1 st1 H1, Ext ρ st.length H ρ1 st1.length H1 → SRep K ca ρ1 H1 st1 → F () ρ1 st1 H1 → Q H1) : rSetL ov iv v H Q ∨ rSetD ov iv v H Q := by
  unfold putItem at h
  split at h
  · rename_i k
    simp only [Rep] at ro
    split at h
    · rename_i xs e
      obtain ⟨ys, ha, rr⟩ := lst_at s e
      split at h
      · rename_i j
        split at h
        · rename_i m hm
          simp only [Rep] at ri
          obtain ⟨s2, x2⟩ := lst_put s e (rr.set rv m)
          exact .inl ⟨ρ k, ys, j, m, ro.2, ri, ha, by rw [rr.length]; exact hm, hq _ _ _ x2 s2 (h _ ρ x2 s2)⟩
        · exact h.elim
      · exact h.elim
    · rename_i kvs e
      obtain ⟨ws, ha, rr⟩ := s.at_ k _ e
      split at h
      · rename_i y ey
        split at h
        · rename_i z
          have x2 : Ext ρ st.length H ρ (st.set k (.dic (putD kvs y d))).length (upd H (ρ k) (.dK (putK ws y v))) := by rw [List.length_set]; exact Ext.write s e rfl
          have s2 : SRep K ca ρ (upd H (ρ k) (.dK (putK ws y v))) (st.set k (.dic (putD kvs y d))) := s.write e rfl ⟨_, upd_same, (rr.put rv).ext (Ext.write s e rfl)⟩
          exact .inr ⟨ρ k, _, ro.2, .inl ⟨ws, y, ha, keyOf_rep ey ri, by rw [rr.length]; exact z, rfl⟩, hq _ _ _ x2 s2 (h _ ρ x2 s2)⟩
        · exact h.elim
      · exact h.elim
    · rename_i kvs e
      obtain ⟨ws, ha, rr⟩ := s.at_ k _ e
      split at h
      · rename_i y ey
        split at h
        · rename_i z
          have x2 : Ext ρ st.length H ρ (st.set k (.dit (putD kvs y d))).length (upd H (ρ k) (.dT (putK ws y v))) := by rw [List.length_set]; exact Ext.write s e rfl
          have s2 : SRep K ca ρ (upd H (ρ k) (.dT (putK ws y v))) (st.set k (.dit (putD kvs y d))) := s.write e rfl ⟨_, upd_same, (rr.put rv).ext (Ext.write s e rfl)⟩
          obtain ⟨b, rfl, hb⟩ := tkeyOf_rep ey ri
          exact .inr ⟨ρ k, _, ro.2, .inr ⟨ws, y, b, ha, rfl, hb, by rw [rr.length]; exact z, rfl⟩, hq _ _ _ x2 s2 (h _ ρ x2 s2)⟩
        · exact h.elim
      · exact h.elim
    · exact h.elim
  · exact h.elim
def gSubD (f g : FE) : FG := fun d τ st => (f τ st).bind fun o st1 => (g τ st1).bind fun i st2 => (putItem o i d st2).bind fun _ st3 => .ok τ st3
theorem jg_sub (hu : X.A.units + 1 < cLine) (ho : JE X ca W o f) (hi : JE X ca W e g) (ha : ∀ v, assign (.Subscript o e pos) X.env v = (do
      let ov ← holding [v] (eval o X.env)
      let iv ← holding [v, ov] (eval e X.env)
      standAt pos
      holding [v, ov, iv] (setItem ov iv v)
      release [v, ov, iv] []) := by intro _; rfl) : JG X ca W (.Subscript o e pos) (gSubD f g) :=
  pg_imp (pg_sub ho hi (PSet.or set_list (set_dict hu)) ha) fun v σ H Q ⟨ρ, st, τ, d, sl, s, r, h⟩ =>
    at_of sl s h fun od ρ1 st1 H1 x1 sl1 s1 h1 ov ro => at_of sl1 s1 h1 fun id ρ2 st2 H2 x2 sl2 s2 h2 iv ri =>
      putItem_ok s2 (ro.ext x2) ri ((r.ext x1).ext x2) (Post.bind h2) fun ρ3 st3 H3 x3 s3 ⟨_, _, q⟩ => q.here s3 σ (sl2.ext x3)
/-! ### attributes -/
def fFld (c y : Str) (f : FE) : FE := fun τ st => (f τ st).bind fun d st1 => match insOf st1 c d with
  | some fs => match fs.lookup y with
    | some v => .ok v st1
    | none => .bad
  | none => .bad
/-- what is known of a class and a name of its instances -/
structure AttrOk (K : PySem.W.Frag) (cf : CF) (c y : Str) : Prop where
  ex : ∃ C, cf c = some C ∧ Cls K C ∧ NoAttr K C y
theorem je_fld {c y : Str} (A : AttrOk X.K ca.f c y) (ho : JE X ca W o f) (hb : attributeBase o y X.env (eval o X.env) = eval o X.env := by rfl) : JE X ca W (.Attribute o y pos) (fFld c y f) :=
  pe_imp (pe_fld ho hb) fun σ H Q ⟨ρ, st, τ, sl, s, h⟩ => at_of sl s h fun d ρ1 st1 H1 x1 sl1 s1 h1 v rv => by
    cases q : insOf st1 c d with
    | none => simp only [q] at h1; exact h1.elim
    | some fs =>
      simp only [q] at h1
      obtain ⟨C, hC, cC, nC⟩ := A.ex
      obtain ⟨a, C', dx, ws, rfl, hC', ha, _, rr⟩ := insOf_rep s1 q rv
      rw [hC] at hC'; cases hC'
      rcases rr.lookup (y := y) with ⟨e1, _⟩ | ⟨d', v', e1, e2, r'⟩
      · simp only [e1] at h1; exact h1.elim
      · simp only [e1] at h1
        exact ⟨a, C, dx, ws, v', rfl, ha, cC, nC, e2, h1.here s1 v' r'⟩
def putFD (y : Str) (d : D) : List (Str × D) → List (Str × D)
  | [] => [(y, d)]
  | (z, x) :: r => if z = y then (z, d) :: r else (z, x) :: putFD y d r
theorem RepKV.putF {K : PySem.W.Frag} {ρ : Nat → Addr} {n : Nat} {H : Hp} {y : Str} {d : D} {v : V} (rv : Rep K ca ρ n H d v) : ∀ {fs : List (Str × D)} {ws : List (Str × V)}, RepKV K ca ρ n H fs ws → RepKV K ca ρ n H (putFD y d fs) (L2.putF y v ws)
  | [], ws, r => by simp only [RepKV] at r; subst r; simp only [putFD, L2.putF, RepKV]; exact ⟨v, [], rfl, rv, rfl⟩
  | (z, x) :: fs, ws, r => by
    simp only [RepKV] at r
    obtain ⟨u, t, rfl, ru, rt⟩ := r
    by_cases e : z = y
    · simp only [putFD, L2.putF, if_pos e, RepKV]; exact ⟨v, t, rfl, rv, rt⟩
    · simp only [putFD, L2.putF, if_neg e, RepKV]; exact ⟨u, _, rfl, ru, RepKV.putF rv rt⟩
def putAttr (c y : Str) (o d : D) (st : Sto) : R Unit := match o with
  | .obj i => match st[i]? with
    | some (.ins c' fs) => if c' = c ∧ fs.length < 1000 then .ok () (st.set i (.ins c' (putFD y d fs))) else .bad
    | _ => .bad
  | _ => .bad
def sFldD (c y : Str) (f g : FE) : FS := fun τ st => (g τ st).bind fun d st1 => (f τ st1).bind fun o st2 => (putAttr c y o d st2).bind fun _ st3 => .ok (.nx τ) st3
theorem putAttr_ok {K : PySem.W.Frag} {ρ : Nat → Addr} {st : Sto} {H : Hp} {o d : D} {ov v : V} {c y : Str} {F : Unit → (Nat → Addr) → Sto → Hp → Prop} (A : AttrOk K ca.f c y) (s : SRep K ca ρ H st) (ro : Rep K ca ρ st.length H o ov) (rv : Rep K ca ρ st.length H d v)
    (h : Post K ca W ρ st.length H (putAttr c y o d st) F) : ∃ a C dx fs, ov = .ref a ∧ H a = some (.ins C dx fs) ∧ Cls K C ∧ NoAttr K C y ∧ fs.length < 1000 ∧ ∃ st1, Ext ρ st.length H ρ st1.length (upd H a (.ins C dx (L2.putF y v fs))) ∧ SRep K ca ρ (upd H a (.ins C dx (L2.putF y v fs))) st1 ∧ F () ρ st1 (upd H a (.ins C dx (L2.putF y v fs))) := by
  unfold putAttr at h
  split at h
  · rename_i i
    simp only [Rep] at ro
    split at h
    · rename_i c' fs e
      split at h
      · rename_i z
        obtain ⟨rfl, z⟩ := z
        obtain ⟨C, dx, ws, hC', ha, hd, rr⟩ := s.at_ i _ e
        obtain ⟨C2, hC, cC, nC⟩ := A.ex
        rw [hC'] at hC; cases hC
        have x2 : Ext ρ st.length H ρ (st.set i (.ins c' (putFD y d fs))).length (upd H (ρ i) (.ins C dx (L2.putF y v ws))) := by rw [List.length_set]; exact Ext.write s e rfl
        have s2 : SRep K ca ρ (upd H (ρ i) (.ins C dx (L2.putF y v ws))) (st.set i (.ins c' (putFD y d fs))) := s.write e rfl ⟨C, dx, _, hC', upd_same, by rw [upd_ne (fun z => by rw [z, ha] at hd; cases hd)]; exact hd, (rr.putF rv).ext (Ext.write s e rfl)⟩
        exact ⟨ρ i, C, dx, ws, ro.2, ha, cC, nC, by rw [rr.length]; exact z, _, x2, s2, h _ ρ x2 s2⟩
      · exact h.elim
    · exact h.elim
  · exact h.elim
theorem js_fld {c y : Str} {pos' : Pos} (A : AttrOk X.K ca.f c y) (ho : JE X ca W o f) (hv : JE X ca W e g) (hs : swapsWith e (some (.Attribute o y pos')) pos.line X.env = pure false := by rfl) : JS X ca W (.Assign [.Attribute o y pos'] e pos) (sFldD c y f g) :=
  ps_imp (ps_fld ho hv hs) fun Dn σ H ⟨ρ, st, τ, sl, s, h⟩ => at_of sl s h fun d ρ1 st1 H1 x1 sl1 s1 h1 v rv => at_of sl1 s1 h1 fun od ρ2 st2 H2 x2 sl2 s2 h2 ov ro => by
    obtain ⟨a, C, dx, fs, e1, e2, e3, e4, e5, st3, x3, s3, _, _, q⟩ := putAttr_ok A s2 ro (rv.ext x2) (Post.bind h2)
    exact ⟨a, C, dx, fs, e1, e2, e3, e4, e5, q.here s3 σ (sl2.ext x3)⟩
/-! ### name += an int -/
def sAug (i : Nat) (op : Int → Int → Int) (f : FE) : FS := fun τ st => match τ[i]? with
  | some (some (.int j)) => (f τ st).bind fun d st1 => match d with
    | .int m => .ok (.nx (τ.set i (some (.int (op j m))))) st1
    | _ => .bad
  | _ => .bad
theorem js_aug {op : Operator} {fo : Int → Int → Int} (i : Nat) {p' : Pos} (hop : PIp X op (ipI fo)) (hN : X.N.Nodup) (he : JE X ca W e f) (hi : X.N[i]? = some x := by rfl) (hx : Loc X.env.scope x := by first | exact Or.inl rfl | exact Or.inr rfl) (hf : X.fn x = true ∨ X.env.scope.names.lookup x = some .local := by first | exact .inl rfl | exact .inr rfl | assumption) :
    JS X ca W (.AugAssign (.Name x p') op e pos) (sAug i fo f) :=
  ps_imp (ps_aug (i := i) hN hi hx he hop hf) fun Dn σ H ⟨ρ, st, τ, sl, s, h⟩ => by
    unfold sAug at h
    split at h
    · rename_i j q
      obtain ⟨v, q', rv⟩ := sl.2 i _ q
      simp only [Rep] at rv
      subst rv
      refine ⟨_, q', at_of sl s h fun d ρ1 st1 H1 x1 sl1 s1 h1 u ru => ?_⟩
      cases d with
      | int m =>
        simp only [Rep] at ru
        subst ru
        exact ⟨j, m, rfl, rfl, h1.here s1 _ (sl1.set (by simp only [Rep]) i)⟩
      | _ => exact h1.elim
    · exact h.elim
def sFldAugD (c y : Str) (op : Int → Int → Int) (f g : FE) : FS := fun τ st => (f τ st).bind fun o st1 => match insOf st1 c o with
  | some fs => match fs.lookup y with
    | some (.int j) => (g τ st1).bind fun d st2 => match d with
      | .int m => (putAttr c y o (.int (op j m)) st2).bind fun _ st3 => .ok (.nx τ) st3
      | _ => .bad
    | _ => .bad
  | none => .bad
end
end DL
set_option Elab.async false
set_option linter.all false
set_option maxRecDepth 100000
set_option maxHeartbeats 4000000
namespace DL
open PySem PySem.Spec PyProof.Rows L2
/-- a dict of the module with text keys -/
structure TabD (K : PySem.W.Frag) (w : World) (mg : Str → Option Value) (cf : CF) (x : Str) (tab : List (Str × D)) : Prop where
  ex : ∃ d es n, mg x = some (.ref d) ∧ KDict K w d es n ∧ ∀ z, (tab.lookup z = none ∧ PySem.W.nsIn K d z = some none) ∨
    ∃ e u v, tab.lookup z = some e ∧ PySem.W.nsIn K d z = some (some u) ∧ RelV v u ∧ ∀ rv ρ n H, Rep K ⟨cf, rv⟩ ρ n H e v
section
variable {X : Cx} {ca : CA} {W : WX} {a b c e o : Expr} {es rest : List Expr} {f g k : FE} {h : FA} {pos p apos : Pos} {x : Str} {tab : List (Str × D)}
theorem ix_kd {d : Addr} {es : Array DictEntry} {n : Nat} (T : KDict X.K X.w d es n) : IxR X (fun x y H Q => ∃ (z : Str) (u0 : Value) (v0 : V), x = .ref d ∧ y = .str z ∧ PySem.W.nsIn X.K d z = some (some u0) ∧ RelV v0 u0 ∧ Q v0 H) := by
  intro value slice pins s σ H x y v u Q I rx ry h hs
  obtain ⟨z, u0, v0, rfl, rfl, e, r, q⟩ := h
  cases rx
  obtain ⟨t, rfl⟩ := ry
  refine subscriptTail_builtinR (x := u0) (kd_type T I) PySem.F.slot_dict_getitem.lookup ?_ hs
  exact wpAny_getItem_of (PySem.strKind_is X.prog X.w z t) (PySem.W.mapOf_K (prog := X.prog) I.kIn T.at_ T.lit) (PySem.W.find_K T.at_ e) ⟨rfl, v0, H, I.tok _, r, q⟩
def bInTab (tab : List (Str × D)) (f : FE) : FB := fun τ st => (f τ st).bind fun d st1 => match d with
  | .str z => .ok (tab.lookup z).isSome st1
  | _ => .bad
def bNotInTab (tab : List (Str × D)) (f : FE) : FB := fun τ st => (f τ st).bind fun d st1 => match d with
  | .str z => .ok (!(tab.lookup z).isSome) st1
  | _ => .bad
def fIxTab (tab : List (Str × D)) (f : FE) : FE := fun τ st => (f τ st).bind fun d st1 => match d with
  | .str z => match tab.lookup z with
    | some e => .ok e st1
    | none => .bad
  | _ => .bad
theorem jb_inTab (T : TabD X.K X.w X.mg ca.f x tab) (hg : Gl X x) (ha : JE X ca W a f) (hm : behindInMarks .In (.Name x p) = false := by with_unfolding_all rfl) (hd : (x == ("__debug__" : Str)) = false := by decide) : JB X ca W (.Compare a [.In] [.Name x p] pos) (bInTab tab f) := by
  obtain ⟨d, es, n, hx, kd, all⟩ := T.ex
  refine pt_imp (pt_cmpR (op_in_kd kd) ha (pe_glob (v := .ref d) hg hx rfl hd) hm) fun σ H Q ⟨ρ, st, τ, sl, s, h⟩ => at_of sl s h fun dd ρ1 st1 H1 x1 sl1 s1 h1 v rv => ?_
  cases dd with
  | str z =>
    simp only [Rep] at rv
    subst rv
    rcases all z with ⟨e1, e2⟩ | ⟨e, u, v, e1, e2, _⟩
    · simp only [e1] at h1; exact ⟨z, none, rfl, rfl, e2, _, rfl, h1.here s1⟩
    · simp only [e1] at h1; exact ⟨z, some u, rfl, rfl, e2, _, rfl, h1.here s1⟩
  | _ => exact h1.elim
theorem jb_notinTab (T : TabD X.K X.w X.mg ca.f x tab) (hg : Gl X x) (ha : JE X ca W a f) (hm : behindInMarks .NotIn (.Name x p) = false := by with_unfolding_all rfl) (hd : (x == ("__debug__" : Str)) = false := by decide) : JB X ca W (.Compare a [.NotIn] [.Name x p] pos) (bNotInTab tab f) := by
  obtain ⟨d, es, n, hx, kd, all⟩ := T.ex
  refine pt_imp (pt_cmpR (op_notIn_kd kd) ha (pe_glob (v := .ref d) hg hx rfl hd) hm) fun σ H Q ⟨ρ, st, τ, sl, s, h⟩ => at_of sl s h fun dd ρ1 st1 H1 x1 sl1 s1 h1 v rv => ?_
  cases dd with
  | str z =>
    simp only [Rep] at rv
    subst rv
    rcases all z with ⟨e1, e2⟩ | ⟨e, u, v, e1, e2, _⟩
    · simp only [e1] at h1; exact ⟨z, none, rfl, rfl, e2, _, rfl, h1.here s1⟩
    · simp only [e1] at h1; exact ⟨z, some u, rfl, rfl, e2, _, rfl, h1.here s1⟩
  | _ => exact h1.elim
theorem je_ixTab (T : TabD X.K X.w X.mg ca.f x tab) (hg : Gl X x) (ha : JE X ca W a f) (hs : PlainIx a := by exact fun _ _ => rfl) (hd : (x == ("__debug__" : Str)) = false := by decide) : JE X ca W (.Subscript (.Name x p) a pos) (fIxTab tab f) := by
  obtain ⟨d, es, n, hx, kd, all⟩ := T.ex
  refine pe_imp (pe_ix (ix_kd kd) (pe_glob (v := .ref d) hg hx rfl hd) ha hs) fun σ H Q ⟨ρ, st, τ, sl, s, h⟩ => at_of sl s h fun dd ρ1 st1 H1 x1 sl1 s1 h1 v rv => ?_
  cases dd with
  | str z =>
    simp only [Rep] at rv
    subst rv
    rcases all z with ⟨e1, e2⟩ | ⟨e, u, v, e1, e2, e3, e4⟩
    · simp only [e1] at h1; exact h1.elim
    · simp only [e1] at h1; exact ⟨z, u, v, rfl, rfl, e2, e3, h1.here s1 v (e4 _ _ _ _)⟩
  | _ => exact h1.elim
/-! ### {} and small dict rules -/
def fDnewK : FE := fun _ st => .ok (.obj st.length) (st ++ [.dic []])
def fDnewT : FE := fun _ st => .ok (.obj st.length) (st ++ [.dit []])
theorem je_dnewK : JE X ca W (.Dict [] [] pos) fDnewK := pe_imp pe_dnewK fun σ H Q ⟨ρ, st, τ, sl, s, h⟩ p hp =>
  h _ _ (ext_more s hp _) (s.more hp (kept_new hp) ⟨[], upd_same, by simp only [RepKV]⟩) _ (rep_obj_new _)
theorem je_dnewT : JE X ca W (.Dict [] [] pos) fDnewT := pe_imp pe_dnewT fun σ H Q ⟨ρ, st, τ, sl, s, h⟩ p hp =>
  h _ _ (ext_more s hp _) (s.more hp (kept_new hp) ⟨[], upd_same, by simp only [RepKV]⟩) _ (rep_obj_new _)
end
end DL
set_option Elab.async false
set_option linter.all false
set_option maxRecDepth 100000
set_option maxHeartbeats 4000000
namespace DL
open PySem PySem.Spec PyProof.Rows L2 LamX
/-! the law's call: the script is frozen (or the module's), the tables of code objects are tracked, nothing else is -/
def scrObj (us : List Value) : Obj := { cls := .type "list", data := .seq us.toArray }
def H0 (fz : Bool) (a : Addr) (us : List Value) (zs : List V) (T : List Addr) : Hp := fun b =>
  if fz = true ∧ b = a then some (.frz (scrObj us) (.lst zs)) else if b ∈ T then some (.tbl #[]) else none
theorem H0_none {fz : Bool} {a b : Addr} {us : List Value} {zs : List V} {T : List Addr} (h1 : ¬ (fz = true ∧ b = a)) (h2 : b ∉ T) : H0 fz a us zs T b = none := by
  unfold H0; rw [if_neg h1, if_neg h2]
theorem H0_some {fz : Bool} {a b : Addr} {us : List Value} {zs : List V} {T : List Addr} {u : HO} (h : H0 fz a us zs T b = some u) : (fz = true ∧ b = a ∧ u = .frz (scrObj us) (.lst zs)) ∨ (b ∈ T ∧ u = .tbl #[]) := by
  unfold H0 at h
  split at h
  · rename_i q; cases h; exact .inl ⟨q.1, q.2, rfl⟩
  · split at h
    · rename_i q; cases h; exact .inr ⟨q, rfl⟩
    · cases h
theorem law_end {P : Program} {w : World} {K : PySem.W.Frag} {mg mb : Str → Option Value} {k : Nat} {fa a : Addr} {tabs : List (Addr × Addr)} {fd : FuncData} {x : Str} {cf : CF} {r : Fn} {s1 : Shared} {us : List Value} {ns : List Int}
    (kin : K.In s1.heap) (gns : s1.heap.Ns mainGlobals mg) (bns : s1.heap.Ns builtinsNs mb) (boot : ∀ x : Str, x ≠ "__name__" → mb x = bootBuiltins x) (nl : s1.heap.NoLimit) (g0 : s1.gens = #[])
    (emp : ∀ p ∈ tabs, s1.heap.get? p.2 = some { cls := .none, data := .fields #[] }) (out : ∀ p ∈ tabs, K.lookup p.2 = none) (hd : ∀ p ∈ tabs, PySem.W.CodeHd s1.heap p.1 p.2)
    (bm : ∃ (m : Addr) (ob : Obj), mg "__builtins__" = some (.ref m) ∧ m ≠ builtinsNs ∧ s1.heap.get? m = some ob ∧ ob.cls = .type "module" ∧ ob.dict = some builtinsNs ∧ ob.data = .plain)
    (tbs : ∀ p ∈ cf.tb, p.1 ∈ tabs.map (·.2)) (scr : s1.heap.get? a = some (scrObj us)) (isI : IntsAre us ns) (few : ns.length ≤ sizeLine) (hr : RoomL k callerA)
    (F : ∀ base : Heap, K.In base → base.Ns mainGlobals mg → (∀ p ∈ tabs, TabB base mg p.1 p.2) → FnG P w K mg base k fa fd [x] (spD K cf 1 r))
    (bind : ∀ (s : Shared) (u : Value), BindsTo s fd ⟨[u], []⟩ [(x, u)]) (goal : ∃ st, r [.kl (ns.map D.int)] [] = .ok (.bl true) st) :
    codeAny (model P w) callerA (.call (.ref fa) ⟨[.ref a], []⟩) (fun res s2 => res = .ok (.ret (.bool true)) ∧ OldK s1.heap s2.heap ∧ s2.os = s1.os ∧ AllBare s2.gens) s1 := by
  have vals : Vals (ns.map V.int) us := vals_ints isI
  have lenU : us.length = ns.length := isI.length
  have inT : ∀ b, b ∈ tabs.map (·.2) → s1.heap.get? b = some { cls := .none, data := .fields #[] } := fun b hb => by
    obtain ⟨p, hp, rfl⟩ := List.mem_map.mp hb
    exact emp p hp
  have aOut : a ∉ tabs.map (·.2) := fun z => by
    have q := inT a z
    rw [scr] at q
    cases congrArg Obj.data (Option.some.inj q)
  obtain ⟨fz, hfz⟩ : ∃ fz : Bool, (fz = true ↔ K.lookup a = none) := ⟨(K.lookup a).isNone, by simp⟩
  have okH : HOk P w (H0 fz a us (ns.map V.int) (tabs.map (·.2))) s1.heap := fun b u q => by
    rcases H0_some q with ⟨_, rfl, rfl⟩ | ⟨hb, rfl⟩
    · exact ⟨scr, by rw [List.length_map]; exact few, us, _, vals, scr⟩
    · exact inT b hb
  have free : ∀ {b : Addr} {o : Obj}, s1.heap.get? b = some o → (∀ vs n, o.data ≠ .seq vs n) → o.data ≠ .fields #[] → H0 fz a us (ns.map V.int) (tabs.map (·.2)) b = none := fun {b o} e n1 n2 => by
    refine H0_none (fun z => ?_) fun z => ?_
    · rw [z.2, scr] at e
      cases e
      exact n1 _ _ rfl
    · rw [inT b z] at e
      cases e
      exact n2 rfl
  have hid : ∀ {b : Addr} {o : Obj}, s1.heap.get? b = some o → H0 fz a us (ns.map V.int) (tabs.map (·.2)) b = none → (hidT s1.heap (H0 fz a us (ns.map V.int) (tabs.map (·.2)))).get? b = some o := fun e n => hidT_get e n
  have hidNs : ∀ {b : Addr} {m : Str → Option Value}, s1.heap.Ns b m → (hidT s1.heap (H0 fz a us (ns.map V.int) (tabs.map (·.2)))).Ns b m := fun {b m} ⟨o, es, ep, e, d, q⟩ =>
    ⟨o, es, ep, hid e (free e (fun _ _ z => by rw [d] at z; cases z) fun z => by rw [d] at z; cases z), d, q⟩
  have kinB : K.In (hidT s1.heap (H0 fz a us (ns.map V.int) (tabs.map (·.2)))) := fun b o e => hid (kin b o e) (H0_none (fun z => by
    rw [z.2, hfz.mp z.1] at e
    cases e) fun z => by
    obtain ⟨p, hp, ep⟩ := List.mem_map.mp z
    rw [← ep, out p hp] at e
    cases e)
  have modB : L2.Mod K mg (hidT s1.heap (H0 fz a us (ns.map V.int) (tabs.map (·.2)))) := ⟨kinB, hidNs gns, ⟨mb, hidNs bns, boot⟩, let ⟨mc, n1, n2⟩ := nl; ⟨mc, hidNs n1, n2⟩⟩
  have tabB : ∀ p ∈ tabs, TabB (hidT s1.heap (H0 fz a us (ns.map V.int) (tabs.map (·.2)))) mg p.1 p.2 := fun p hp => by
    refine ⟨?_, ?_, fun z => ?_⟩
    · obtain ⟨o, vs, file, tf, flags, tg, inF, text, tt, e1, c1, c2, c3, c4, c5, c6, c7, c8, ne⟩ := hd p hp
      exact ⟨o, vs, file, tf, flags, tg, inF, text, tt, hid e1 (free e1 (fun _ _ z => by rw [c2] at z; cases z) fun z => by rw [c2] at z; cases z; simp at c3), c1, c2, c3, c4, c5, c6, c7, c8, ne⟩
    · obtain ⟨m, ob, m1, m2, m3, m4, m5, m6⟩ := bm
      refine ⟨m, ob, m1, m2, fun q => ?_, fun q => ?_, hid m3 (free m3 (fun _ _ z => by rw [m6] at z; cases z) fun z => by rw [m6] at z; cases z), m4, m5, m6⟩
      · obtain ⟨o, es, ep, e, d, _⟩ := gns
        rw [q, e] at m3
        cases m3
        rw [d] at m6
        cases m6
      · rw [q, emp p hp] at m3
        cases m3
        cases m6
    · obtain ⟨o, es, ep, e, d, _⟩ := gns
      rw [z, emp p hp] at e
      cases e
      cases d
  have env : Env0 P w K mg (hidT s1.heap (H0 fz a us (ns.map V.int) (tabs.map (·.2)))) callerA [] s1 (H0 fz a us (ns.map V.int) (tabs.map (·.2))) :=
    ⟨rfl, modB, fun b o e => of_hidT e, Nat.le_of_eq (hidT_size _ _), trivial, fun b hb => absurd (show b ∈ ([] : List Addr) from hb) (by simp), okH, .of_eq g0⟩
  have kl : KlAt K (H0 fz a us (ns.map V.int) (tabs.map (·.2))) a (ns.map V.int) := by
    cases hk : K.lookup a with
    | none => exact .inl ⟨scrObj us, by unfold H0; rw [if_pos ⟨hfz.mpr hk, rfl⟩]⟩
    | some o =>
      have e := kin a o hk
      rw [scr] at e
      cases e
      exact .inr ⟨_, us.toArray, _, hk, rfl, rfl, rfl, by rw [List.size_toArray, lenU]; exact few, by simpa using vals⟩
  have repI : ∀ (l : List Int) (ca : CA) (ρ : Nat → Addr) (n : Nat) (H : Hp), Reps K ca ρ n H (l.map D.int) (l.map V.int) := fun l ca ρ n H => by
    induction l with
    | nil => exact Reps.nil
    | cons i l ih => exact Reps.cons (by simp only [Rep]) ih
  have want : spD K cf 1 r [.ref a] (H0 fz a us (ns.map V.int) (tabs.map (·.2))) (fun v _ => v = .bl true) fun _ _ _ => False := by
    obtain ⟨st, e⟩ := goal
    refine ⟨rfl, [], fun _ => 0, [], [.kl (ns.map D.int)], Reps.cons (by simp only [Rep]; exact ⟨a, _, rfl, kl, repI _ _ _ _ _⟩) Reps.nil, ⟨fun i o z => by simp at z, fun i j z => by simp at z, fun b z => by simp at z, fun p hp => TabS.nil (by
      unfold H0
      rw [if_neg (fun (z : fz = true ∧ p.1 = a) => aOut (by rw [← z.2]; exact tbs p hp)), if_pos (tbs p hp)])⟩, ?_⟩
    rw [e]
    exact fun H' ρ' _ _ v rv => by simpa only [Rep] using rv
  refine codeAny_mono ((F _ kinB (hidNs gns) tabB).run callerA [] s1 _ ⟨[.ref a], []⟩ [.ref a] [.ref a] _ _ hr rfl env (bind s1 (.ref a)) (.cons rfl .nil) want) fun res s2 h => ?_
  match res, h with
  | .error ev, h =>
    obtain ⟨_, _, _, _, _, _, _, _, _, _, _, _, z⟩ := h
    exact z.elim
  | .ok (.ret u), ⟨v, H', os, bare, un, ok', rv, q⟩ =>
    cases (show v = .bl true from q)
    cases (show u = Value.bool true from rv)
    have keep : ∀ b o, b ∉ tabs.map (·.2) → s1.heap.get? b = some o → s2.heap.get? b = some o := fun b o nb e => by
      cases q : H0 fz a us (ns.map V.int) (tabs.map (·.2)) b with
      | none => exact un.keep b o e q (by intro z; exact absurd (show b ∈ ([] : List Addr) from z) (by simp)) (by simp)
      | some w0 =>
        rcases H0_some q with ⟨_, rfl, rfl⟩ | ⟨hb, rfl⟩
        · obtain ⟨e1, _⟩ := ok' _ _ (un.frzs _ _ _ q)
          rw [scr] at e
          cases e
          exact e1
        · exact absurd hb nb
    have grown : ∀ p ∈ tabs, ∃ more : Array Value, s2.heap.get? p.2 = some { cls := .none, data := .fields more } := fun p hp => by
      have hm : p.2 ∈ tabs.map (·.2) := List.mem_map.mpr ⟨p, hp, rfl⟩
      obtain ⟨more, z⟩ := un.tbls p.2 #[] (by unfold H0; rw [if_neg (fun (z : fz = true ∧ p.2 = a) => aOut (by rw [← z.2]; exact hm)), if_pos hm])
      exact ⟨_, ok' p.2 _ z⟩
    refine ⟨rfl, ⟨fun b o e => ?_, fun b o e => ?_⟩, os, bare⟩
    · by_cases hb : b ∈ tabs.map (·.2)
      · obtain ⟨p, hp, rfl⟩ := List.mem_map.mp hb
        obtain ⟨more, hm⟩ := grown p hp
        rw [emp p hp] at e
        cases e
        exact .inr (.inl ⟨((hd p hp).tab (emp p hp)).isCodeTable, rfl, #[], more, rfl, by rw [Array.empty_append]; exact hm⟩)
      · exact .inl (keep b o hb e)
    · by_cases hb : b ∈ tabs.map (·.2)
      · obtain ⟨p, hp, rfl⟩ := List.mem_map.mp hb
        obtain ⟨more, hm⟩ := grown p hp
        exact ⟨_, hm⟩
      · exact ⟨o, keep b o hb e⟩
/-- what the head must give: the written part, the law's function, its tables, its promise -/
def LawG (l : PySem.W.OpenLaw) (w : World) (k n : Nat) (x : Str) (mg : Str → Option Value) (fa : Addr) (h : Heap) : Prop :=
  ∃ (K : PySem.W.Frag) (fd : FuncData) (tabs : List (Addr × Addr)) (cf : CF) (r : Fn), K.In h ∧ (∀ p ∈ tabs, h.get? p.2 = some { cls := .none, data := .fields #[] }) ∧ (∀ p ∈ tabs, K.lookup p.2 = none) ∧ (∀ p ∈ tabs, PySem.W.CodeHd h p.1 p.2) ∧ (∀ p ∈ cf.tb, p.1 ∈ tabs.map (·.2)) ∧
    (∀ (s : Shared) (u : Value), BindsTo s fd ⟨[u], []⟩ [(x, u)]) ∧ (∀ ns : List Int, ns.length ≤ n → (∀ z ∈ ns, Builtin.Int.intBits z ≤ 1048576) → ∃ st, r [.kl (ns.map D.int)] [] = .ok (.bl true) st) ∧
    ∀ base : Heap, K.In base → base.Ns mainGlobals mg → (∀ p ∈ tabs, TabB base mg p.1 p.2) → FnG l.prog w K mg base k fa fd [x] (spD K cf 1 r)
theorem walk_G {l : PySem.W.OpenLaw} {n k : Nat} {q : Program} {loose : List Str} {XP : (Str → Option Value) → Heap → Prop} {YP : World → Heap → Prop} {d : DefRec} {x : Str}
    (hn : l.most = some n) (hn2 : n ≤ sizeLine) (hdf : d.params.defaults = []) (hr : RoomL k callerA)
    (F : ∀ (w : World) (mg : Str → Option Value) (fa : Addr) (h : Heap), YP w h → h.Ns mainGlobals mg → mg d.name = some (.ref fa) → LawG l w k n x mg fa h) :
    PySem.W.WalkO q loose XP YP l.row.toRowW d [] (fun f vs => PySem.call f vs) := by
  refine Att.attach_callB hn hdf fun w s0 s1 mg mb fa o pm cd doc a us ns G Y ho hd hcd hmg hobj hints hlen hbits hg => ?_
  obtain ⟨K, fd, tabs, cf, r, kin, emp, out, hdd, tbs, bind, goal, hF⟩ := F w mg fa _ Y G.T.g hmg
  exact law_end kin G.T.g G.T.b G.T.builtins G.T.nolimit hg emp out hdd G.T.bmain tbs hobj hints (Nat.le_trans hlen hn2) hr hF bind (goal ns hlen hbits)
end DL
set_option Elab.async false
set_option linter.all false
set_option maxRecDepth 100000
set_option maxHeartbeats 4000000
namespace DL
open PySem PySem.Spec PyProof.Rows L2 LamX
/-! what the generator's text leans on -/
structure ConstD (K : PySem.W.Frag) (mg : Str → Option Value) (cf : CF) (x : Str) (d : D) : Prop where
  ex : ∃ v u, mg x = some u ∧ RelV v u ∧ ∀ rv ρ n H, Rep K ⟨cf, rv⟩ ρ n H d v
section
variable {X : Cx} {ca : CA} {W : WX} {a b c e o : Expr} {es rest : List Expr} {f g k : FE} {h : FA} {pos p apos : Pos} {x : Str}
theorem je_gconst {d : D} (T : ConstD X.K X.mg ca.f x d) (hg : Gl X x) (hd : (x == ("__debug__" : Str)) = false := by decide) : JE X ca W (.Name x pos) (fC d) := by
  obtain ⟨v, u, hm, r, rep⟩ := T.ex
  exact je_const (pe_glob hg hm r hd) fun _ _ _ => rep _ _ _ _
def fNeg (f : FE) : FE := fun τ st => (f τ st).bind fun d st1 => match d with
  | .int i => .ok (.int (-i)) st1
  | _ => .bad
theorem je_neg (ha : JE X ca W a f) : JE X ca W (.UnaryOp .USub a pos) (fNeg f) :=
  pe_imp (pe_un un_neg ha) fun σ H Q ⟨ρ, st, τ, sl, s, h⟩ => at_of sl s h fun d ρ1 st1 H1 x1 sl1 s1 h1 v rv => by
    cases d with
    | int i =>
      simp only [Rep] at rv
      exact ⟨i, rv, h1.here s1 _ (by simp only [Rep])⟩
    | _ => exact h1.elim
end
/-- a def of the module; a method; an init -/
structure DefOk (K : PySem.W.Frag) (mg : Str → Option Value) (x : Str) (st : Stmt) : Prop where
  ex : ∃ f fd, FunD K x x (defArgs st) (defBody st) (defScope st) [] [] f fd ∧ mg x = some (.ref f) ∧ f = He.fAd K (x, none)
structure MthOk (K : PySem.W.Frag) (cf : CF) (c m qual : Str) (st : Stmt) : Prop where
  ex : ∃ C f fd, cf c = some C ∧ Cls K C ∧ Meth K C m f ∧ FunD K m qual (defArgs st) (defBody st) (defScope st) [] [] f fd
structure IniOk (K : PySem.W.Frag) (mg : Str → Option Value) (cf : CF) (c qual : Str) (st : Stmt) : Prop where
  ex : ∃ C f fd, cf c = some C ∧ mg c = some (.ref C) ∧ Mk K C f ∧ FunD K "__init__" qual (defArgs st) (defBody st) (defScope st) [] [] f fd
section
variable {P : Program} {w : World} {K : PySem.W.Frag} {mg : Str → Option Value} {base : Heap} {cf : CF} {k n : Nat} {x c m qual : Str} {st : Stmt} {r : Fn} {ps : List Str}
theorem DefOk.cal (D : DefOk K mg x st) (hn : ps.length = n) (F : ∀ {f : Addr} {fd : FuncData}, f = He.fAd K (x, none) → FunD K x x (defArgs st) (defBody st) (defScope st) [] [] f fd → FnG P w K mg base k f fd ps (spD K cf n r))
    (hb : ∀ (kV doc pm : Value) (an : Option Addr) (cdv ct : Value) (us : List Value), us.length = ps.length → bindArgs (PySem.W.fnOf x x (defArgs st) (defBody st) (defScope st) .none kV doc pm an cdv ct) ⟨us, []⟩ = pure (ps.zip us)) : CalG P w K mg base cf k x n r := by
  obtain ⟨f, fd, FD, hm, ef⟩ := D.ex
  exact ⟨f, fd, ps, F ef FD, hm, FD.kp, FD.bindsN hb⟩
theorem MthOk.met (D : MthOk K cf c m qual st) (F : ∀ {f : Addr} {fd : FuncData}, FunD K m qual (defArgs st) (defBody st) (defScope st) [] [] f fd → FnG P w K mg base k f fd ps (spD K cf n r))
    (hb : ∀ (kV doc pm : Value) (an : Option Addr) (cdv ct : Value) (us : List Value), us.length = ps.length → bindArgs (PySem.W.fnOf m qual (defArgs st) (defBody st) (defScope st) .none kV doc pm an cdv ct) ⟨us, []⟩ = pure (ps.zip us)) : MetG P w K mg base cf k c m n r := by
  obtain ⟨C, f, fd, hc, cC, me, FD⟩ := D.ex
  exact ⟨C, f, fd, ps, hc, cC, me, F FD, FD.bindsN hb⟩
theorem IniOk.mak (D : IniOk K mg cf c qual st) (F : ∀ {f : Addr} {fd : FuncData}, FunD K "__init__" qual (defArgs st) (defBody st) (defScope st) [] [] f fd → FnG P w K mg base k f fd ps (spD K cf n r))
    (hb : ∀ (kV doc pm : Value) (an : Option Addr) (cdv ct : Value) (us : List Value), us.length = ps.length → bindArgs (PySem.W.fnOf "__init__" qual (defArgs st) (defBody st) (defScope st) .none kV doc pm an cdv ct) ⟨us, []⟩ = pure (ps.zip us)) : MakG P w K mg base cf k c n r := by
  obtain ⟨C, f, fd, hc, hm, M, FD⟩ := D.ex
  exact ⟨C, f, fd, ps, hc, hm, M, F FD, FD.bindsN hb⟩
/-- nothing is promised -/
theorem fnG_bad {f : Addr} {fd : FuncData} (hn : ps.length = n) : FnG P w K mg base k f fd ps (spD K cf n fun _ _ => .bad) :=
  ⟨fun xs H Q E h => h.1.trans hn.symm, fun A outer s H args us xs Q E _ _ _ _ _ h => by
    obtain ⟨_, _, _, _, _, _, _, h⟩ := h
    exact h.elim⟩
end
end DL
set_option Elab.async false
set_option linter.all false
set_option maxRecDepth 100000
set_option maxHeartbeats 4000000
namespace DL
open PySem PySem.Spec PyProof.Rows L2 LamX
/-! facts of the head, for the walk -/
def cfOf (K : PySem.W.Frag) (tb : List (Addr × Str)) : CF := ⟨fun x => some (He.ga K x), tb⟩
def dvD : He.Dv → D
  | .non => .non
  | .bl b => .bl b
  | .int i => .int i
  | .str x => .str x
  | .glo x => .glb x
  | _ => .non
def dvOk : He.Dv → Bool
  | .non => true
  | .bl _ => true
  | .int _ => true
  | .str _ => true
  | .glo _ => true
  | _ => false
theorem dvD_rep {K : PySem.W.Frag} {tb : List (Addr × Str)} {v : He.Dv} (h : dvOk v = true) (rv : List Addr) (ρ : Nat → Addr) (n : Nat) (H : Hp) : Rep K ⟨cfOf K tb, rv⟩ ρ n H (dvD v) (v.v K) := by
  cases v with
  | non => simp only [dvD, Rep, He.Dv.v]
  | bl b => simp only [dvD, Rep, He.Dv.v]
  | int i => simp only [dvD, Rep, He.Dv.v]
  | str x => simp only [dvD, Rep, He.Dv.v]
  | glo x => simp only [dvD, Rep, He.Dv.v]; exact ⟨_, rfl, rfl⟩
  | _ => cases h
section
variable {K : PySem.W.Frag} {w : World} {mg : Str → Option Value} {h : Heap}
theorem dicW_entries {a : Addr} {P : Params} {ks : List Str} (e : He.dicW K a = some (He.keysIn P ks)) : ∃ es n, K.lookup a = some ⟨.type "dict", none, .dict es n, #[]⟩ ∧ (a == sysModules) = false ∧ es.toList.map He.keyOf = He.keysIn P ks := by
  unfold He.dicW at e
  split at e
  · rename_i c es m sl q
    split at e
    · rename_i z
      simp only [Bool.and_eq_true, decide_eq_true_eq, Bool.not_eq_true', Array.isEmpty_iff] at z
      obtain ⟨rfl, rfl, z⟩ := z
      exact ⟨es, m, q, z, Option.some.inj e⟩
    · cases e
  · cases e
theorem entries_find (P : Params) : ∀ {l : List DictEntry} {ks : List Str} {z : Str}, l.map He.keyOf = He.keysIn P ks → z ∉ ks → l.find? (·.key.isStr z) = none ∧ l.any (·.refKey) = false
  | [], _, _, _, _ => ⟨rfl, rfl⟩
  | e :: l, [], _, h, _ => by cases h
  | e :: l, k :: ks, z, h, hz => by
    have h1 : He.keyOf e :: l.map He.keyOf = some (k, PyData.keyHash P k) :: He.keysIn P ks := h
    injection h1 with h2 h3
    obtain ⟨i1, i2⟩ := entries_find P h3 (fun m => hz (List.mem_cons_of_mem _ m))
    unfold He.keyOf at h2
    split at h2
    · rename_i x t q
      obtain ⟨rfl, _⟩ := Prod.mk.inj (Option.some.inj h2)
      have ne : (e.key.isStr z) = false := by
        rw [q]
        show (x == z) = false
        exact beq_eq_false_iff_ne.mpr fun e => hz (e ▸ List.mem_cons_self)
      refine ⟨by rw [List.find?_cons, ne]; exact i1, ?_⟩
      rw [List.any_cons, i2]
      simp [DictEntry.refKey, q]
    · cases h2
theorem lookup_map {kvs : List (Str × He.Dv)} {z : Str} : (kvs.map fun q => (q.1, dvD q.2)).lookup z = (kvs.lookup z).map dvD := by
  induction kvs with
  | nil => rfl
  | cons q r ih =>
    obtain ⟨k, v⟩ := q
    simp only [List.map_cons, List.lookup_cons]
    cases z == k with
    | true => rfl
    | false => exact ih
theorem lookup_some_mem {α : Type} {kvs : List (Str × α)} {z : Str} {v : α} (h : kvs.lookup z = some v) : (z, v) ∈ kvs := by
  induction kvs with
  | nil => cases h
  | cons q r ih =>
    obtain ⟨k, u⟩ := q
    rw [List.lookup_cons] at h
    cases hb : z == k with
    | true => rw [hb] at h; cases h; rw [beq_iff_eq.mp hb]; exact List.mem_cons_self
    | false => rw [hb] at h; exact List.mem_cons_of_mem _ (ih h)
theorem lookup_none_notin {α : Type} {kvs : List (Str × α)} {z : Str} (h : kvs.lookup z = none) : z ∉ kvs.map (·.1) := by
  induction kvs with
  | nil => simp
  | cons q r ih =>
    obtain ⟨k, u⟩ := q
    rw [List.lookup_cons] at h
    cases hb : z == k with
    | true => rw [hb] at h; cases h
    | false =>
      rw [hb] at h
      simp only [List.map_cons, List.mem_cons, not_or]
      exact ⟨fun e => by rw [e] at hb; simp at hb, ih h⟩
theorem tabD_of {tb : List (Addr × Str)} {x : Str} {kvs : List (Str × He.Dv)} (hm : mg x = some (.ref (He.ga K x))) (e : He.dicW K (He.ga K x) = some (He.keysIn w.params (kvs.map (·.1)))) (hv : He.valsB K (He.ga K x) kvs = true) (ho : kvs.all (fun q => dvOk q.2) = true) :
    TabD K w mg (cfOf K tb) x (kvs.map fun q => (q.1, dvD q.2)) := by
  obtain ⟨es, n, lk, low, ek⟩ := dicW_entries e
  refine ⟨He.ga K x, es, n, hm, ⟨lk, He.keysLit_of ek, low⟩, fun z => ?_⟩
  rw [lookup_map]
  cases q : kvs.lookup z with
  | none =>
    obtain ⟨f1, f2⟩ := entries_find w.params ek (lookup_none_notin q)
    refine .inl ⟨rfl, ?_⟩
    unfold PySem.W.nsIn
    rw [lk]
    show (match es.toList.find? (·.key.isStr z) with | some e => some (some e.val) | none => if es.toList.any (·.refKey) then none else some none) = some none
    rw [f1, f2]
    rfl
  | some v =>
    have mem := lookup_some_mem q
    obtain ⟨u, hu, r⟩ := He.valsB_ok hv mem
    exact .inr ⟨dvD v, u, v.v K, rfl, hu, r, fun rv ρ n H => dvD_rep (List.all_eq_true.mp ho _ mem) rv ρ n H⟩
theorem constD_str {x z : Str} (X : K.In h) (G : h.Ns mainGlobals mg) (c : (He.Fa.str x z).ok K = true) {cf : CF} : ConstD K mg cf x (.str z) := by
  obtain ⟨t, e⟩ := He.str_ok X G c
  exact ⟨.str z, _, e, ⟨t, rfl⟩, fun _ _ _ _ => by simp only [Rep]⟩
theorem constD_int {x : Str} {i : Int} (X : K.In h) (G : h.Ns mainGlobals mg) (c : (He.Fa.int x i).ok K = true) {cf : CF} : ConstD K mg cf x (.int i) := by
  obtain ⟨t, e⟩ := He.int_ok X G c
  exact ⟨.int i, _, e, ⟨t, rfl⟩, fun _ _ _ _ => by simp only [Rep]⟩
variable {fa : List He.Fa} {fn : List He.DefD} {ts : List He.Tab} {tf : List He.Defn} {ex : PySem.W.Frag → Bool}
theorem dicW_at (c : He.SaysT fa fn ts w K) (i : Nat) {t : He.Tab} (e : ts[i]? = some t := by rfl) : He.dicW K (t.1 K) = some (He.keysIn w.params t.2) := by
  have e1 : ts.map (fun t => He.dicW K (t.1 K)) = ts.map fun t => some (He.keysIn w.params t.2) := congrArg (fun z : He.AlT => z.2) c
  have e2 : (ts.map fun t => He.dicW K (t.1 K))[i]? = (ts.map fun t => some (He.keysIn w.params t.2))[i]? := by rw [e1]
  rw [List.getElem?_map, List.getElem?_map, e] at e2
  exact Option.some.inj e2
theorem defOk_of {x : Str} {st : Stmt} (X : K.In h) (G : h.Ns mainGlobals mg) (g : (He.Fa.glo x).ok K = true) (D : ∃ fd, FunD K x x (defArgs st) (defBody st) (defScope st) [] [] (He.fAd K (x, none)) fd) : DefOk K mg x st := by
  obtain ⟨fd, D⟩ := D
  exact ⟨_, fd, D, He.glo_ok X G g, rfl⟩
theorem mthOk_of {tb : List (Addr × Str)} {c m qual : Str} {st : Stmt} (k : (He.Fa.cls c).ok K = true) (g : (He.Fa.meth c m).ok K = true) (D : ∃ fd, FunD K m qual (defArgs st) (defBody st) (defScope st) [] [] (He.fAd K (c, some m)) fd) : MthOk K (cfOf K tb) c m qual st := by
  obtain ⟨fd, D⟩ := D
  exact ⟨_, _, fd, rfl, He.cls_ok k, He.meth_ok g, D⟩
theorem iniOk_of {tb : List (Addr × Str)} {c qual : Str} {st : Stmt} (X : K.In h) (G : h.Ns mainGlobals mg) (k : (He.Fa.glo c).ok K = true) (g : (He.Fa.mkr c).ok K = true) (D : ∃ fd, FunD K "__init__" qual (defArgs st) (defBody st) (defScope st) [] [] (He.fAd K (c, some "__init__")) fd) : IniOk K mg (cfOf K tb) c qual st := by
  obtain ⟨fd, D⟩ := D
  exact ⟨_, _, fd, rfl, He.glo_ok X G k, He.mkr_ok g, D⟩
end
end DL
set_option Elab.async false
set_option linter.all false
set_option maxRecDepth 100000
set_option maxHeartbeats 4000000
namespace DL
open PySem PySem.Spec PyProof.Rows L2
/-! the combinators, evaluated: what comes behind a bind is a named function, so that nothing is looked at ahead of its time -/
@[simp] theorem bind_ok {α β : Type} (a : α) (st : Sto) (k : α → Sto → R β) : (R.ok a st).bind k = k a st := rfl
@[simp] theorem bind_bad {α β : Type} (k : α → Sto → R β) : (R.bad : R α).bind k = .bad := rfl
@[simp] theorem bind_ex {α β : Type} (c : Str) (fs : List (Str × D)) (τ : Ti) (st : Sto) (k : α → Sto → R β) : (R.ex c fs τ st : R α).bind k = .ex c fs τ st := rfl
@[simp] theorem exAt_ok {α : Type} (τ : Ti) (a : α) (st : Sto) : exAt τ (R.ok a st) = .ok a st := rfl
@[simp] theorem exAt_bad {α : Type} (τ : Ti) : exAt τ (R.bad : R α) = .bad := rfl
@[simp] theorem exAt_ex {α : Type} (τ τ' : Ti) (c : Str) (fs : List (Str × D)) (st : Sto) : exAt τ (R.ex c fs τ' st : R α) = .ex c fs τ st := rfl
@[simp] theorem noX_ok {α : Type} (a : α) (st : Sto) : noX (R.ok a st) = .ok a st := rfl
@[simp] theorem noX_bad {α : Type} : noX (R.bad : R α) = .bad := rfl
@[simp] theorem noX_ex {α : Type} (τ' : Ti) (c : Str) (fs : List (Str × D)) (st : Sto) : noX (R.ex c fs τ' st : R α) = .bad := rfl
@[simp] theorem fV_0 (d : D) (τ : Ti) (st : Sto) : fV 0 (some d :: τ) st = .ok d st := rfl
@[simp] theorem fV_1 (o0 : Option D) (d : D) (τ : Ti) (st : Sto) : fV 1 (o0 :: some d :: τ) st = .ok d st := rfl
@[simp] theorem fV_2 (o0 o1 : Option D) (d : D) (τ : Ti) (st : Sto) : fV 2 (o0 :: o1 :: some d :: τ) st = .ok d st := rfl
@[simp] theorem fV_3 (o0 o1 o2 : Option D) (d : D) (τ : Ti) (st : Sto) : fV 3 (o0 :: o1 :: o2 :: some d :: τ) st = .ok d st := rfl
@[simp] theorem fV_4 (o0 o1 o2 o3 : Option D) (d : D) (τ : Ti) (st : Sto) : fV 4 (o0 :: o1 :: o2 :: o3 :: some d :: τ) st = .ok d st := rfl
@[simp] theorem fV_5 (o0 o1 o2 o3 o4 : Option D) (d : D) (τ : Ti) (st : Sto) : fV 5 (o0 :: o1 :: o2 :: o3 :: o4 :: some d :: τ) st = .ok d st := rfl
@[simp] theorem fV_6 (o0 o1 o2 o3 o4 o5 : Option D) (d : D) (τ : Ti) (st : Sto) : fV 6 (o0 :: o1 :: o2 :: o3 :: o4 :: o5 :: some d :: τ) st = .ok d st := rfl
@[simp] theorem fV_7 (o0 o1 o2 o3 o4 o5 o6 : Option D) (d : D) (τ : Ti) (st : Sto) : fV 7 (o0 :: o1 :: o2 :: o3 :: o4 :: o5 :: o6 :: some d :: τ) st = .ok d st := rfl
@[simp] theorem fV_8 (o0 o1 o2 o3 o4 o5 o6 o7 : Option D) (d : D) (τ : Ti) (st : Sto) : fV 8 (o0 :: o1 :: o2 :: o3 :: o4 :: o5 :: o6 :: o7 :: some d :: τ) st = .ok d st := rfl
@[simp] theorem fV_9 (o0 o1 o2 o3 o4 o5 o6 o7 o8 : Option D) (d : D) (τ : Ti) (st : Sto) : fV 9 (o0 :: o1 :: o2 :: o3 :: o4 :: o5 :: o6 :: o7 :: o8 :: some d :: τ) st = .ok d st := rfl
@[simp] theorem fV_10 (o0 o1 o2 o3 o4 o5 o6 o7 o8 o9 : Option D) (d : D) (τ : Ti) (st : Sto) : fV 10 (o0 :: o1 :: o2 :: o3 :: o4 :: o5 :: o6 :: o7 :: o8 :: o9 :: some d :: τ) st = .ok d st := rfl
@[simp] theorem fV_11 (o0 o1 o2 o3 o4 o5 o6 o7 o8 o9 o10 : Option D) (d : D) (τ : Ti) (st : Sto) : fV 11 (o0 :: o1 :: o2 :: o3 :: o4 :: o5 :: o6 :: o7 :: o8 :: o9 :: o10 :: some d :: τ) st = .ok d st := rfl
@[simp] theorem fV_12 (o0 o1 o2 o3 o4 o5 o6 o7 o8 o9 o10 o11 : Option D) (d : D) (τ : Ti) (st : Sto) : fV 12 (o0 :: o1 :: o2 :: o3 :: o4 :: o5 :: o6 :: o7 :: o8 :: o9 :: o10 :: o11 :: some d :: τ) st = .ok d st := rfl
@[simp] theorem fV_13 (o0 o1 o2 o3 o4 o5 o6 o7 o8 o9 o10 o11 o12 : Option D) (d : D) (τ : Ti) (st : Sto) : fV 13 (o0 :: o1 :: o2 :: o3 :: o4 :: o5 :: o6 :: o7 :: o8 :: o9 :: o10 :: o11 :: o12 :: some d :: τ) st = .ok d st := rfl
@[simp] theorem fV_14 (o0 o1 o2 o3 o4 o5 o6 o7 o8 o9 o10 o11 o12 o13 : Option D) (d : D) (τ : Ti) (st : Sto) : fV 14 (o0 :: o1 :: o2 :: o3 :: o4 :: o5 :: o6 :: o7 :: o8 :: o9 :: o10 :: o11 :: o12 :: o13 :: some d :: τ) st = .ok d st := rfl
@[simp] theorem fV_15 (o0 o1 o2 o3 o4 o5 o6 o7 o8 o9 o10 o11 o12 o13 o14 : Option D) (d : D) (τ : Ti) (st : Sto) : fV 15 (o0 :: o1 :: o2 :: o3 :: o4 :: o5 :: o6 :: o7 :: o8 :: o9 :: o10 :: o11 :: o12 :: o13 :: o14 :: some d :: τ) st = .ok d st := rfl
@[simp] theorem fV_16 (o0 o1 o2 o3 o4 o5 o6 o7 o8 o9 o10 o11 o12 o13 o14 o15 : Option D) (d : D) (τ : Ti) (st : Sto) : fV 16 (o0 :: o1 :: o2 :: o3 :: o4 :: o5 :: o6 :: o7 :: o8 :: o9 :: o10 :: o11 :: o12 :: o13 :: o14 :: o15 :: some d :: τ) st = .ok d st := rfl
@[simp] theorem fV_17 (o0 o1 o2 o3 o4 o5 o6 o7 o8 o9 o10 o11 o12 o13 o14 o15 o16 : Option D) (d : D) (τ : Ti) (st : Sto) : fV 17 (o0 :: o1 :: o2 :: o3 :: o4 :: o5 :: o6 :: o7 :: o8 :: o9 :: o10 :: o11 :: o12 :: o13 :: o14 :: o15 :: o16 :: some d :: τ) st = .ok d st := rfl
@[simp] theorem fV_18 (o0 o1 o2 o3 o4 o5 o6 o7 o8 o9 o10 o11 o12 o13 o14 o15 o16 o17 : Option D) (d : D) (τ : Ti) (st : Sto) : fV 18 (o0 :: o1 :: o2 :: o3 :: o4 :: o5 :: o6 :: o7 :: o8 :: o9 :: o10 :: o11 :: o12 :: o13 :: o14 :: o15 :: o16 :: o17 :: some d :: τ) st = .ok d st := rfl
@[simp] theorem fV_19 (o0 o1 o2 o3 o4 o5 o6 o7 o8 o9 o10 o11 o12 o13 o14 o15 o16 o17 o18 : Option D) (d : D) (τ : Ti) (st : Sto) : fV 19 (o0 :: o1 :: o2 :: o3 :: o4 :: o5 :: o6 :: o7 :: o8 :: o9 :: o10 :: o11 :: o12 :: o13 :: o14 :: o15 :: o16 :: o17 :: o18 :: some d :: τ) st = .ok d st := rfl
@[simp] theorem fV_20 (o0 o1 o2 o3 o4 o5 o6 o7 o8 o9 o10 o11 o12 o13 o14 o15 o16 o17 o18 o19 : Option D) (d : D) (τ : Ti) (st : Sto) : fV 20 (o0 :: o1 :: o2 :: o3 :: o4 :: o5 :: o6 :: o7 :: o8 :: o9 :: o10 :: o11 :: o12 :: o13 :: o14 :: o15 :: o16 :: o17 :: o18 :: o19 :: some d :: τ) st = .ok d st := rfl
@[simp] theorem fV_21 (o0 o1 o2 o3 o4 o5 o6 o7 o8 o9 o10 o11 o12 o13 o14 o15 o16 o17 o18 o19 o20 : Option D) (d : D) (τ : Ti) (st : Sto) : fV 21 (o0 :: o1 :: o2 :: o3 :: o4 :: o5 :: o6 :: o7 :: o8 :: o9 :: o10 :: o11 :: o12 :: o13 :: o14 :: o15 :: o16 :: o17 :: o18 :: o19 :: o20 :: some d :: τ) st = .ok d st := rfl
@[simp] theorem fC_eq (d : D) (τ : Ti) (st : Sto) : fC d τ st = .ok d st := rfl
@[simp] theorem aNil_eq (τ : Ti) (st : Sto) : aNil τ st = .ok [] st := rfl
def kCons2 (d : D) (ds : List D) (st : Sto) : R (List D) := .ok (d :: ds) st
def kCons1 (g : FA) (τ : Ti) (d : D) (st : Sto) : R (List D) := (g τ st).bind (kCons2 d)
@[simp] theorem kCons2_eq (d : D) (ds : List D) (st : Sto) : kCons2 d ds st = .ok (d :: ds) st := rfl
@[simp] theorem kCons1_eq (g : FA) (τ : Ti) (d : D) (st : Sto) : kCons1 g τ d st = (g τ st).bind (kCons2 d) := rfl
@[simp] theorem aCons_eq (f : FE) (g : FA) (τ : Ti) (st : Sto) : aCons f g τ st = (f τ st).bind (kCons1 g τ) := rfl
def kTup (ds : List D) (st : Sto) : R D := if ds.length ≤ sizeLine then .ok (.tup ds) st else .bad
def kLv (ds : List D) (st : Sto) : R D := if ds.length ≤ sizeLine then .ok (.lv ds) st else .bad
def kLst (ds : List D) (st : Sto) : R D := if ds.length ≤ sizeLine then .ok (.obj st.length) (st ++ [.lst ds]) else .bad
@[simp] theorem fTup_eq (h : FA) (τ : Ti) (st : Sto) : fTup h τ st = (h τ st).bind kTup := rfl
@[simp] theorem fLv_eq (h : FA) (τ : Ti) (st : Sto) : fLv h τ st = (h τ st).bind kLv := rfl
@[simp] theorem fLst_eq (h : FA) (τ : Ti) (st : Sto) : fLst h τ st = (h τ st).bind kLst := rfl
theorem kTup_le {ds : List D} (h : ds.length ≤ sizeLine) (st : Sto) : kTup ds st = .ok (.tup ds) st := if_pos h
theorem kLv_le {ds : List D} (h : ds.length ≤ sizeLine) (st : Sto) : kLv ds st = .ok (.lv ds) st := if_pos h
theorem kLst_le {ds : List D} (h : ds.length ≤ sizeLine) (st : Sto) : kLst ds st = .ok (.obj st.length) (st ++ [.lst ds]) := if_pos h
@[simp] theorem kTup_0 (st : Sto) : kTup [] st = .ok (.tup []) st := if_pos (by rw [sizeLine_eq]; simp)
@[simp] theorem kLv_0 (st : Sto) : kLv [] st = .ok (.lv []) st := if_pos (by rw [sizeLine_eq]; simp)
@[simp] theorem kLst_0 (st : Sto) : kLst [] st = .ok (.obj st.length) (st ++ [.lst []]) := if_pos (by rw [sizeLine_eq]; simp)
@[simp] theorem kTup_1 (x0 : D) (st : Sto) : kTup [x0] st = .ok (.tup [x0]) st := if_pos (by rw [sizeLine_eq]; simp)
@[simp] theorem kLv_1 (x0 : D) (st : Sto) : kLv [x0] st = .ok (.lv [x0]) st := if_pos (by rw [sizeLine_eq]; simp)
@[simp] theorem kLst_1 (x0 : D) (st : Sto) : kLst [x0] st = .ok (.obj st.length) (st ++ [.lst [x0]]) := if_pos (by rw [sizeLine_eq]; simp)
@[simp] theorem kTup_2 (x0 x1 : D) (st : Sto) : kTup [x0, x1] st = .ok (.tup [x0, x1]) st := if_pos (by rw [sizeLine_eq]; simp)
@[simp] theorem kLv_2 (x0 x1 : D) (st : Sto) : kLv [x0, x1] st = .ok (.lv [x0, x1]) st := if_pos (by rw [sizeLine_eq]; simp)
@[simp] theorem kLst_2 (x0 x1 : D) (st : Sto) : kLst [x0, x1] st = .ok (.obj st.length) (st ++ [.lst [x0, x1]]) := if_pos (by rw [sizeLine_eq]; simp)
@[simp] theorem kTup_3 (x0 x1 x2 : D) (st : Sto) : kTup [x0, x1, x2] st = .ok (.tup [x0, x1, x2]) st := if_pos (by rw [sizeLine_eq]; simp)
@[simp] theorem kLv_3 (x0 x1 x2 : D) (st : Sto) : kLv [x0, x1, x2] st = .ok (.lv [x0, x1, x2]) st := if_pos (by rw [sizeLine_eq]; simp)
@[simp] theorem kLst_3 (x0 x1 x2 : D) (st : Sto) : kLst [x0, x1, x2] st = .ok (.obj st.length) (st ++ [.lst [x0, x1, x2]]) := if_pos (by rw [sizeLine_eq]; simp)
@[simp] theorem kTup_4 (x0 x1 x2 x3 : D) (st : Sto) : kTup [x0, x1, x2, x3] st = .ok (.tup [x0, x1, x2, x3]) st := if_pos (by rw [sizeLine_eq]; simp)
@[simp] theorem kLv_4 (x0 x1 x2 x3 : D) (st : Sto) : kLv [x0, x1, x2, x3] st = .ok (.lv [x0, x1, x2, x3]) st := if_pos (by rw [sizeLine_eq]; simp)
@[simp] theorem kLst_4 (x0 x1 x2 x3 : D) (st : Sto) : kLst [x0, x1, x2, x3] st = .ok (.obj st.length) (st ++ [.lst [x0, x1, x2, x3]]) := if_pos (by rw [sizeLine_eq]; simp)
@[simp] theorem kTup_5 (x0 x1 x2 x3 x4 : D) (st : Sto) : kTup [x0, x1, x2, x3, x4] st = .ok (.tup [x0, x1, x2, x3, x4]) st := if_pos (by rw [sizeLine_eq]; simp)
@[simp] theorem kLv_5 (x0 x1 x2 x3 x4 : D) (st : Sto) : kLv [x0, x1, x2, x3, x4] st = .ok (.lv [x0, x1, x2, x3, x4]) st := if_pos (by rw [sizeLine_eq]; simp)
@[simp] theorem kLst_5 (x0 x1 x2 x3 x4 : D) (st : Sto) : kLst [x0, x1, x2, x3, x4] st = .ok (.obj st.length) (st ++ [.lst [x0, x1, x2, x3, x4]]) := if_pos (by rw [sizeLine_eq]; simp)
@[simp] theorem kTup_6 (x0 x1 x2 x3 x4 x5 : D) (st : Sto) : kTup [x0, x1, x2, x3, x4, x5] st = .ok (.tup [x0, x1, x2, x3, x4, x5]) st := if_pos (by rw [sizeLine_eq]; simp)
@[simp] theorem kLv_6 (x0 x1 x2 x3 x4 x5 : D) (st : Sto) : kLv [x0, x1, x2, x3, x4, x5] st = .ok (.lv [x0, x1, x2, x3, x4, x5]) st := if_pos (by rw [sizeLine_eq]; simp)
@[simp] theorem kLst_6 (x0 x1 x2 x3 x4 x5 : D) (st : Sto) : kLst [x0, x1, x2, x3, x4, x5] st = .ok (.obj st.length) (st ++ [.lst [x0, x1, x2, x3, x4, x5]]) := if_pos (by rw [sizeLine_eq]; simp)
@[simp] theorem kTup_7 (x0 x1 x2 x3 x4 x5 x6 : D) (st : Sto) : kTup [x0, x1, x2, x3, x4, x5, x6] st = .ok (.tup [x0, x1, x2, x3, x4, x5, x6]) st := if_pos (by rw [sizeLine_eq]; simp)
@[simp] theorem kLv_7 (x0 x1 x2 x3 x4 x5 x6 : D) (st : Sto) : kLv [x0, x1, x2, x3, x4, x5, x6] st = .ok (.lv [x0, x1, x2, x3, x4, x5, x6]) st := if_pos (by rw [sizeLine_eq]; simp)
@[simp] theorem kLst_7 (x0 x1 x2 x3 x4 x5 x6 : D) (st : Sto) : kLst [x0, x1, x2, x3, x4, x5, x6] st = .ok (.obj st.length) (st ++ [.lst [x0, x1, x2, x3, x4, x5, x6]]) := if_pos (by rw [sizeLine_eq]; simp)
@[simp] theorem kTup_8 (x0 x1 x2 x3 x4 x5 x6 x7 : D) (st : Sto) : kTup [x0, x1, x2, x3, x4, x5, x6, x7] st = .ok (.tup [x0, x1, x2, x3, x4, x5, x6, x7]) st := if_pos (by rw [sizeLine_eq]; simp)
@[simp] theorem kLv_8 (x0 x1 x2 x3 x4 x5 x6 x7 : D) (st : Sto) : kLv [x0, x1, x2, x3, x4, x5, x6, x7] st = .ok (.lv [x0, x1, x2, x3, x4, x5, x6, x7]) st := if_pos (by rw [sizeLine_eq]; simp)
@[simp] theorem kLst_8 (x0 x1 x2 x3 x4 x5 x6 x7 : D) (st : Sto) : kLst [x0, x1, x2, x3, x4, x5, x6, x7] st = .ok (.obj st.length) (st ++ [.lst [x0, x1, x2, x3, x4, x5, x6, x7]]) := if_pos (by rw [sizeLine_eq]; simp)
@[simp] theorem kTup_9 (x0 x1 x2 x3 x4 x5 x6 x7 x8 : D) (st : Sto) : kTup [x0, x1, x2, x3, x4, x5, x6, x7, x8] st = .ok (.tup [x0, x1, x2, x3, x4, x5, x6, x7, x8]) st := if_pos (by rw [sizeLine_eq]; simp)
@[simp] theorem kLv_9 (x0 x1 x2 x3 x4 x5 x6 x7 x8 : D) (st : Sto) : kLv [x0, x1, x2, x3, x4, x5, x6, x7, x8] st = .ok (.lv [x0, x1, x2, x3, x4, x5, x6, x7, x8]) st := if_pos (by rw [sizeLine_eq]; simp)
@[simp] theorem kLst_9 (x0 x1 x2 x3 x4 x5 x6 x7 x8 : D) (st : Sto) : kLst [x0, x1, x2, x3, x4, x5, x6, x7, x8] st = .ok (.obj st.length) (st ++ [.lst [x0, x1, x2, x3, x4, x5, x6, x7, x8]]) := if_pos (by rw [sizeLine_eq]; simp)
@[simp] theorem kTup_10 (x0 x1 x2 x3 x4 x5 x6 x7 x8 x9 : D) (st : Sto) : kTup [x0, x1, x2, x3, x4, x5, x6, x7, x8, x9] st = .ok (.tup [x0, x1, x2, x3, x4, x5, x6, x7, x8, x9]) st := if_pos (by rw [sizeLine_eq]; simp)
@[simp] theorem kLv_10 (x0 x1 x2 x3 x4 x5 x6 x7 x8 x9 : D) (st : Sto) : kLv [x0, x1, x2, x3, x4, x5, x6, x7, x8, x9] st = .ok (.lv [x0, x1, x2, x3, x4, x5, x6, x7, x8, x9]) st := if_pos (by rw [sizeLine_eq]; simp)
@[simp] theorem kLst_10 (x0 x1 x2 x3 x4 x5 x6 x7 x8 x9 : D) (st : Sto) : kLst [x0, x1, x2, x3, x4, x5, x6, x7, x8, x9] st = .ok (.obj st.length) (st ++ [.lst [x0, x1, x2, x3, x4, x5, x6, x7, x8, x9]]) := if_pos (by rw [sizeLine_eq]; simp)
@[simp] theorem kTup_11 (x0 x1 x2 x3 x4 x5 x6 x7 x8 x9 x10 : D) (st : Sto) : kTup [x0, x1, x2, x3, x4, x5, x6, x7, x8, x9, x10] st = .ok (.tup [x0, x1, x2, x3, x4, x5, x6, x7, x8, x9, x10]) st := if_pos (by rw [sizeLine_eq]; simp)
@[simp] theorem kLv_11 (x0 x1 x2 x3 x4 x5 x6 x7 x8 x9 x10 : D) (st : Sto) : kLv [x0, x1, x2, x3, x4, x5, x6, x7, x8, x9, x10] st = .ok (.lv [x0, x1, x2, x3, x4, x5, x6, x7, x8, x9, x10]) st := if_pos (by rw [sizeLine_eq]; simp)
@[simp] theorem kLst_11 (x0 x1 x2 x3 x4 x5 x6 x7 x8 x9 x10 : D) (st : Sto) : kLst [x0, x1, x2, x3, x4, x5, x6, x7, x8, x9, x10] st = .ok (.obj st.length) (st ++ [.lst [x0, x1, x2, x3, x4, x5, x6, x7, x8, x9, x10]]) := if_pos (by rw [sizeLine_eq]; simp)
@[simp] theorem kTup_12 (x0 x1 x2 x3 x4 x5 x6 x7 x8 x9 x10 x11 : D) (st : Sto) : kTup [x0, x1, x2, x3, x4, x5, x6, x7, x8, x9, x10, x11] st = .ok (.tup [x0, x1, x2, x3, x4, x5, x6, x7, x8, x9, x10, x11]) st := if_pos (by rw [sizeLine_eq]; simp)
@[simp] theorem kLv_12 (x0 x1 x2 x3 x4 x5 x6 x7 x8 x9 x10 x11 : D) (st : Sto) : kLv [x0, x1, x2, x3, x4, x5, x6, x7, x8, x9, x10, x11] st = .ok (.lv [x0, x1, x2, x3, x4, x5, x6, x7, x8, x9, x10, x11]) st := if_pos (by rw [sizeLine_eq]; simp)
@[simp] theorem kLst_12 (x0 x1 x2 x3 x4 x5 x6 x7 x8 x9 x10 x11 : D) (st : Sto) : kLst [x0, x1, x2, x3, x4, x5, x6, x7, x8, x9, x10, x11] st = .ok (.obj st.length) (st ++ [.lst [x0, x1, x2, x3, x4, x5, x6, x7, x8, x9, x10, x11]]) := if_pos (by rw [sizeLine_eq]; simp)
def kOp2 (o : D → D → Sto → R D) (d e : D) (st : Sto) : R D := o d e st
def kOp1 (o : D → D → Sto → R D) (g : FE) (τ : Ti) (d : D) (st : Sto) : R D := (g τ st).bind (kOp2 o d)
@[simp] theorem kOp2_eq (o : D → D → Sto → R D) (d e : D) (st : Sto) : kOp2 o d e st = o d e st := rfl
@[simp] theorem kOp1_eq (o : D → D → Sto → R D) (g : FE) (τ : Ti) (d : D) (st : Sto) : kOp1 o g τ d st = (g τ st).bind (kOp2 o d) := rfl
@[simp] theorem fOp_eq (o : D → D → Sto → R D) (f g : FE) (τ : Ti) (st : Sto) : fOp o f g τ st = (f τ st).bind (kOp1 o g τ) := rfl
def kBof : D → Sto → R Bool := fun d st => match d with
  | .bl b => .ok b st
  | _ => .bad
@[simp] theorem kBof_bl (b : Bool) (st : Sto) : kBof (.bl b) st = .ok b st := rfl
@[simp] theorem bOf_eq (f : FE) (τ : Ti) (st : Sto) : bOf f τ st = (f τ st).bind kBof := rfl
def kTru (d : D) (st : Sto) : R Bool := match tru st d with
  | some b => .ok b st
  | none => .bad
@[simp] theorem bTru_eq (f : FE) (τ : Ti) (st : Sto) : bTru f τ st = (f τ st).bind kTru := rfl
@[simp] theorem kTru_bl (b : Bool) (st : Sto) : kTru (.bl b) st = .ok b st := rfl
@[simp] theorem kTru_non (st : Sto) : kTru .non st = .ok false st := rfl
@[simp] theorem oNo_eq (τ : Ti) (st : Sto) : oNo τ st = .ok none st := rfl
def kSo : D → Sto → R (Option Int) := fun d st => match d with
  | .int i => .ok (some i) st
  | _ => .bad
@[simp] theorem kSo_int (i : Int) (st : Sto) : kSo (.int i) st = .ok (some i) st := rfl
@[simp] theorem oSo_eq (f : FE) (τ : Ti) (st : Sto) : oSo f τ st = (f τ st).bind kSo := rfl
def kSl3 (d : D) (l m : Option Int) (st : Sto) : R D := opSl d l m st
def kSl2 (hi : FO) (τ : Ti) (d : D) (l : Option Int) (st : Sto) : R D := (hi τ st).bind (kSl3 d l)
def kSl1 (lo hi : FO) (τ : Ti) (d : D) (st : Sto) : R D := (lo τ st).bind (kSl2 hi τ d)
@[simp] theorem kSl3_eq (d : D) (l m : Option Int) (st : Sto) : kSl3 d l m st = opSl d l m st := rfl
@[simp] theorem kSl2_eq (hi : FO) (τ : Ti) (d : D) (l : Option Int) (st : Sto) : kSl2 hi τ d l st = (hi τ st).bind (kSl3 d l) := rfl
@[simp] theorem kSl1_eq (lo hi : FO) (τ : Ti) (d : D) (st : Sto) : kSl1 lo hi τ d st = (lo τ st).bind (kSl2 hi τ d) := rfl
@[simp] theorem fSl_eq (f : FE) (lo hi : FO) (τ : Ti) (st : Sto) : fSl f lo hi τ st = (f τ st).bind (kSl1 lo hi τ) := rfl
def kAnd (g : FB) (τ : Ti) (x : Bool) (st : Sto) : R Bool := if x = true then g τ st else .ok false st
def kOr (g : FB) (τ : Ti) (x : Bool) (st : Sto) : R Bool := if x = true then .ok true st else g τ st
def kNot (x : Bool) (st : Sto) : R Bool := .ok (!x) st
@[simp] theorem kAnd_t (g : FB) (τ : Ti) (st : Sto) : kAnd g τ true st = g τ st := rfl
@[simp] theorem kAnd_f (g : FB) (τ : Ti) (st : Sto) : kAnd g τ false st = .ok false st := rfl
@[simp] theorem kOr_t (g : FB) (τ : Ti) (st : Sto) : kOr g τ true st = .ok true st := rfl
@[simp] theorem kOr_f (g : FB) (τ : Ti) (st : Sto) : kOr g τ false st = g τ st := rfl
@[simp] theorem kNot_eq (x : Bool) (st : Sto) : kNot x st = .ok (!x) st := rfl
@[simp] theorem bAnd_eq (f g : FB) (τ : Ti) (st : Sto) : bAnd f g τ st = (f τ st).bind (kAnd g τ) := rfl
@[simp] theorem bOr_eq (f g : FB) (τ : Ti) (st : Sto) : bOr f g τ st = (f τ st).bind (kOr g τ) := rfl
@[simp] theorem bNot_eq (f : FB) (τ : Ti) (st : Sto) : bNot f τ st = (f τ st).bind kNot := rfl
@[simp] theorem bYes_eq (τ : Ti) (st : Sto) : bYes τ st = .ok true st := rfl
def kFif (f g : FE) (τ : Ti) (x : Bool) (st : Sto) : R D := if x = true then f τ st else g τ st
@[simp] theorem kFif_t (f g : FE) (τ : Ti) (st : Sto) : kFif f g τ true st = f τ st := rfl
@[simp] theorem kFif_f (f g : FE) (τ : Ti) (st : Sto) : kFif f g τ false st = g τ st := rfl
@[simp] theorem fIf_eq (t : FB) (f g : FE) (τ : Ti) (st : Sto) : fIf t f g τ st = (t τ st).bind (kFif f g τ) := rfl
def kFneg : D → Sto → R D := fun d st => match d with
  | .int i => .ok (.int (-i)) st
  | _ => .bad
@[simp] theorem kFneg_int (i : Int) (st : Sto) : kFneg (.int i) st = .ok (.int (-i)) st := rfl
@[simp] theorem fNeg_eq (f : FE) (τ : Ti) (st : Sto) : fNeg f τ st = (f τ st).bind kFneg := rfl
def kSeq (v : FS) (o : Out) (st : Sto) : R Out := match o with
  | .nx τ1 => v τ1 st
  | o => .ok o st
@[simp] theorem kSeq_nx (v : FS) (τ : Ti) (st : Sto) : kSeq v (.nx τ) st = v τ st := rfl
@[simp] theorem kSeq_rt (v : FS) (d : D) (st : Sto) : kSeq v (.rt d) st = .ok (.rt d) st := rfl
@[simp] theorem kSeq_bk (v : FS) (τ : Ti) (st : Sto) : kSeq v (.bk τ) st = .ok (.bk τ) st := rfl
@[simp] theorem kSeq_ct (v : FS) (τ : Ti) (st : Sto) : kSeq v (.ct τ) st = .ok (.ct τ) st := rfl
@[simp] theorem sSeq_eq (u v : FS) (τ : Ti) (st : Sto) : sSeq u v τ st = (u τ st).bind (kSeq v) := by
  unfold sSeq; congr 1
@[simp] theorem sNil_eq (τ : Ti) (st : Sto) : sNil τ st = .ok (.nx τ) st := rfl
def kExp (τ : Ti) (d : D) (st : Sto) : R Out := .ok (.nx τ) st
@[simp] theorem kExp_eq (τ : Ti) (d : D) (st : Sto) : kExp τ d st = .ok (.nx τ) st := rfl
@[simp] theorem sExp_eq (f : FE) (τ : Ti) (st : Sto) : sExp f τ st = (f τ st).bind (kExp τ) := rfl
def kRet (d : D) (st : Sto) : R Out := .ok (.rt d) st
@[simp] theorem kRet_eq (d : D) (st : Sto) : kRet d st = .ok (.rt d) st := rfl
@[simp] theorem sRet_eq (f : FE) (τ : Ti) (st : Sto) : sRet f τ st = (f τ st).bind kRet := rfl
@[simp] theorem sRetN_eq (τ : Ti) (st : Sto) : sRetN τ st = .ok (.rt .non) st := rfl
@[simp] theorem sBrk_eq (τ : Ti) (st : Sto) : sBrk τ st = .ok (.bk τ) st := rfl
@[simp] theorem sCnt_eq (τ : Ti) (st : Sto) : sCnt τ st = .ok (.ct τ) st := rfl
def kSif (u v : FS) (τ : Ti) (x : Bool) (st : Sto) : R Out := if x = true then u τ st else v τ st
@[simp] theorem kSif_t (u v : FS) (τ : Ti) (st : Sto) : kSif u v τ true st = u τ st := rfl
@[simp] theorem kSif_f (u v : FS) (τ : Ti) (st : Sto) : kSif u v τ false st = v τ st := rfl
@[simp] theorem sIf_eq (t : FB) (u v : FS) (τ : Ti) (st : Sto) : sIf t u v τ st = (t τ st).bind (kSif u v τ) := rfl
def kSet (i : Nat) (τ : Ti) (d : D) (st : Sto) : R Out := .ok (.nx (τ.set i (some d))) st
@[simp] theorem kSet_eq (i : Nat) (τ : Ti) (d : D) (st : Sto) : kSet i τ d st = .ok (.nx (τ.set i (some d))) st := rfl
@[simp] theorem sSet_eq (i : Nat) (f : FE) (τ : Ti) (st : Sto) : sSet i f τ st = (f τ st).bind (kSet i τ) := rfl
@[simp] theorem gN_eq (i : Nat) (d : D) (τ : Ti) (st : Sto) : gN i d τ st = .ok (τ.set i (some d)) st := rfl
@[simp] theorem gNilD_eq (τ : Ti) (st : Sto) : gNilD [] τ st = .ok τ st := rfl
@[simp] theorem gConsD_eq (g : FG) (h : FGs) (d : D) (r : List D) (τ : Ti) (st : Sto) : gConsD g h (d :: r) τ st = (g d τ st).bind (h r) := rfl
theorem gTupD_tup {n : Nat} {h : FGs} {ds : List D} (e : ds.length = n) (τ : Ti) (st : Sto) : gTupD n h (.tup ds) τ st = h ds τ st := if_pos e
@[simp] theorem gTupD_2 (h : FGs) (a b : D) (τ : Ti) (st : Sto) : gTupD 2 h (.tup [a, b]) τ st = h [a, b] τ st := rfl
@[simp] theorem gTupD_3 (h : FGs) (a b c : D) (τ : Ti) (st : Sto) : gTupD 3 h (.tup [a, b, c]) τ st = h [a, b, c] τ st := rfl
def kAsg2 (τ : Ti) (st : Sto) : R Out := .ok (.nx τ) st
def kAsg1 (g : FG) (τ : Ti) (d : D) (st : Sto) : R Out := (g d τ st).bind kAsg2
@[simp] theorem kAsg2_eq (τ : Ti) (st : Sto) : kAsg2 τ st = .ok (.nx τ) st := rfl
@[simp] theorem kAsg1_eq (g : FG) (τ : Ti) (d : D) (st : Sto) : kAsg1 g τ d st = (g d τ st).bind kAsg2 := rfl
@[simp] theorem sAsg_eq (f : FE) (g : FG) (τ : Ti) (st : Sto) : sAsg f g τ st = (f τ st).bind (kAsg1 g τ) := rfl
def kSub3 (τ : Ti) (_ : Unit) (st : Sto) : R Ti := .ok τ st
def kSub2 (τ : Ti) (d o i : D) (st : Sto) : R Ti := (putItem o i d st).bind (kSub3 τ)
def kSub1 (g : FE) (τ : Ti) (d o : D) (st : Sto) : R Ti := (g τ st).bind (kSub2 τ d o)
@[simp] theorem kSub3_eq (τ : Ti) (x : Unit) (st : Sto) : kSub3 τ x st = .ok τ st := rfl
@[simp] theorem kSub2_eq (τ : Ti) (d o i : D) (st : Sto) : kSub2 τ d o i st = (putItem o i d st).bind (kSub3 τ) := rfl
@[simp] theorem kSub1_eq (g : FE) (τ : Ti) (d o : D) (st : Sto) : kSub1 g τ d o st = (g τ st).bind (kSub2 τ d o) := rfl
@[simp] theorem gSubD_eq (f g : FE) (d : D) (τ : Ti) (st : Sto) : gSubD f g d τ st = (f τ st).bind (kSub1 g τ d) := rfl
def kB (r : Fn) (ds : List D) (st : Sto) : R D := r ds st
@[simp] theorem kB_eq (r : Fn) (ds : List D) (st : Sto) : kB r ds st = r ds st := rfl
@[simp] theorem fB_eq (r : Fn) (h : FA) (τ : Ti) (st : Sto) : fB r h τ st = (h τ st).bind (kB r) := rfl
def kTupOf (d : D) (st : Sto) : R D := oTup d st
@[simp] theorem kTupOf_eq (d : D) (st : Sto) : kTupOf d st = oTup d st := rfl
@[simp] theorem fTupOf_eq (f : FE) (τ : Ti) (st : Sto) : fTupOf f τ st = (f τ st).bind kTupOf := rfl
def kCall (n : Nat) (r : Fn) (τ : Ti) (ds : List D) (st : Sto) : R D := if ds.length = n then exAt τ (r ds st) else .bad
theorem kCall_eq {n : Nat} (r : Fn) (τ : Ti) {ds : List D} (h : ds.length = n) (st : Sto) : kCall n r τ ds st = exAt τ (r ds st) := if_pos h
@[simp] theorem fCallN_eq (n : Nat) (r : Fn) (h : FA) (τ : Ti) (st : Sto) : fCallN n r h τ st = (h τ st).bind (kCall n r τ) := rfl
@[simp] theorem kCall_0 (r : Fn) (τ : Ti) (st : Sto) : kCall 0 r τ [] st = exAt τ (r [] st) := rfl
@[simp] theorem kCall_1 (r : Fn) (τ : Ti) (x0 : D) (st : Sto) : kCall 1 r τ [x0] st = exAt τ (r [x0] st) := rfl
@[simp] theorem kCall_2 (r : Fn) (τ : Ti) (x0 x1 : D) (st : Sto) : kCall 2 r τ [x0, x1] st = exAt τ (r [x0, x1] st) := rfl
@[simp] theorem kCall_3 (r : Fn) (τ : Ti) (x0 x1 x2 : D) (st : Sto) : kCall 3 r τ [x0, x1, x2] st = exAt τ (r [x0, x1, x2] st) := rfl
@[simp] theorem kCall_4 (r : Fn) (τ : Ti) (x0 x1 x2 x3 : D) (st : Sto) : kCall 4 r τ [x0, x1, x2, x3] st = exAt τ (r [x0, x1, x2, x3] st) := rfl
@[simp] theorem kCall_5 (r : Fn) (τ : Ti) (x0 x1 x2 x3 x4 : D) (st : Sto) : kCall 5 r τ [x0, x1, x2, x3, x4] st = exAt τ (r [x0, x1, x2, x3, x4] st) := rfl
@[simp] theorem kCall_6 (r : Fn) (τ : Ti) (x0 x1 x2 x3 x4 x5 : D) (st : Sto) : kCall 6 r τ [x0, x1, x2, x3, x4, x5] st = exAt τ (r [x0, x1, x2, x3, x4, x5] st) := rfl
@[simp] theorem kCall_7 (r : Fn) (τ : Ti) (x0 x1 x2 x3 x4 x5 x6 : D) (st : Sto) : kCall 7 r τ [x0, x1, x2, x3, x4, x5, x6] st = exAt τ (r [x0, x1, x2, x3, x4, x5, x6] st) := rfl
@[simp] theorem kCall_8 (r : Fn) (τ : Ti) (x0 x1 x2 x3 x4 x5 x6 x7 : D) (st : Sto) : kCall 8 r τ [x0, x1, x2, x3, x4, x5, x6, x7] st = exAt τ (r [x0, x1, x2, x3, x4, x5, x6, x7] st) := rfl
def kMt2 (r : D → List D → Sto → R D) (d : D) (ds : List D) (st : Sto) : R D := r d ds st
def kMt1 (r : D → List D → Sto → R D) (h : FA) (τ : Ti) (d : D) (st : Sto) : R D := match mlOf st d with
  | some _ => (h τ st).bind (kMt2 r d)
  | none => .bad
@[simp] theorem kMt2_eq (r : D → List D → Sto → R D) (d : D) (ds : List D) (st : Sto) : kMt2 r d ds st = r d ds st := rfl
theorem kMt1_eq {st : Sto} {k : Nat} {xs : List D} (q : st[k]? = some (.lst xs)) (r : D → List D → Sto → R D) (h : FA) (τ : Ti) : kMt1 r h τ (.obj k) st = (h τ st).bind (kMt2 r (.obj k)) := by
  have e : mlOf st (.obj k) = some xs := by simp only [mlOf, q]
  unfold kMt1; rw [e]
@[simp] theorem fMt_eq (r : D → List D → Sto → R D) (f : FE) (h : FA) (τ : Ti) (st : Sto) : fMt r f h τ st = (f τ st).bind (kMt1 r h τ) := rfl
def kInTab (tab : List (Str × D)) (d : D) (st : Sto) : R Bool := match d with
  | .str z => .ok (tab.lookup z).isSome st
  | _ => .bad
def kNotInTab (tab : List (Str × D)) (d : D) (st : Sto) : R Bool := match d with
  | .str z => .ok (!(tab.lookup z).isSome) st
  | _ => .bad
def kIxTab (tab : List (Str × D)) (d : D) (st : Sto) : R D := match d with
  | .str z => ofO (tab.lookup z) st
  | _ => .bad
@[simp] theorem kInTab_eq (tab : List (Str × D)) (z : Str) (st : Sto) : kInTab tab (.str z) st = .ok (tab.lookup z).isSome st := rfl
@[simp] theorem kNotInTab_eq (tab : List (Str × D)) (z : Str) (st : Sto) : kNotInTab tab (.str z) st = .ok (!(tab.lookup z).isSome) st := rfl
@[simp] theorem kIxTab_eq (tab : List (Str × D)) (z : Str) (st : Sto) : kIxTab tab (.str z) st = ofO (tab.lookup z) st := rfl
@[simp] theorem bInTab_eq (tab : List (Str × D)) (f : FE) (τ : Ti) (st : Sto) : bInTab tab f τ st = (f τ st).bind (kInTab tab) := rfl
@[simp] theorem bNotInTab_eq (tab : List (Str × D)) (f : FE) (τ : Ti) (st : Sto) : bNotInTab tab f τ st = (f τ st).bind (kNotInTab tab) := rfl
@[simp] theorem fIxTab_eq (tab : List (Str × D)) (f : FE) (τ : Ti) (st : Sto) : fIxTab tab f τ st = (f τ st).bind (kIxTab tab) := by
  unfold fIxTab; congr 1
def kRun (o : Out) (st : Sto) : R D := match o with
  | .rt d => .ok d st
  | .nx _ => .ok .non st
  | _ => .bad
@[simp] theorem kRun_rt (d : D) (st : Sto) : kRun (.rt d) st = .ok d st := rfl
@[simp] theorem kRun_nx (τ : Ti) (st : Sto) : kRun (.nx τ) st = .ok .non st := rfl
theorem runB_eq (u : FS) (n : Nat) (ds : List D) (st : Sto) : runB u n ds st = (u (ds.map some ++ List.replicate (n - ds.length) none) st).bind kRun := rfl
/-! loops -/
def kFor (g : FG) (u : FS) (τ : Ti) (src : Src) (st : Sto) : R Out := match src with
  | .imm ds => forD g u ds τ st
  | .obj k => forO g u k forMost 0 τ st
@[simp] theorem kFor_imm (g : FG) (u : FS) (τ : Ti) (ds : List D) (st : Sto) : kFor g u τ (.imm ds) st = forD g u ds τ st := rfl
@[simp] theorem kFor_obj (g : FG) (u : FS) (τ : Ti) (k : Nat) (st : Sto) : kFor g u τ (.obj k) st = forO g u k forMost 0 τ st := rfl
@[simp] theorem sFor_eq (f : FI) (g : FG) (u : FS) (τ : Ti) (st : Sto) : sFor f g u τ st = (f τ st).bind (kFor g u τ) := by
  unfold sFor; congr 1
def kIv (d : D) (st : Sto) : R Src := match srcOf st d with
  | some s => .ok s st
  | none => .bad
@[simp] theorem iV_eq (f : FE) (τ : Ti) (st : Sto) : iV f τ st = (f τ st).bind kIv := rfl
@[simp] theorem kIv_tup (ds : List D) (st : Sto) : kIv (.tup ds) st = .ok (.imm ds) st := rfl
@[simp] theorem kIv_ktup (ds : List D) (st : Sto) : kIv (.ktup ds) st = .ok (.imm ds) st := rfl
@[simp] theorem kIv_lv (ds : List D) (st : Sto) : kIv (.lv ds) st = .ok (.imm ds) st := rfl
@[simp] theorem kIv_kl (ds : List D) (st : Sto) : kIv (.kl ds) st = .ok (.imm ds) st := rfl
theorem kIv_obj {st : Sto} {k : Nat} {xs : List D} (q : st[k]? = some (.lst xs)) : kIv (.obj k) st = .ok (.obj k) st := by
  have e : srcOf st (.obj k) = some (.obj k) := by simp only [srcOf, q]
  unfold kIv; rw [e]
def kRng1 (d : D) (st : Sto) : R Src := match d with
  | .int j => if smallI j = true then .ok (.imm (runD 0 j.toNat)) st else .bad
  | _ => .bad
theorem kRng1_eq {j : Int} (h : smallI j = true) (st : Sto) : kRng1 (.int j) st = .ok (.imm (runD 0 j.toNat)) st := if_pos h
@[simp] theorem iRng1D_eq (f : FE) (τ : Ti) (st : Sto) : iRng1D f τ st = (f τ st).bind kRng1 := rfl
def kRng2b (d e : D) (st : Sto) : R Src := match d, e with
  | .int i, .int j => if (smallI i && smallI j) = true then .ok (.imm (runD i (j - i).toNat)) st else .bad
  | _, _ => .bad
def kRng2a (g : FE) (τ : Ti) (d : D) (st : Sto) : R Src := (g τ st).bind (kRng2b d)
theorem kRng2b_eq {i j : Int} (h : (smallI i && smallI j) = true) (st : Sto) : kRng2b (.int i) (.int j) st = .ok (.imm (runD i (j - i).toNat)) st := if_pos h
@[simp] theorem kRng2a_eq (g : FE) (τ : Ti) (d : D) (st : Sto) : kRng2a g τ d st = (g τ st).bind (kRng2b d) := rfl
@[simp] theorem iRng2D_eq (f g : FE) (τ : Ti) (st : Sto) : iRng2D f g τ st = (f τ st).bind (kRng2a g τ) := rfl
def kTurn2 (next : Ti → Sto → R Out) (o : Out) (st : Sto) : R Out := afterTurn next o st
def kTurn1 (u : FS) (next : Ti → Sto → R Out) (τ : Ti) (st : Sto) : R Out := (u τ st).bind (kTurn2 next)
@[simp] theorem kTurn1_eq (u : FS) (next : Ti → Sto → R Out) (τ : Ti) (st : Sto) : kTurn1 u next τ st = (u τ st).bind (kTurn2 next) := rfl
@[simp] theorem kTurn2_nx (next : Ti → Sto → R Out) (τ : Ti) (st : Sto) : kTurn2 next (.nx τ) st = next τ st := rfl
@[simp] theorem kTurn2_ct (next : Ti → Sto → R Out) (τ : Ti) (st : Sto) : kTurn2 next (.ct τ) st = next τ st := rfl
@[simp] theorem kTurn2_bk (next : Ti → Sto → R Out) (τ : Ti) (st : Sto) : kTurn2 next (.bk τ) st = .ok (.nx τ) st := rfl
@[simp] theorem kTurn2_rt (next : Ti → Sto → R Out) (d : D) (st : Sto) : kTurn2 next (.rt d) st = .ok (.rt d) st := rfl
theorem forD_nil (g : FG) (u : FS) (τ : Ti) (st : Sto) : forD g u [] τ st = .ok (.nx τ) st := rfl
theorem forD_cons (g : FG) (u : FS) (d : D) (ds : List D) (τ : Ti) (st : Sto) : forD g u (d :: ds) τ st = (g d τ st).bind (kTurn1 u (forD g u ds)) := rfl
def kWhile (u : FS) (next : FS) (τ : Ti) (x : Bool) (st : Sto) : R Out := if x = true then (u τ st).bind (kTurn2 next) else .ok (.nx τ) st
@[simp] theorem kWhile_t (u : FS) (next : FS) (τ : Ti) (st : Sto) : kWhile u next τ true st = (u τ st).bind (kTurn2 next) := rfl
@[simp] theorem kWhile_f (u : FS) (next : FS) (τ : Ti) (st : Sto) : kWhile u next τ false st = .ok (.nx τ) st := rfl
theorem whileD_succ (t : FB) (u : FS) (n : Nat) (τ : Ti) (st : Sto) : whileD t u (n + 1) τ st = (t τ st).bind (kWhile u (whileD t u n) τ) := rfl
/-! comprehensions -/
def kLc (fin : List D → Sto → R D) (g : FG) (vs : List Nat) (t : FB) (e : FE) (τ : Ti) (src : Src) (st : Sto) : R D := match src with
  | .imm ds => lcD g t e (wipeT τ vs) fin ds [] st
  | .obj k => lcO g t e (wipeT τ vs) fin k forMost 0 [] st
@[simp] theorem kLc_imm (fin : List D → Sto → R D) (g : FG) (vs : List Nat) (t : FB) (e : FE) (τ : Ti) (ds : List D) (st : Sto) : kLc fin g vs t e τ (.imm ds) st = lcD g t e (wipeT τ vs) fin ds [] st := rfl
@[simp] theorem kLc_obj (fin : List D → Sto → R D) (g : FG) (vs : List Nat) (t : FB) (e : FE) (τ : Ti) (k : Nat) (st : Sto) : kLc fin g vs t e τ (.obj k) st = lcO g t e (wipeT τ vs) fin k forMost 0 [] st := rfl
@[simp] theorem fLcG_eq (fin : List D → Sto → R D) (f : FI) (g : FG) (vs : List Nat) (t : FB) (e : FE) (τ : Ti) (st : Sto) : fLcG fin f g vs t e τ st = (f τ st).bind (kLc fin g vs t e τ) := by
  unfold fLcG; congr 1
@[simp] theorem finLv_eq (ys : List D) (st : Sto) : finLv ys st = .ok (.lv ys) st := rfl
@[simp] theorem finO_eq (ys : List D) (st : Sto) : finO ys st = .ok (.obj st.length) (st ++ [.lst ys]) := rfl
theorem lcD_nil {β : Type} (g : FG) (t : FB) (e : FE) (τ : Ti) (fin : List D → Sto → R β) (acc : List D) (st : Sto) : lcD g t e τ fin [] acc st = fin acc st := rfl
/-- one item: the target, the test, the element -/
def lcOne (g : FG) (t : FB) (e : FE) (τ : Ti) (d : D) (st : Sto) : R (Option D) := (noX (g d τ st)).bind fun τ1 st1 => (noX (t τ1 st1)).bind fun x st2 => if x = true then (noX (e τ1 st2)).bind fun y st3 => .ok (some y) st3 else .ok none st2
theorem lcD_cons {β : Type} (g : FG) (t : FB) (e : FE) (τ : Ti) (fin : List D → Sto → R β) (d : D) (ds acc : List D) (st : Sto) :
    lcD g t e τ fin (d :: ds) acc st = (lcOne g t e τ d st).bind fun y st1 => match y with
      | some y => if acc.length < sizeLine then lcD g t e τ fin ds (acc ++ [y]) st1 else .bad
      | none => lcD g t e τ fin ds acc st1 := by
  unfold lcOne
  show (noX (g d τ st)).bind _ = _
  cases hg : g d τ st with
  | ok τ1 st1 =>
    show (noX (t τ1 st1)).bind _ = R.bind ((noX (t τ1 st1)).bind _) _
    cases ht : t τ1 st1 with
    | ok x st2 =>
      cases x with
      | false => rfl
      | true =>
        show (noX (e τ1 st2)).bind _ = R.bind ((noX (e τ1 st2)).bind _) _
        cases e τ1 st2 <;> rfl
    | ex _ _ _ _ => rfl
    | bad => rfl
  | ex _ _ _ _ => rfl
  | bad => rfl
/-- a comprehension whose elements change nothing -/
theorem lcD_map {β : Type} {g : FG} {t : FB} {e : FE} {τ : Ti} {fin : List D → Sto → R β} {st : Sto} (m : D → Option D) : ∀ {ds acc : List D}, (∀ d, d ∈ ds → lcOne g t e τ d st = .ok (m d) st) → acc.length + ds.length ≤ sizeLine →
    lcD g t e τ fin ds acc st = fin (acc ++ ds.filterMap m) st
  | [], acc, _, _ => by rw [lcD_nil]; simp
  | d :: ds, acc, h, hl => by
    rw [lcD_cons, h d List.mem_cons_self, bind_ok]
    simp only [List.length_cons] at hl
    cases q : m d with
    | none =>
      show lcD g t e τ fin ds acc st = _
      rw [lcD_map m (fun x hx => h x (List.mem_cons_of_mem _ hx)) (by omega)]
      simp [q]
    | some y =>
      show (if acc.length < sizeLine then lcD g t e τ fin ds (acc ++ [y]) st else .bad) = _
      rw [if_pos (by omega), lcD_map m (fun x hx => h x (List.mem_cons_of_mem _ hx)) (by simp; omega)]
      simp [q]
/-! attributes, methods -/
def kFld (c y : Str) (d : D) (st : Sto) : R D := match insOf st c d with
  | some fs => ofO (fs.lookup y) st
  | none => .bad
@[simp] theorem fFld_eq (c y : Str) (f : FE) (τ : Ti) (st : Sto) : fFld c y f τ st = (f τ st).bind (kFld c y) := by
  unfold fFld; congr 1
def kSfld3 (τ : Ti) (_ : Unit) (st : Sto) : R Out := .ok (.nx τ) st
def kSfld2 (c y : Str) (τ : Ti) (d o : D) (st : Sto) : R Out := (putAttr c y o d st).bind (kSfld3 τ)
def kSfld1 (c y : Str) (f : FE) (τ : Ti) (d : D) (st : Sto) : R Out := (f τ st).bind (kSfld2 c y τ d)
@[simp] theorem kSfld3_eq (τ : Ti) (x : Unit) (st : Sto) : kSfld3 τ x st = .ok (.nx τ) st := rfl
@[simp] theorem kSfld2_eq (c y : Str) (τ : Ti) (d o : D) (st : Sto) : kSfld2 c y τ d o st = (putAttr c y o d st).bind (kSfld3 τ) := rfl
@[simp] theorem kSfld1_eq (c y : Str) (f : FE) (τ : Ti) (d : D) (st : Sto) : kSfld1 c y f τ d st = (f τ st).bind (kSfld2 c y τ d) := rfl
@[simp] theorem sFldD_eq (c y : Str) (f g : FE) (τ : Ti) (st : Sto) : sFldD c y f g τ st = (g τ st).bind (kSfld1 c y f τ) := rfl
def kMeth (n : Nat) (r : Fn) (τ : Ti) (d : D) (ds : List D) (st : Sto) : R D := if ds.length + 1 = n then exAt τ (r (d :: ds) st) else .bad
def kMeth1 (c m : Str) (n : Nat) (r : Fn) (h : FA) (τ : Ti) (d : D) (st : Sto) : R D := match insOf st c d with
  | some fs => if fs.lookup m = none then (h τ st).bind (kMeth n r τ d) else .bad
  | none => .bad
@[simp] theorem fMethN_eq (c m : Str) (n : Nat) (r : Fn) (f : FE) (h : FA) (τ : Ti) (st : Sto) : fMethN c m n r f h τ st = (f τ st).bind (kMeth1 c m n r h τ) := rfl
@[simp] theorem fDnewK_eq (τ : Ti) (st : Sto) : fDnewK τ st = .ok (.obj st.length) (st ++ [.dic []]) := rfl
@[simp] theorem fDnewT_eq (τ : Ti) (st : Sto) : fDnewT τ st = .ok (.obj st.length) (st ++ [.dit []]) := rfl
/-! operators -/
theorem atI_nat {α : Type} (xs : List α) (i : Nat) : atI xs (i : Int) = xs[i]? := by
  unfold atI ixN
  rw [if_pos (Int.natCast_nonneg i)]
  by_cases h : i < xs.length
  · rw [if_pos (by omega)]; simp
  · rw [if_neg (by omega), List.getElem?_eq_none (by omega)]; rfl
@[simp] theorem atI_0 {α : Type} (x : α) (r : List α) : atI (x :: r) 0 = some x := atI_nat (x :: r) 0
@[simp] theorem atI_1 {α : Type} (x y : α) (r : List α) : atI (x :: y :: r) 1 = some y := atI_nat (x :: y :: r) 1
@[simp] theorem atI_2 {α : Type} (x y z : α) (r : List α) : atI (x :: y :: z :: r) 2 = some z := atI_nat (x :: y :: z :: r) 2
@[simp] theorem atI_3 {α : Type} (x y z u : α) (r : List α) : atI (x :: y :: z :: u :: r) 3 = some u := atI_nat (x :: y :: z :: u :: r) 3
@[simp] theorem atI_4 {α : Type} (x y z u v : α) (r : List α) : atI (x :: y :: z :: u :: v :: r) 4 = some v := atI_nat (x :: y :: z :: u :: v :: r) 4
theorem opIx_seq {d : D} {ds : List D} {st : Sto} (q : seqOf st d = some ds) (ns : ∀ z, d ≠ .str z) (i : Int) : opIx d (.int i) st = ofO (atI ds i) st := by
  unfold opIx
  split
  · rename_i z; exact absurd rfl (ns z)
  · rw [q]; unfold ofO; rfl
@[simp] theorem opIx_tup (ds : List D) (i : Int) (st : Sto) : opIx (.tup ds) (.int i) st = ofO (atI ds i) st := opIx_seq rfl (by intro z h; cases h) i
@[simp] theorem opIx_ktup (ds : List D) (i : Int) (st : Sto) : opIx (.ktup ds) (.int i) st = ofO (atI ds i) st := opIx_seq rfl (by intro z h; cases h) i
@[simp] theorem opIx_lv (ds : List D) (i : Int) (st : Sto) : opIx (.lv ds) (.int i) st = ofO (atI ds i) st := opIx_seq rfl (by intro z h; cases h) i
@[simp] theorem opIx_kl (ds : List D) (i : Int) (st : Sto) : opIx (.kl ds) (.int i) st = ofO (atI ds i) st := opIx_seq rfl (by intro z h; cases h) i
theorem opIx_obj {ds : List D} {k : Nat} {st : Sto} (q : st[k]? = some (.lst ds)) (i : Int) : opIx (.obj k) (.int i) st = ofO (atI ds i) st := opIx_seq (by simp only [seqOf, listOf, q]) (by intro z h; cases h) i
@[simp] theorem ofO_some (d : D) (st : Sto) : ofO (some d) st = .ok d st := rfl
@[simp] theorem ofO_none (st : Sto) : ofO none st = .bad := rfl
@[simp] theorem opEq_str (x y : Str) (st : Sto) : opEq (.str x) (.str y) st = .ok (.bl (decide (x = y))) st := rfl
@[simp] theorem opEq_int (x y : Int) (st : Sto) : opEq (.int x) (.int y) st = .ok (.bl (decide (x = y))) st := rfl
@[simp] theorem opEq_bl (x y : Bool) (st : Sto) : opEq (.bl x) (.bl y) st = .ok (.bl (decide (x = y))) st := rfl
@[simp] theorem opNe_str (x y : Str) (st : Sto) : opNe (.str x) (.str y) st = .ok (.bl (!decide (x = y))) st := rfl
@[simp] theorem opNe_int (x y : Int) (st : Sto) : opNe (.int x) (.int y) st = .ok (.bl (!decide (x = y))) st := rfl
@[simp] theorem opLt_int (x y : Int) (st : Sto) : opLt (.int x) (.int y) st = .ok (.bl (decide (x < y))) st := rfl
@[simp] theorem opLe_int (x y : Int) (st : Sto) : opLe (.int x) (.int y) st = .ok (.bl (decide (x ≤ y))) st := rfl
@[simp] theorem opGt_int (x y : Int) (st : Sto) : opGt (.int x) (.int y) st = .ok (.bl (decide (y < x))) st := rfl
@[simp] theorem opGe_int (x y : Int) (st : Sto) : opGe (.int x) (.int y) st = .ok (.bl (decide (y ≤ x))) st := rfl
@[simp] theorem opSub_int (x y : Int) (st : Sto) : opSub (.int x) (.int y) st = .ok (.int (x - y)) st := rfl
@[simp] theorem opAddA_int (x y : Int) (st : Sto) : opAddA (.int x) (.int y) st = .ok (.int (x + y)) st := rfl
@[simp] theorem oIsi2_tuple (d : D) (st : Sto) : oIsi2 [d, .ty "tuple"] st = oIsi "tuple" d st := rfl
@[simp] theorem oIsi_tup (ds : List D) (st : Sto) : oIsi "tuple" (.tup ds) st = .ok (.bl true) st := rfl
@[simp] theorem oIsi_ktup (ds : List D) (st : Sto) : oIsi "tuple" (.ktup ds) st = .ok (.bl true) st := rfl
@[simp] theorem oIsi_str (x : Str) (st : Sto) : oIsi "tuple" (.str x) st = .ok (.bl false) st := rfl
@[simp] theorem oIsi_int (x : Int) (st : Sto) : oIsi "tuple" (.int x) st = .ok (.bl false) st := rfl
@[simp] theorem oIsi_bl (x : Bool) (st : Sto) : oIsi "tuple" (.bl x) st = .ok (.bl false) st := rfl
@[simp] theorem oIsi_non (st : Sto) : oIsi "tuple" .non st = .ok (.bl false) st := rfl
@[simp] theorem oInt_int (i : Int) (st : Sto) : oInt [.int i] st = .ok (.int i) st := rfl
@[simp] theorem oInt_bl (k : Bool) (st : Sto) : oInt [.bl k] st = .ok (.int (if k then 1 else 0)) st := rfl
/-- a walk over a value that stays -/
def kForV (f : FE) (g : FG) (u : FS) (τ : Ti) (st : Sto) : R D → R Out := fun q => match q with
  | .ok (.tup ds) st1 => forD g u ds τ st1
  | .ok (.ktup ds) st1 => forD g u ds τ st1
  | .ok (.lv ds) st1 => forD g u ds τ st1
  | .ok (.kl ds) st1 => forD g u ds τ st1
  | _ => sForV f g u τ st
@[simp] theorem kForV_tup (f : FE) (g : FG) (u : FS) (τ : Ti) (st st1 : Sto) (ds : List D) : kForV f g u τ st (.ok (.tup ds) st1) = forD g u ds τ st1 := rfl
@[simp] theorem kForV_ktup (f : FE) (g : FG) (u : FS) (τ : Ti) (st st1 : Sto) (ds : List D) : kForV f g u τ st (.ok (.ktup ds) st1) = forD g u ds τ st1 := rfl
@[simp] theorem kForV_lv (f : FE) (g : FG) (u : FS) (τ : Ti) (st st1 : Sto) (ds : List D) : kForV f g u τ st (.ok (.lv ds) st1) = forD g u ds τ st1 := rfl
@[simp] theorem kForV_kl (f : FE) (g : FG) (u : FS) (τ : Ti) (st st1 : Sto) (ds : List D) : kForV f g u τ st (.ok (.kl ds) st1) = forD g u ds τ st1 := rfl
theorem sForV_eq (f : FE) (g : FG) (u : FS) (τ : Ti) (st : Sto) : sForV f g u τ st = kForV f g u τ st (f τ st) := by
  have key : ∀ {d : D} {st1 : Sto} {ds : List D}, f τ st = .ok d st1 → srcOf st1 d = some (.imm ds) → (∀ k, d ≠ .obj k) → sForV f g u τ st = forD g u ds τ st1 := fun {d st1 ds} e q no => by
    have nd : isDic f τ st = false := by
      unfold isDic; rw [e]
      cases d <;> first | rfl | exact absurd rfl (no _)
    unfold sForV
    rw [if_neg (by rw [nd]; decide)]
    show (iV f τ st).bind _ = _
    rw [show iV f τ st = .ok (.imm ds) st1 by unfold iV; rw [e]; simp only [R.bind]; rw [q]]
    rfl
  cases e : f τ st with
  | ok d st1 =>
    cases d with
    | tup ds => exact key e rfl (fun _ z => by cases z)
    | ktup ds => exact key e rfl (fun _ z => by cases z)
    | lv ds => exact key e rfl (fun _ z => by cases z)
    | kl ds => exact key e rfl (fun _ z => by cases z)
    | _ => rfl
  | ex c fs τ' st' => rfl
  | bad => rfl
/-- a comprehension, item by item, where nothing changes -/
theorem lcD_list {β : Type} {g : FG} {t : FB} {e : FE} {τ : Ti} {fin : List D → Sto → R β} {st : Sto} : ∀ {ps : List (D × D)} {acc : List D}, (∀ p, p ∈ ps → lcOne g t e τ p.1 st = .ok (some p.2) st) → acc.length + ps.length ≤ sizeLine →
    lcD g t e τ fin (ps.map (·.1)) acc st = fin (acc ++ ps.map (·.2)) st
  | [], acc, _, _ => by rw [List.map_nil, lcD_nil]; simp
  | p :: ps, acc, h, hl => by
    simp only [List.length_cons] at hl
    rw [List.map_cons, lcD_cons, h p List.mem_cons_self, bind_ok]
    show (if acc.length < sizeLine then lcD g t e τ fin (ps.map (·.1)) (acc ++ [p.2]) st else .bad) = _
    rw [if_pos (by omega), lcD_list (fun x hx => h x (List.mem_cons_of_mem _ hx)) (by simp; omega)]
    simp
@[simp] theorem oTup_lv (ds : List D) (st : Sto) : oTup (.lv ds) st = .ok (.tup ds) st := rfl
@[simp] theorem oTup_tup (ds : List D) (st : Sto) : oTup (.tup ds) st = .ok (.tup ds) st := rfl
theorem small_le {n : Nat} (h : n ≤ 16777216) : n ≤ sizeLine := by rw [sizeLine_eq]; exact h
end DL
set_option Elab.async false
set_option linter.all false
set_option maxRecDepth 100000
set_option maxHeartbeats 4000000
namespace DL
open PySem PySem.Spec PyProof.Rows L2
/-! the expressions of the small language, as trees -/
inductive Ex where
  | name (x : Str) | num (n : Int) | tru (b : Bool) | emp
  | fn (x : Str) (b : Ex) | rc (f x : Str) (b : Ex) | call (a b : Ex) | lt (x : Str) (a b : Ex) | ite (a b c : Ex)
  | op (o : Str) (a b : Ex) | ext (l : Str) (a b : Ex) | sel (l : Str) (a : Ex) | drp (l : Str) (a : Ex)
namespace Ex
def enc : Ex → D
  | name x => .tup [.str "name", .str x]
  | num n => .tup [.str "number", .int n]
  | tru b => .tup [.str "truth", .bl b]
  | emp => .tup [.str "empty"]
  | fn x b => .tup [.str "fun", .str x, enc b]
  | rc f x b => .tup [.str "rec", .str f, .str x, enc b]
  | call a b => .tup [.str "call", enc a, enc b]
  | lt x a b => .tup [.str "let", .str x, enc a, enc b]
  | ite a b c => .tup [.str "if", enc a, enc b, enc c]
  | op o a b => .tup [.str "op", .str o, enc a, enc b]
  | ext l a b => .tup [.str "extend", .str l, enc a, enc b]
  | sel l a => .tup [.str "select", .str l, enc a]
  | drp l a => .tup [.str "drop", .str l, enc a]
def size : Ex → Nat
  | name _ => 1 | num _ => 1 | tru _ => 1 | emp => 1
  | fn _ b => size b + 1 | rc _ _ b => size b + 1 | call a b => size a + size b + 1 | lt _ a b => size a + size b + 1 | ite a b c => size a + size b + size c + 1
  | op _ a b => size a + size b + 1 | ext _ a b => size a + size b + 1 | sel _ a => size a + 1 | drp _ a => size a + 1
/-- the longest way down -/
def high : Ex → Nat
  | name _ => 1 | num _ => 1 | tru _ => 1 | emp => 1
  | fn _ b => high b + 1 | rc _ _ b => high b + 1 | call a b => max (high a) (high b) + 1 | lt _ a b => max (high a) (high b) + 1 | ite a b c => max (max (high a) (high b)) (high c) + 1
  | op _ a b => max (high a) (high b) + 1 | ext _ a b => max (high a) (high b) + 1 | sel _ a => high a + 1 | drp _ a => high a + 1
def kids : Ex → List Ex
  | name _ => [] | num _ => [] | tru _ => [] | emp => []
  | fn _ b => [b] | rc _ _ b => [b] | call a b => [a, b] | lt _ a b => [a, b] | ite a b c => [a, b, c]
  | op _ a b => [a, b] | ext _ a b => [a, b] | sel _ a => [a] | drp _ a => [a]
def shortS (x : Str) : Prop := x.cps.size ≤ 16 ∧ (x.cps.toList.all fun c => decide (c < 16 ^ 8)) = true
def shortI (n : Int) : Prop := n.natAbs < 10 ^ 12
/-- its words are short -/
def Good : Ex → Prop
  | name x => shortS x | num n => shortI n | tru _ => True | emp => True
  | fn x b => shortS x ∧ Good b | rc f x b => shortS f ∧ shortS x ∧ Good b | call a b => Good a ∧ Good b | lt x a b => shortS x ∧ Good a ∧ Good b | ite a b c => Good a ∧ Good b ∧ Good c
  | op o a b => shortS o ∧ Good a ∧ Good b | ext l a b => shortS l ∧ Good a ∧ Good b | sel l a => shortS l ∧ Good a | drp l a => shortS l ∧ Good a
theorem high_le : ∀ e : Ex, high e ≤ size e := by
  intro e
  induction e <;> simp only [high, size] <;> omega
theorem size_pos : ∀ e : Ex, 1 ≤ size e := by intro e; cases e <;> simp only [size] <;> omega
def py : Ex → PyData
  | name x => .tuple [.str "name", .str x]
  | num n => .tuple [.str "number", .int n]
  | tru b => .tuple [.str "truth", .bool b]
  | emp => .tuple [.str "empty"]
  | fn x b => .tuple [.str "fun", .str x, py b]
  | rc f x b => .tuple [.str "rec", .str f, .str x, py b]
  | call a b => .tuple [.str "call", py a, py b]
  | lt x a b => .tuple [.str "let", .str x, py a, py b]
  | ite a b c => .tuple [.str "if", py a, py b, py c]
  | op o a b => .tuple [.str "op", .str o, py a, py b]
  | ext l a b => .tuple [.str "extend", .str l, py a, py b]
  | sel l a => .tuple [.str "select", .str l, py a]
  | drp l a => .tuple [.str "drop", .str l, py a]
theorem toPy_enc : ∀ e : Ex, toPy (enc e) = some (py e) := by
  intro e
  induction e <;> simp only [enc, py, toPy, toPys, Option.map] <;> simp_all
theorem enc_seq (e : Ex) : ∃ ds, enc e = .tup ds := by cases e <;> exact ⟨_, rfl⟩
theorem toPyS_enc (e : Ex) (st : Sto) : toPyS st (enc e) = some (py e) := by
  obtain ⟨ds, h⟩ := enc_seq e
  have := toPy_enc e
  rw [h] at this ⊢
  exact this
/-- data that may be told -/
structure Fine (p : PyData) (h w : Nat) : Prop where
  sh : p.showable = true
  nd : p.hasDict = false
  ls : p.leavesShort 13 = true
  dp : p.depth ≤ h
  wt : p.weight ≤ w
structure FineAll (ps : List PyData) (h w : Nat) : Prop where
  sh : PyData.showableAll ps = true
  nd : PyData.hasDictAll ps = false
  ls : PyData.leavesShortAll 13 ps = true
  dp : PyData.depthAll ps ≤ h
  wt : PyData.weightAll ps ≤ w
theorem FineAll.nil {h : Nat} : FineAll [] h 0 := ⟨rfl, rfl, rfl, Nat.zero_le _, Nat.zero_le _⟩
theorem FineAll.cons {p : PyData} {ps : List PyData} {h w w' : Nat} (a : Fine p h w) (b : FineAll ps h w') : FineAll (p :: ps) h (w + 1 + w') :=
  ⟨by simp only [PyData.showableAll, a.sh, b.sh, Bool.and_true], by simp only [PyData.hasDictAll, a.nd, b.nd, Bool.or_false], by simp only [PyData.leavesShortAll, a.ls, b.ls, Bool.and_true],
    by simp only [PyData.depthAll]; exact Nat.max_le.mpr ⟨a.dp, b.dp⟩, by simp only [PyData.weightAll]; have := a.wt; have := b.wt; omega⟩
theorem FineAll.tup {ps : List PyData} {h w : Nat} (a : FineAll ps h w) : Fine (.tuple ps) (h + 1) w :=
  ⟨by simp only [PyData.showable]; exact a.sh, by simp only [PyData.hasDict]; exact a.nd, by simp only [PyData.leavesShort]; exact a.ls, by simp only [PyData.depth]; have := a.dp; omega, by simp only [PyData.weight]; exact a.wt⟩
theorem FineAll.lst {ps : List PyData} {h w : Nat} (a : FineAll ps h w) : Fine (.list ps) (h + 1) w :=
  ⟨by simp only [PyData.showable]; exact a.sh, by simp only [PyData.hasDict]; exact a.nd, by simp only [PyData.leavesShort]; exact a.ls, by simp only [PyData.depth]; have := a.dp; omega, by simp only [PyData.weight]; exact a.wt⟩
theorem Fine.str {x : Str} {h : Nat} (s : shortS x) : Fine (.str x) h 16 :=
  ⟨rfl, rfl, by simp only [PyData.leavesShort]; exact s.2, by simp only [PyData.depth]; exact Nat.zero_le _, by simp only [PyData.weight]; exact s.1⟩
theorem Fine.int {n : Int} {h : Nat} (s : shortI n) : Fine (.int n) h 64 := by
  have hl : n.natAbs.log2 < 63 := by
    by_cases z : n.natAbs = 0
    · rw [z]; decide
    · exact (Nat.log2_lt z).mpr (Nat.lt_trans s (by decide))
  refine ⟨?_, rfl, ?_, ?_, ?_⟩
  · simp only [PyData.showable, decide_eq_true_eq]; omega
  · simp only [PyData.leavesShort, decide_eq_true_eq]; exact PyData.shown_int_le s
  · simp only [PyData.depth]; exact Nat.zero_le _
  · simp only [PyData.weight]; split <;> omega
theorem Fine.bool {b : Bool} {h : Nat} : Fine (.bool b) h 0 := ⟨rfl, rfl, rfl, by simp only [PyData.depth]; exact Nat.zero_le _, by simp only [PyData.weight]; exact Nat.le_refl _⟩
theorem Fine.mono {p : PyData} {h h' w w' : Nat} (a : Fine p h w) (i : h ≤ h') (j : w ≤ w') : Fine p h' w' := ⟨a.sh, a.nd, a.ls, Nat.le_trans a.dp i, Nat.le_trans a.wt j⟩
/-- what repr tells of it -/
theorem Fine.repr {d : D} {st : Sto} {p : PyData} {h w : Nat} (a : Fine p h w) (e : toPyS st d = some p) (q : (seqOf st d).isSome = true) (hh : h ≤ 63) (hw : w ≤ 2 ^ 20) : oRepr [d] st = .ok (.str p.shown) st := by
  unfold oRepr
  simp only [e]
  exact if_pos ⟨a.sh, a.nd, Nat.le_trans a.dp hh, PyData.shown_fits (by decide) (by decide) a.ls (Nat.le_trans a.wt hw), q⟩
theorem wS {x : Str} (h : shortS x := by exact ⟨by decide, by decide⟩) : shortS x := h
theorem fine_py : ∀ e : Ex, Good e → Fine (py e) (high e + 1) (128 * size e) := by
  intro e
  induction e with
  | name x => intro g; exact ((FineAll.cons (Fine.str wS) (FineAll.cons (Fine.str g) (FineAll.nil (h := 0)))).tup).mono (by simp only [high]; omega) (by simp only [size]; omega)
  | num n => intro g; exact ((FineAll.cons (Fine.str wS) (FineAll.cons (Fine.int g) (FineAll.nil (h := 0)))).tup).mono (by simp only [high]; omega) (by simp only [size]; omega)
  | tru b => intro g; exact ((FineAll.cons (Fine.str wS) (FineAll.cons Fine.bool (FineAll.nil (h := 0)))).tup).mono (by simp only [high]; omega) (by simp only [size]; omega)
  | emp => intro g; exact ((FineAll.cons (Fine.str wS) (FineAll.nil (h := 0))).tup).mono (by simp only [high]; omega) (by simp only [size]; omega)
  | fn x b ib => intro g; exact ((FineAll.cons (Fine.str wS) (FineAll.cons (Fine.str g.1) (FineAll.cons (ib g.2) FineAll.nil))).tup).mono (by simp only [high]; omega) (by simp only [size]; omega)
  | rc f x b ib => intro g; exact ((FineAll.cons (Fine.str wS) (FineAll.cons (Fine.str g.1) (FineAll.cons (Fine.str g.2.1) (FineAll.cons (ib g.2.2) FineAll.nil)))).tup).mono (by simp only [high]; omega) (by simp only [size]; omega)
  | call a b ia ib => intro g; exact ((FineAll.cons (Fine.str wS) (FineAll.cons ((ia g.1).mono (h' := max (high a) (high b) + 1) (by omega) (Nat.le_refl _)) (FineAll.cons ((ib g.2).mono (by omega) (Nat.le_refl _)) FineAll.nil))).tup).mono (by simp only [high]; omega) (by simp only [size]; omega)
  | lt x a b ia ib => intro g; exact ((FineAll.cons (Fine.str wS) (FineAll.cons (Fine.str g.1) (FineAll.cons ((ia g.2.1).mono (h' := max (high a) (high b) + 1) (by omega) (Nat.le_refl _)) (FineAll.cons ((ib g.2.2).mono (by omega) (Nat.le_refl _)) FineAll.nil)))).tup).mono (by simp only [high]; omega) (by simp only [size]; omega)
  | ite a b c ia ib ic => intro g; exact ((FineAll.cons (Fine.str wS) (FineAll.cons ((ia g.1).mono (h' := max (max (high a) (high b)) (high c) + 1) (by omega) (Nat.le_refl _)) (FineAll.cons ((ib g.2.1).mono (by omega) (Nat.le_refl _)) (FineAll.cons ((ic g.2.2).mono (by omega) (Nat.le_refl _)) FineAll.nil)))).tup).mono (by simp only [high]; omega) (by simp only [size]; omega)
  | op x a b ia ib => intro g; exact ((FineAll.cons (Fine.str wS) (FineAll.cons (Fine.str g.1) (FineAll.cons ((ia g.2.1).mono (h' := max (high a) (high b) + 1) (by omega) (Nat.le_refl _)) (FineAll.cons ((ib g.2.2).mono (by omega) (Nat.le_refl _)) FineAll.nil)))).tup).mono (by simp only [high]; omega) (by simp only [size]; omega)
  | ext x a b ia ib => intro g; exact ((FineAll.cons (Fine.str wS) (FineAll.cons (Fine.str g.1) (FineAll.cons ((ia g.2.1).mono (h' := max (high a) (high b) + 1) (by omega) (Nat.le_refl _)) (FineAll.cons ((ib g.2.2).mono (by omega) (Nat.le_refl _)) FineAll.nil)))).tup).mono (by simp only [high]; omega) (by simp only [size]; omega)
  | sel x b ib => intro g; exact ((FineAll.cons (Fine.str wS) (FineAll.cons (Fine.str g.1) (FineAll.cons (ib g.2) FineAll.nil))).tup).mono (by simp only [high]; omega) (by simp only [size]; omega)
  | drp x b ib => intro g; exact ((FineAll.cons (Fine.str wS) (FineAll.cons (Fine.str g.1) (FineAll.cons (ib g.2) FineAll.nil))).tup).mono (by simp only [high]; omega) (by simp only [size]; omega)
theorem repr_enc {e : Ex} (g : Good e) (hh : high e ≤ 62) (hw : size e ≤ 8192) (st : Sto) : oRepr [enc e] st = .ok (.str (py e).shown) st := by
  obtain ⟨ds, q⟩ := enc_seq e
  exact (fine_py e g).repr (toPyS_enc e st) (by rw [q]; rfl) (by omega) (by omega)
end Ex
end DL
set_option Elab.async false
set_option linter.all false
set_option maxRecDepth 100000
set_option maxHeartbeats 4000000
namespace DL
open PySem PySem.Spec PyProof.Rows L2
/-! more evaluation: lists of texts, loops, the draws that all laws begin with -/
theorem flDs_strs : ∀ xs : List Str, flDs (xs.map D.str) = some (xs.map V.str)
  | [] => rfl
  | x :: xs => by simp only [List.map_cons, flDs, flD, flDs_strs xs]
theorem inV_strs (x : Str) : ∀ xs : List Str, inV (.str x) (xs.map V.str) = decide (x ∈ xs)
  | [] => by simp [inV]
  | y :: xs => by
    have ih := inV_strs x xs
    unfold inV at ih ⊢
    rw [List.map_cons, List.any_cons, ih]
    have e : eqV (V.str y) (V.str x) = decide (x = y) := by
      show (y == x) = decide (x = y)
      by_cases h : x = y
      · subst h; simp
      · rw [decide_eq_false h]; exact beq_eq_false_iff_ne.mpr (fun e => h e.symm)
    rw [e]
    by_cases h : x = y <;> simp [h]
theorem memD_strs {st : Sto} {d : D} {xs : List Str} (h : seqOf st d = some (xs.map D.str)) (ns : ∀ z, d ≠ .str z) (x : Str) : memD st (.str x) d = some (decide (x ∈ xs)) := by
  unfold memD
  split
  · rename_i z; exact absurd rfl (ns z)
  · rw [h]
    simp only [flD, flDs_strs, inV_strs]
theorem opIn_strs {st : Sto} {d : D} {xs : List Str} (h : seqOf st d = some (xs.map D.str)) (ns : ∀ z, d ≠ .str z) (x : Str) : opIn (.str x) d st = .ok (.bl (decide (x ∈ xs))) st := by
  unfold opIn; rw [memD_strs h ns]; rfl
theorem opNotIn_strs {st : Sto} {d : D} {xs : List Str} (h : seqOf st d = some (xs.map D.str)) (ns : ∀ z, d ≠ .str z) (x : Str) : opNotIn (.str x) d st = .ok (.bl (!decide (x ∈ xs))) st := by
  unfold opNotIn; rw [memD_strs h ns]; rfl
theorem opIn_lv (st : Sto) (xs : List Str) (x : Str) : opIn (.str x) (.lv (xs.map D.str)) st = .ok (.bl (decide (x ∈ xs))) st := opIn_strs rfl (by intro z h; cases h) x
theorem opNotIn_lv (st : Sto) (xs : List Str) (x : Str) : opNotIn (.str x) (.lv (xs.map D.str)) st = .ok (.bl (!decide (x ∈ xs))) st := opNotIn_strs rfl (by intro z h; cases h) x
@[simp] theorem opIn_tup2 (st : Sto) (x a b : Str) : opIn (.str x) (.tup [.str a, .str b]) st = .ok (.bl (decide (x = a ∨ x = b))) st := by
  have := opIn_strs (st := st) (d := .tup [.str a, .str b]) (xs := [a, b]) rfl (by intro z h; cases h) x
  rw [this]; simp
@[simp] theorem opSl_tup (ds : List D) (l u : Option Int) (st : Sto) : opSl (.tup ds) l u st = .ok (.tup (cutD ds l u)) st := rfl
@[simp] theorem opSl_lv (ds : List D) (l u : Option Int) (st : Sto) : opSl (.lv ds) l u st = .ok (.lv (cutD ds l u)) st := rfl
theorem cutD_from (ds : List D) (k : Nat) : cutD ds (some (k : Int)) none = ds.drop k := by
  unfold cutD
  rw [HT.sIx_nat, HT.sIx_none]
  by_cases h : k ≤ ds.length
  · rw [Nat.min_eq_left h]; exact List.take_of_length_le (by simp)
  · rw [Nat.min_eq_right (by omega), List.drop_of_length_le (Nat.le_refl _), List.drop_of_length_le (by omega)]; simp
@[simp] theorem cutD_1 (ds : List D) : cutD ds (some 1) none = ds.drop 1 := cutD_from ds 1
@[simp] theorem cutD_2 (ds : List D) : cutD ds (some 2) none = ds.drop 2 := cutD_from ds 2
@[simp] theorem cutD_3 (ds : List D) : cutD ds (some 3) none = ds.drop 3 := cutD_from ds 3
@[simp] theorem cutD_13 (a b c d : D) : cutD [a, b, c, d] (some 1) (some 3) = [b, c] := rfl
@[simp] theorem cutD_12_2 (a b : D) : cutD [a, b] (some 1) (some 2) = [b] := rfl
@[simp] theorem cutD_12 (a b c d : D) : cutD [a, b, c, d] (some 1) (some 2) = [b] := rfl
theorem opAddA_tup {ds es : List D} (h : ds.length + es.length ≤ sizeLine) (st : Sto) : opAddA (.tup ds) (.tup es) st = .ok (.tup (ds ++ es)) st := by
  have e : opAddA (.tup ds) (.tup es) st = opAdd (.tup ds) (.tup es) st := rfl
  rw [e]
  exact if_pos h
theorem opAddA_lv {ds es : List D} (h : ds.length + es.length ≤ sizeLine) (st : Sto) : opAddA (.lv ds) (.lv es) st = .ok (.lv (ds ++ es)) st := if_pos h
theorem opMul_r {i j : Int} (h : -(2 ^ 64) < j ∧ j < 2 ^ 64) (st : Sto) : opMul (.int i) (.int j) st = .ok (.int (i * j)) st := if_pos (.inr h)
theorem opMul_l {i j : Int} (h : -(2 ^ 64) < i ∧ i < 2 ^ 64) (st : Sto) : opMul (.int i) (.int j) st = .ok (.int (i * j)) st := if_pos (.inl h)
theorem opMod_pos {i j : Int} (h : 0 < j) (st : Sto) : opMod (.int i) (.int j) st = .ok (.int (i % j)) st := if_pos h
theorem opDiv_pos {i j : Int} (h : 0 < j ∧ j < 1073741824) (st : Sto) : opDiv (.int i) (.int j) st = .ok (.int (i / j)) st := if_pos h
/-- a loop that keeps P -/
theorem forD_inv {g : FG} {u : FS} {P : Ti → Sto → Prop} : ∀ (ds : List D) (τ : Ti) (st : Sto), P τ st →
    (∀ d, d ∈ ds → ∀ τ st, P τ st → ∃ τ1 st1 τ2 st2, g d τ st = .ok τ1 st1 ∧ u τ1 st1 = .ok (.nx τ2) st2 ∧ P τ2 st2) → ∃ τ' st', forD g u ds τ st = .ok (.nx τ') st' ∧ P τ' st'
  | [], τ, st, h, _ => ⟨τ, st, rfl, h⟩
  | d :: ds, τ, st, h, step => by
    obtain ⟨τ1, st1, τ2, st2, h1, h2, h3⟩ := step d List.mem_cons_self τ st h
    obtain ⟨τ', st', h4, h5⟩ := forD_inv ds τ2 st2 h3 fun x hx => step x (List.mem_cons_of_mem _ hx)
    exact ⟨τ', st', by rw [forD_cons, h1, bind_ok, kTurn1_eq, h2, bind_ok, kTurn2_nx, h4], h5⟩
/-! the draws -/
def uDraw : FS :=
  (sSeq (sSet 2 (fOp opIx (fV 0) (fC (.int 1))))
  (sSeq (sAsg (fOp opAddA (fV 2) (fC (.int 1))) (gSubD (fV 0) (fC (.int 1))))
  (sSeq (sIf (bOf (fOp opLt (fV 2) (fB oLen (aCons (fOp opIx (fV 0) (fC (.int 0))) aNil))))
  (sRet (fOp opMod (fB oInt (aCons (fOp opIx (fOp opIx (fV 0) (fC (.int 0))) (fV 2)) aNil)) (fV 1)))
  sNil)
  (sRet (fOp opMod (fB oInt (aCons (fOp opAddA (fOp opMul (fV 2) (fC (.int 7))) (fC (.int 3))) aNil)) (fV 1))))))
/-- the box stands at b -/
structure Box (st : Sto) (b : Nat) : Prop where
  ex : ∃ (g at_ : Nat) (ns : List Int), g ≠ b ∧ st[b]? = some (.lst [.obj g, .int (at_ : Nat)]) ∧ st[g]? = some (.lst (ns.map D.int))
theorem oLen_obj {st : Sto} {g : Nat} {xs : List D} (h : st[g]? = some (.lst xs)) : oLen [.obj g] st = .ok (.int (xs.length : Nat)) st := by
  simp only [oLen, lenD, h]
theorem putItem_lst {st : Sto} {k : Nat} {xs : List D} (h : st[k]? = some (.lst xs)) {j m : Nat} (hj : j < xs.length) (d : D) : putItem (.obj k) (.int (j : Nat)) d st = .ok () (st.set k (.lst (xs.set j d))) := by
  have e : ixN xs.length ((j : Nat) : Int) = some j := by
    unfold ixN
    rw [if_pos (Int.natCast_nonneg j), if_pos (by omega)]; simp
  simp only [putItem, h, e]
theorem draw_in {st st1 : Sto} {b g a : Nat} {ns : List Int} {m : Int} (hm : 0 < m) (hb : st[b]? = some (.lst [.obj g, .int (a : Nat)])) (p1 : putItem (.obj b) (.int 1) (.int ((a : Int) + 1)) st = .ok () st1) (q1 : st1[b]? = some (.lst [.obj g, .int ((a : Int) + 1)]))
    (q2 : st1[g]? = some (.lst (ns.map D.int))) (z : a < ns.length) (hat : atI (ns.map D.int) (a : Int) = some (.int ns[a])) : runB uDraw 3 [.obj b, .int m] st = .ok (.int (ns[a] % m)) st1 := by
  simp -implicitDefEqProofs [runB_eq, uDraw, List.replicate, opIx_obj hb, p1, opIx_obj q1, oLen_obj q2, opIx_obj q2, z, hat, opMod_pos hm]
theorem draw_out {st st1 : Sto} {b g a : Nat} {ns : List Int} {m : Int} (hm : 0 < m) (hb : st[b]? = some (.lst [.obj g, .int (a : Nat)])) (p1 : putItem (.obj b) (.int 1) (.int ((a : Int) + 1)) st = .ok () st1) (q1 : st1[b]? = some (.lst [.obj g, .int ((a : Int) + 1)]))
    (q2 : st1[g]? = some (.lst (ns.map D.int))) (z : ¬ a < ns.length) : runB uDraw 3 [.obj b, .int m] st = .ok (.int (((a : Int) * 7 + 3) % m)) st1 := by
  have mu : ∀ st : Sto, opMul (.int (a : Int)) (.int 7) st = .ok (.int ((a : Int) * 7)) st := fun st => opMul_r (by decide) st
  simp -implicitDefEqProofs [runB_eq, uDraw, List.replicate, opIx_obj hb, p1, opIx_obj q1, oLen_obj q2, opIx_obj q2, z, opMod_pos hm, mu]
theorem draw_ok {st : Sto} {b : Nat} (B : Box st b) {m : Int} (hm : 0 < m) : ∃ r st', runB uDraw 3 [.obj b, .int m] st = .ok (.int r) st' ∧ 0 ≤ r ∧ r < m ∧ Box st' b ∧ st'.length = st.length ∧ ∀ i, i ≠ b → st'[i]? = st[i]? := by
  obtain ⟨g, a, ns, ne, hb, hg⟩ := B.ex
  have hbl := (List.getElem?_eq_some_iff.mp hb).1
  have p1 : putItem (.obj b) (.int 1) (.int ((a : Int) + 1)) st = .ok () (st.set b (.lst [.obj g, .int ((a : Int) + 1)])) := by
    have := putItem_lst (st := st) (k := b) hb (j := 1) (m := 0) (by simp) (.int ((a : Int) + 1))
    simpa using this
  have q1 : (st.set b (.lst [.obj g, .int ((a : Int) + 1)]))[b]? = some (.lst [.obj g, .int ((a : Int) + 1)]) := List.getElem?_set_self hbl
  have q2 : (st.set b (.lst [.obj g, .int ((a : Int) + 1)]))[g]? = some (.lst (ns.map D.int)) := by rw [List.getElem?_set_ne (Ne.symm ne)]; exact hg
  have B2 : Box (st.set b (.lst [.obj g, .int ((a : Int) + 1)])) b := ⟨g, a + 1, ns, ne, by rw [q1]; simp, q2⟩
  have keep : ∀ i, i ≠ b → (st.set b (.lst [.obj g, .int ((a : Int) + 1)]))[i]? = st[i]? := fun i hi => List.getElem?_set_ne (Ne.symm hi)
  have ln : (st.set b (.lst [.obj g, .int ((a : Int) + 1)])).length = st.length := List.length_set
  by_cases z : a < ns.length
  · have hat : atI (ns.map D.int) (a : Int) = some (.int ns[a]) := by rw [atI_nat, List.getElem?_map, List.getElem?_eq_getElem z]; rfl
    exact ⟨ns[a] % m, _, draw_in hm hb p1 q1 q2 z hat, Int.emod_nonneg _ (by omega), Int.emod_lt_of_pos _ hm, B2, ln, keep⟩
  · exact ⟨((a : Int) * 7 + 3) % m, _, draw_out hm hb p1 q1 q2 z, Int.emod_nonneg _ (by omega), Int.emod_lt_of_pos _ hm, B2, ln, keep⟩
/-! the digits: FC is the cell's def -/
def uCell : FS :=
  (sSeq (sIf (bOf (fOp opLt (fV 1) (fB oLen (aCons (fV 0) aNil))))
  (sRet (fOp opIx (fV 0) (fV 1)))
  sNil)
  (sRet (fC (.int 0))))
def uDigits (FC : Fn) : FS :=
  (sSeq (sSet 3 (fLst aNil))
  (sSeq (sFor (iRng2D (fV 1) (fV 2)) (gN 4)
  (sSeq (sSet 5 (fCallN 2 FC (aCons (fV 0) (aCons (fV 4) aNil))))
  (sSeq (sIf (bOf (fOp opLt (fV 5) (fC (.int 0))))
  (sSet 5 (fOp opSub (fC (.int 1)) (fOp opMul (fC (.int 2)) (fV 5))))
  sNil)
  (sIf (bOf (fOp opGe (fV 5) (fOp opPow (fC (.int 10)) (fC (.int 18)))))
  (sFor (iRng1D (fC (.int 60))) (gN 6)
  (sIf (bOf (fOp opGt (fV 5) (fC (.int 0))))
  (sSeq (sExp (fMt oAppend (fV 3) (aCons (fOp opMod (fB oInt (aCons (fV 5) aNil)) (fC (.int 1000))) aNil)))
  (sSet 5 (fOp opDiv (fV 5) (fC (.int 1000)))))
  sNil))
  (sSeq (sSet 7 (fOp opMod (fB oInt (aCons (fOp opAddA (fOp opAddA (fOp opMul (fV 5) (fC (.int 48271))) (fOp opMul (fV 4) (fC (.int 69621)))) (fC (.int 11))) aNil)) (fC (.int 2147483647))))
  (sFor (iRng1D (fC (.int 12))) (gN 6)
  (sSeq (sSet 7 (fOp opMod (fB oInt (aCons (fOp opAddA (fOp opAddA (fOp opMul (fV 7) (fC (.int 16807))) (fOp opMul (fC (.int 7)) (fV 6))) (fC (.int 1))) aNil)) (fC (.int 2147483647))))
  (sExp (fMt oAppend (fV 3) (aCons (fOp opMod (fB oInt (aCons (fOp opDiv (fV 7) (fC (.int 997))) aNil)) (fC (.int 1000))) aNil))))))))))
  (sRet (fV 3))))
/-- a loop, its turns counted -/
theorem forD_cnt {g : FG} {u : FS} {P : Nat → Ti → Sto → Prop} (T : Nat) : ∀ (ds : List D) (i : Nat) (τ : Ti) (st : Sto), i + ds.length ≤ T → P i τ st →
    (∀ i d, i < T → d ∈ ds → ∀ τ st, P i τ st → ∃ τ1 st1 τ2 st2, g d τ st = .ok τ1 st1 ∧ u τ1 st1 = .ok (.nx τ2) st2 ∧ P (i + 1) τ2 st2) → ∃ τ' st', forD g u ds τ st = .ok (.nx τ') st' ∧ P (i + ds.length) τ' st'
  | [], i, τ, st, _, h, _ => ⟨τ, st, rfl, h⟩
  | d :: ds, i, τ, st, hT, h, step => by
    rw [List.length_cons] at hT
    obtain ⟨τ1, st1, τ2, st2, h1, h2, h3⟩ := step i d (by omega) List.mem_cons_self τ st h
    obtain ⟨τ', st', h4, h5⟩ := forD_cnt T ds (i + 1) τ2 st2 (by omega) h3 fun j x hj hx => step j x hj (List.mem_cons_of_mem _ hx)
    exact ⟨τ', st', by rw [forD_cons, h1, bind_ok, kTurn1_eq, h2, bind_ok, kTurn2_nx, h4], by rw [List.length_cons, show i + (ds.length + 1) = i + 1 + ds.length by omega]; exact h5⟩
theorem runD_len (lo : Int) (n : Nat) : (runD lo n).length = n := by simp [runD]
theorem runD_mem {lo : Int} {n : Nat} {d : D} (h : d ∈ runD lo n) : ∃ i : Nat, i < n ∧ d = .int (lo + (i : Nat)) := by
  simp only [runD, List.mem_map, List.mem_range] at h
  obtain ⟨i, hi, rfl⟩ := h
  exact ⟨i, hi, rfl⟩
theorem get_last (st : Sto) (m : MO) : (st ++ [m])[st.length]? = some m := by simp
theorem set_last (st : Sto) (m m' : MO) : (st ++ [m]).set st.length m' = st ++ [m'] := by simp
theorem oAppend_last {st : Sto} {xs : List D} (h : xs.length < sizeLine) (d : D) : oAppend (.obj st.length) [d] (st ++ [.lst xs]) = .ok .non (st ++ [.lst (xs ++ [d])]) := by
  simp only [oAppend, get_last]
  rw [if_pos h, set_last]
theorem opPow_18 (st : Sto) : opPow (.int 10) (.int 18) st = .ok (.int 1000000000000000000) st := by
  unfold opPow
  exact if_pos ⟨by decide, by decide, by decide⟩
section
variable {st0 : Sto} {sc lo hi : D}
/-- the digits' list stands last; o: the four slots behind -/
def DigS (st0 : Sto) (sc lo hi : D) (n : Nat) (c5 c7 : Option D → Prop) (τ : Ti) (st : Sto) : Prop :=
  ∃ (o4 o5 o6 o7 : Option D) (acc : List Int), τ = [some sc, some lo, some hi, some (.obj st0.length), o4, o5, o6, o7] ∧ st = st0 ++ [.lst (acc.map D.int)] ∧ acc.length ≤ n ∧ c5 o5 ∧ c7 o7
abbrev b60 : FS := sIf (bOf (fOp opGt (fV 5) (fC (.int 0))))
  (sSeq (sExp (fMt oAppend (fV 3) (aCons (fOp opMod (fB oInt (aCons (fV 5) aNil)) (fC (.int 1000))) aNil)))
  (sSet 5 (fOp opDiv (fV 5) (fC (.int 1000)))))
  sNil
theorem loop60 {n : Nat} (hn : n + 60 ≤ sizeLine) {τ : Ti} {st : Sto} (h : DigS st0 sc lo hi n (fun o => ∃ c : Int, o = some (.int c)) (fun _ => True) τ st) :
    ∃ τ' st', forD (gN 6) b60 (runD 0 60) τ st = .ok (.nx τ') st' ∧ DigS st0 sc lo hi (n + 60) (fun o => ∃ c : Int, o = some (.int c)) (fun _ => True) τ' st' := by
  obtain ⟨τ', st', h1, h2⟩ := forD_cnt (P := fun i => DigS st0 sc lo hi (n + i) (fun o => ∃ c : Int, o = some (.int c)) (fun _ => True)) (g := gN 6) (u := b60) 60 (runD 0 60) 0 τ st (by rw [runD_len]; omega) h (by
    intro i d hi' hd τ st hp
    obtain ⟨o4, o5, o6, o7, acc, rfl, rfl, hl, ⟨c, rfl⟩, _⟩ := hp
    have hm : ∀ st : Sto, opMod (.int c) (.int 1000) st = .ok (.int (c % 1000)) st := fun st => opMod_pos (by decide) st
    have hv : ∀ st : Sto, opDiv (.int c) (.int 1000) st = .ok (.int (c / 1000)) st := fun st => opDiv_pos (by decide) st
    have ha := oAppend_last (st := st0) (xs := acc.map D.int) (by rw [List.length_map]; omega) (.int (c % 1000))
    have hk := fun r h τ => kMt1_eq (get_last st0 (.lst (acc.map D.int))) r h τ
    by_cases z : 0 < c
    · refine ⟨_, _, [some sc, some lo, some hi, some (.obj st0.length), o4, some (.int (c / 1000)), some d, o7], st0 ++ [.lst ((acc ++ [c % 1000]).map D.int)], gN_eq _ _ _ _, ?_, o4, _, _, o7, acc ++ [c % 1000], rfl, rfl, by simp; omega, ⟨_, rfl⟩, trivial⟩
      simp -implicitDefEqProofs [b60, z, hm, hv, ha, hk]
    · refine ⟨_, _, [some sc, some lo, some hi, some (.obj st0.length), o4, some (.int c), some d, o7], st0 ++ [.lst (acc.map D.int)], gN_eq _ _ _ _, ?_, o4, _, _, o7, acc, rfl, rfl, by omega, ⟨_, rfl⟩, trivial⟩
      simp -implicitDefEqProofs [b60, z])
  rw [runD_len, Nat.zero_add] at h2
  exact ⟨τ', st', h1, h2⟩
abbrev b12 : FS := sSeq (sSet 7 (fOp opMod (fB oInt (aCons (fOp opAddA (fOp opAddA (fOp opMul (fV 7) (fC (.int 16807))) (fOp opMul (fC (.int 7)) (fV 6))) (fC (.int 1))) aNil)) (fC (.int 2147483647))))
  (sExp (fMt oAppend (fV 3) (aCons (fOp opMod (fB oInt (aCons (fOp opDiv (fV 7) (fC (.int 997))) aNil)) (fC (.int 1000))) aNil)))
theorem loop12 {n : Nat} (hn : n + 12 ≤ sizeLine) {τ : Ti} {st : Sto} (h : DigS st0 sc lo hi n (fun _ => True) (fun o => ∃ c : Int, o = some (.int c)) τ st) :
    ∃ τ' st', forD (gN 6) b12 (runD 0 12) τ st = .ok (.nx τ') st' ∧ DigS st0 sc lo hi (n + 12) (fun _ => True) (fun o => ∃ c : Int, o = some (.int c)) τ' st' := by
  obtain ⟨τ', st', h1, h2⟩ := forD_cnt (P := fun i => DigS st0 sc lo hi (n + i) (fun _ => True) (fun o => ∃ c : Int, o = some (.int c))) (g := gN 6) (u := b12) 12 (runD 0 12) 0 τ st (by rw [runD_len]; omega) h (by
    intro i d hi' hd τ st hp
    obtain ⟨o4, o5, o6, o7, acc, rfl, rfl, hl, _, ⟨c, rfl⟩⟩ := hp
    obtain ⟨t, _, rfl⟩ := runD_mem hd
    have m1 : ∀ st : Sto, opMul (.int c) (.int 16807) st = .ok (.int (c * 16807)) st := fun st => opMul_r (by decide) st
    have m2 : ∀ st : Sto, opMul (.int 7) (.int (t : Int)) st = .ok (.int (7 * (t : Int))) st := fun st => opMul_l (by decide) st
    have hm : ∀ (x : Int) (st : Sto), opMod (.int x) (.int 2147483647) st = .ok (.int (x % 2147483647)) st := fun x st => opMod_pos (by decide) st
    have hm2 : ∀ (x : Int) (st : Sto), opMod (.int x) (.int 1000) st = .ok (.int (x % 1000)) st := fun x st => opMod_pos (by decide) st
    have hv : ∀ (x : Int) (st : Sto), opDiv (.int x) (.int 997) st = .ok (.int (x / 997)) st := fun x st => opDiv_pos (by decide) st
    have ha := fun y : Int => oAppend_last (st := st0) (xs := acc.map D.int) (by rw [List.length_map]; omega) (.int y)
    have hk := fun r h τ => kMt1_eq (get_last st0 (.lst (acc.map D.int))) r h τ
    refine ⟨_, _, [some sc, some lo, some hi, some (.obj st0.length), o4, o5, some (.int (0 + (t : Nat))), some (.int ((c * 16807 + 7 * (t : Int) + 1) % 2147483647))], st0 ++ [.lst ((acc ++ [(c * 16807 + 7 * (t : Int) + 1) % 2147483647 / 997 % 1000]).map D.int)], gN_eq _ _ _ _, ?_, o4, o5, _, _, acc ++ [(c * 16807 + 7 * (t : Int) + 1) % 2147483647 / 997 % 1000], rfl, rfl, by simp; omega, trivial, ⟨_, rfl⟩⟩
    simp -implicitDefEqProofs [b12, m1, m2, hm, hm2, hv, ha, hk])
  rw [runD_len, Nat.zero_add] at h2
  exact ⟨τ', st', h1, h2⟩
end
theorem smallI_nat {a : Nat} (h : a ≤ 1000000) : smallI (a : Int) = true := by
  unfold smallI
  rw [Bool.and_eq_true, decide_eq_true_eq, decide_eq_true_eq]
  constructor
  · omega
  · omega
theorem digits_ok {FC : Fn} {scr : D} (hC : ∀ (i : Nat) (st : Sto), ∃ c : Int, FC [scr, .int (i : Nat)] st = .ok (.int c) st) (a b : Nat) (ha : a ≤ 1000) (hb : b ≤ 1000) (st0 : Sto) :
    ∃ acc : List Int, runB (uDigits FC) 8 [scr, .int (a : Nat), .int (b : Nat)] st0 = .ok (.obj st0.length) (st0 ++ [.lst (acc.map D.int)]) := by
  obtain ⟨u, hu⟩ : ∃ u, u = (sSeq (sSet 5 (fCallN 2 FC (aCons (fV 0) (aCons (fV 4) aNil)))) (sSeq (sIf (bOf (fOp opLt (fV 5) (fC (.int 0)))) (sSet 5 (fOp opSub (fC (.int 1)) (fOp opMul (fC (.int 2)) (fV 5)))) sNil) (sIf (bOf (fOp opGe (fV 5) (fOp opPow (fC (.int 10)) (fC (.int 18))))) (sFor (iRng1D (fC (.int 60))) (gN 6) b60) (sSeq (sSet 7 (fOp opMod (fB oInt (aCons (fOp opAddA (fOp opAddA (fOp opMul (fV 5) (fC (.int 48271))) (fOp opMul (fV 4) (fC (.int 69621)))) (fC (.int 11))) aNil)) (fC (.int 2147483647)))) (sFor (iRng1D (fC (.int 12))) (gN 6) b12))))) := ⟨_, rfl⟩
  have hsz : sizeLine = 16777216 := sizeLine_eq
  have s60 : ∀ st : Sto, kRng1 (.int 60) st = .ok (.imm (runD 0 60)) st := fun st => kRng1_eq (j := 60) (by decide) st
  have s12 : ∀ st : Sto, kRng1 (.int 12) st = .ok (.imm (runD 0 12)) st := fun st => kRng1_eq (j := 12) (by decide) st
  have hm : ∀ (x : Int) (st : Sto), opMod (.int x) (.int 2147483647) st = .ok (.int (x % 2147483647)) st := fun x st => opMod_pos (by decide) st
  have m1 : ∀ (x : Int) (st : Sto), opMul (.int x) (.int 48271) st = .ok (.int (x * 48271)) st := fun x st => opMul_r (by decide) st
  have m2 : ∀ (x : Int) (st : Sto), opMul (.int x) (.int 69621) st = .ok (.int (x * 69621)) st := fun x st => opMul_r (by decide) st
  have m3 : ∀ (x : Int) (st : Sto), opMul (.int 2) (.int x) st = .ok (.int (2 * x)) st := fun x st => opMul_l (by decide) st
  have step : ∀ i d, i < b - a → d ∈ runD (a : Int) (b - a) → ∀ τ st, DigS st0 scr (.int (a : Nat)) (.int (b : Nat)) (60 * i) (fun _ => True) (fun _ => True) τ st →
      ∃ τ1 st1 τ2 st2, gN 4 d τ st = .ok τ1 st1 ∧ u τ1 st1 = .ok (.nx τ2) st2 ∧ DigS st0 scr (.int (a : Nat)) (.int (b : Nat)) (60 * (i + 1)) (fun _ => True) (fun _ => True) τ2 st2 := by
    intro i d hi hd τ st hp
    obtain ⟨o4, o5, o6, o7, acc, rfl, rfl, hl, _, _⟩ := hp
    obtain ⟨t, ht, rfl⟩ := runD_mem hd
    obtain ⟨c, hc⟩ := hC (a + t) (st0 ++ [.lst (acc.map D.int)])
    have e1 : ((a + t : Nat) : Int) = (a : Int) + (t : Nat) := by omega
    rw [e1] at hc
    obtain ⟨c', hc'⟩ : ∃ c' : Int, c' = if c < 0 then 1 - 2 * c else c := ⟨_, rfl⟩
    have rest : ∃ τ2 st2, sIf (bOf (fOp opGe (fV 5) (fOp opPow (fC (.int 10)) (fC (.int 18))))) (sFor (iRng1D (fC (.int 60))) (gN 6) b60) (sSeq (sSet 7 (fOp opMod (fB oInt (aCons (fOp opAddA (fOp opAddA (fOp opMul (fV 5) (fC (.int 48271))) (fOp opMul (fV 4) (fC (.int 69621)))) (fC (.int 11))) aNil)) (fC (.int 2147483647)))) (sFor (iRng1D (fC (.int 12))) (gN 6) b12)) [some scr, some (.int (a : Nat)), some (.int (b : Nat)), some (.obj st0.length), some (.int ((a : Int) + (t : Nat))), some (.int c'), o6, o7] (st0 ++ [.lst (acc.map D.int)]) = .ok (.nx τ2) st2 ∧ DigS st0 scr (.int (a : Nat)) (.int (b : Nat)) (60 * (i + 1)) (fun _ => True) (fun _ => True) τ2 st2 := by
      by_cases z : 1000000000000000000 ≤ c'
      · obtain ⟨τ2, st2, h1, h2⟩ := loop60 (st0 := st0) (sc := scr) (lo := .int (a : Nat)) (hi := .int (b : Nat)) (n := 60 * i) (by omega) (τ := [some scr, some (.int (a : Nat)), some (.int (b : Nat)), some (.obj st0.length), some (.int ((a : Int) + (t : Nat))), some (.int c'), o6, o7]) (st := st0 ++ [.lst (acc.map D.int)])
          ⟨_, _, o6, o7, acc, rfl, rfl, hl, ⟨_, rfl⟩, trivial⟩
        obtain ⟨p4, p5, p6, p7, acc', q1, q2, q3, _, _⟩ := h2
        refine ⟨τ2, st2, ?_, p4, p5, p6, p7, acc', q1, q2, by omega, trivial, trivial⟩
        rw [sIf_eq]
        simp -implicitDefEqProofs only [bOf_eq, fOp_eq, fV_5, bind_ok, kOp1_eq, fC_eq, kOp2_eq, opPow_18, opGe_int, kBof_bl, decide_eq_true z, kSif_t, sFor_eq, iRng1D_eq, s60, kFor_imm]
        exact h1
      · obtain ⟨τ2, st2, h1, h2⟩ := loop12 (st0 := st0) (sc := scr) (lo := .int (a : Nat)) (hi := .int (b : Nat)) (n := 60 * i) (by omega) (τ := [some scr, some (.int (a : Nat)), some (.int (b : Nat)), some (.obj st0.length), some (.int ((a : Int) + (t : Nat))), some (.int c'), o6, some (.int ((c' * 48271 + ((a : Int) + (t : Nat)) * 69621 + 11) % 2147483647))]) (st := st0 ++ [.lst (acc.map D.int)])
          ⟨_, _, o6, _, acc, rfl, rfl, hl, trivial, ⟨_, rfl⟩⟩
        obtain ⟨p4, p5, p6, p7, acc', q1, q2, q3, _, _⟩ := h2
        refine ⟨τ2, st2, ?_, p4, p5, p6, p7, acc', q1, q2, by omega, trivial, trivial⟩
        rw [sIf_eq]
        simp -implicitDefEqProofs only [bOf_eq, fOp_eq, fV_5, fV_4, bind_ok, kOp1_eq, fC_eq, kOp2_eq, opPow_18, opGe_int, kBof_bl, decide_eq_false z, kSif_f, sSeq_eq, sSet_eq, fB_eq, aCons_eq, m1, m2, opAddA_int, kCons1_eq, aNil_eq, kCons2_eq, kB_eq, oInt_int, hm, kSet_eq, kSeq_nx, sFor_eq, iRng1D_eq, s12, kFor_imm, List.set_cons_succ, List.set_cons_zero]
        exact h1
    obtain ⟨τ2, st2, h1, h2⟩ := rest
    refine ⟨_, _, τ2, st2, gN_eq _ _ _ _, ?_, h2⟩
    subst hu
    by_cases z : c < 0
    · rw [if_pos z] at hc'
      subst hc'
      simp -implicitDefEqProofs only [sSeq_eq, sSet_eq, fCallN_eq, aCons_eq, fV_0, fV_4, fV_5, bind_ok, kCons1_eq, aNil_eq, kCons2_eq, kCall_2, hc, exAt_ok, kSet_eq, kSeq_nx, List.set_cons_succ, List.set_cons_zero, bOf_eq, fOp_eq, kOp1_eq, fC_eq, kOp2_eq, opLt_int, kBof_bl, decide_eq_true z, kSif_t, opSub_int, m3]
      rw [sIf_eq]
      simp -implicitDefEqProofs only [bOf_eq, fOp_eq, fV_5, bind_ok, kOp1_eq, fC_eq, kOp2_eq, opLt_int, kBof_bl, decide_eq_true z, kSif_t, sSet_eq, m3, opSub_int, kSet_eq, kSeq_nx, List.set_cons_succ, List.set_cons_zero]
      exact h1
    · rw [if_neg z] at hc'
      subst hc'
      simp -implicitDefEqProofs only [sSeq_eq, sSet_eq, fCallN_eq, aCons_eq, fV_0, fV_4, fV_5, bind_ok, kCons1_eq, aNil_eq, kCons2_eq, kCall_2, hc, exAt_ok, kSet_eq, kSeq_nx, List.set_cons_succ, List.set_cons_zero]
      rw [sIf_eq]
      simp -implicitDefEqProofs only [bOf_eq, fOp_eq, fV_5, bind_ok, kOp1_eq, fC_eq, kOp2_eq, opLt_int, kBof_bl, decide_eq_false z, kSif_f, sNil_eq, kSeq_nx]
      exact h1
  obtain ⟨τ', st', h1, h2⟩ := forD_cnt (P := fun i => DigS st0 scr (.int (a : Nat)) (.int (b : Nat)) (60 * i) (fun _ => True) (fun _ => True)) (g := gN 4) (u := u) (b - a) (runD (a : Int) (b - a)) 0
    [some scr, some (.int (a : Nat)), some (.int (b : Nat)), some (.obj st0.length), none, none, none, none] (st0 ++ [.lst []]) (by rw [runD_len]; omega) ⟨none, none, none, none, [], rfl, rfl, Nat.zero_le _, trivial, trivial⟩ step
  obtain ⟨o4, o5, o6, o7, acc, rfl, rfl, _, _, _⟩ := h2
  refine ⟨acc, ?_⟩
  have sr : ∀ st : Sto, kRng2b (.int (a : Nat)) (.int (b : Nat)) st = .ok (.imm (runD (a : Int) (b - a))) st := fun st => by
    have e : ((b : Int) - (a : Int)).toNat = b - a := by omega
    rw [kRng2b_eq (by rw [smallI_nat (by omega), smallI_nat (by omega)]; rfl), e]
  subst hu
  simp -implicitDefEqProofs only [uDigits, runB_eq, List.map_cons, List.map_nil, List.length_cons, List.length_nil, List.cons_append, List.nil_append, List.replicate, sSeq_eq, sSet_eq, fLst_eq, aNil_eq, bind_ok, kLst_0, kSet_eq, List.set_cons_succ, List.set_cons_zero, kSeq_nx, sFor_eq, iRng2D_eq, fV_1, kRng2a_eq, fV_2, sr, kFor_imm]
  rw [h1]
  simp
end DL
set_option Elab.async false
set_option linter.all false
set_option maxHeartbeats 1000000
set_option maxRecDepth 100000
namespace DL
open PySem PySem.Spec PyProof.Rows L2 LamX DL.Ex
/-! comprehensions over list objects; lists of short texts -/
theorem lcO_map {β : Type} {g : FG} {t : FB} {e : FE} {τ : Ti} {fin : List D → Sto → R β} {st : Sto} {k : Nat} {ds : List D} (m : D → Option D) (hk : st[k]? = some (.lst ds)) (h : ∀ d, d ∈ ds → lcOne g t e τ d st = .ok (m d) st) : ∀ (n i : Nat) (acc : List D), acc.length + (ds.length - i) ≤ sizeLine → ds.length - i < n →
    lcO g t e τ fin k n i acc st = fin (acc ++ (ds.drop i).filterMap m) st
  | 0, i, acc, _, hn => absurd hn (Nat.not_lt_zero _)
  | n + 1, i, acc, hl, hn => by
    unfold lcO
    simp only [hk]
    by_cases z : i < ds.length
    · have ge : ds[i]? = some ds[i] := List.getElem?_eq_getElem z
      have h1 := h ds[i] (List.getElem_mem z)
      rw [ge]
      simp only
      unfold lcOne at h1
      rw [List.drop_eq_getElem_cons z, List.filterMap_cons]
      cases e1 : noX (g ds[i] τ st) with
      | ok τ1 st1 =>
        rw [e1] at h1
        simp only [bind_ok] at h1 ⊢
        cases e2 : noX (t τ1 st1) with
        | ok x st2 =>
          rw [e2] at h1
          simp only [bind_ok] at h1 ⊢
          by_cases hx : x = true
          · rw [if_pos hx] at h1 ⊢
            cases e3 : noX (e τ1 st2) with
            | ok y st3 =>
              rw [e3] at h1
              simp only [bind_ok] at h1 ⊢
              injection h1 with q1 q2
              subst q2
              rw [← q1, if_pos (by omega)]
              simp only
              rw [lcO_map m hk h n (i + 1) (acc ++ [y]) (by rw [List.length_append, List.length_singleton]; omega) (by omega), List.append_assoc]; rfl
            | ex x st3 => rw [e3] at h1; cases h1
            | bad => rw [e3] at h1; cases h1
          · rw [if_neg hx] at h1 ⊢
            injection h1 with q1 q2
            subst q2
            rw [← q1]
            simp only
            exact lcO_map m hk h n (i + 1) acc (by omega) (by omega)
        | ex x st2 => rw [e2] at h1; cases h1
        | bad => rw [e2] at h1; cases h1
      | ex x st2 => rw [e1] at h1; cases h1
      | bad => rw [e1] at h1; cases h1
    · rw [List.getElem?_eq_none (by omega), List.drop_eq_nil_of_le (by omega)]
      simp
theorem fine_strs {h : Nat} : ∀ {xs : List Str}, (∀ x, x ∈ xs → shortS x) → FineAll (xs.map PyData.str) h (17 * xs.length)
  | [], _ => FineAll.nil
  | x :: xs, hs => by
    have a := FineAll.cons (Fine.str (h := h) (hs x List.mem_cons_self)) (fine_strs (h := h) (xs := xs) fun y hy => hs y (List.mem_cons_of_mem _ hy))
    refine ⟨a.sh, a.nd, a.ls, a.dp, ?_⟩
    have := a.wt
    rw [List.length_cons]
    simp only [List.map_cons]
    omega
theorem toPys_strs : ∀ xs : List Str, toPys (xs.map D.str) = some (xs.map PyData.str)
  | [] => rfl
  | x :: xs => by
    have ih := toPys_strs xs
    rw [List.map_cons, List.map_cons]
    simp only [toPys, toPy, ih]
theorem repr_lst {st : Sto} {g : Nat} {xs : List Str} (hg : st[g]? = some (.lst (xs.map D.str))) (hs : ∀ x, x ∈ xs → shortS x) (hl : xs.length ≤ 10000) : oRepr [.obj g] st = .ok (.str (PyData.list (xs.map PyData.str)).shown) st :=
  Fine.repr (fine_strs (h := 0) hs).lst (by simp only [toPyS, hg, toPys_strs]; rfl) (by simp only [seqOf, DL.listOf, hg]; rfl) (by omega) (by omega)
theorem repr_lv {st : Sto} {xs : List Str} (hs : ∀ x, x ∈ xs → shortS x) (hl : xs.length ≤ 10000) : oRepr [.lv (xs.map D.str)] st = .ok (.str (PyData.list (xs.map PyData.str)).shown) st :=
  Fine.repr (fine_strs (h := 0) hs).lst (by simp only [toPyS, toPy, toPys_strs]; rfl) (by rfl) (by omega) (by omega)
end DL
set_option Elab.async false
set_option linter.all false
set_option maxRecDepth 100000
set_option maxHeartbeats 4000000
namespace DL
open PySem PySem.Spec PyProof.Rows L2 LamX
/-! sorted(xs, key=lambda f: f[0]): the lambda is made anew each time; its code object stands in the table of its maker -/
def lamQ (X : Cx) : Str := X.env.qual ++ "<lambda>"
/-- the maker's code object and table are known -/
structure LamT (X : Cx) (T : List (Addr × Str)) : Prop where
  ex : ∃ c P, TabB X.base X.mg c P ∧ X.env.code = .ref c ∧ (P, lamQ X) ∈ T ∧ ∀ p ∈ T, p.1 = P → p.2 = lamQ X
/-- a lambda without captured names -/
structure Lam1 (y : Str) (scope : Scope) : Prop where
  kd : scope.kind = .function
  co : scope.isCoroutine = false
  gn : scope.isGenerator = false
  nm : scope.names = [(y, .local)]
section
variable {X : Cx} {pins : List (Addr × Obj)} {σ : L2.St} {H : Hp} {s : Shared}
theorem lam_new {T : List (Addr × Str)} {y : Str} {prm : Arguments} {bd : Expr} {sc : Scope} {lp : Pos} {E : Value → Shared → Prop} {Q : Value → Shared → Prop} (I : Inv X pins σ H s) (L : LamT X T) (S : Lam1 y sc) (tb : Tabs T H) (hdf : defaultsOf prm X.env = ([], []))
    (fin : ∀ (g c1 : Addr) (pm ct : Value) (H1 : Hp) (s1 : Shared), Inv X pins σ H1 s1 → ExtN H H1 → Tabs T H1 → (∀ b o, H b = some o → ∃ o1, H1 b = some o1) →
      s1.heap.get? g = some (PySem.W.kla_obj "<lambda>" (lamQ X) prm bd sc [] pm c1 ct) → s1.heap.CodeRec (.ref c1) (lamQ X) → Q (.ref g) s1) :
    wpAny (model X.prog X.w) X.A (eval (.Lambda prm bd sc lp) X.env) Q E s := by
  obtain ⟨c, P, TB, hcode, inT, uniq⟩ := L.ex
  obtain ⟨ps, eP, ok3, amg⟩ := tb _ inT
  have bP := TB.bm.keeps I.bk
  have gP : s.heap.get? P = some { cls := .none, data := .fields ps } := I.hok P _ eP
  have nocl : closureFor sc X.env = pure [] := by
    have q := closure_ok (scope := sc) (env := X.env) (fun z hz e => by
      rw [S.nm] at hz
      rw [List.mem_singleton.mp hz] at e
      cases e)
    rw [S.nm] at q
    exact q
  refine PySem.W.kla_eval hdf ?_
  rcases hc : codeAmong lp ps.toList with _ | cv
  · refine PySem.W.kla_makeFunction (c := c) (P := P) (ps := ps) (mg := X.mg) nocl I.ok.glob (I.mod.glob.keeps I.bk) hcode (TB.code.keeps I.bk) gP ok3 hc TB.gP bP ?_
    intro c1 ct h1 tk kp ge lt rec tabAt
    have recd := rec
    obtain ⟨c2, oc, vs, t, e2, eoc, edt, evs⟩ := rec
    cases e2
    have fresh : H c1 = none := I.hok.fresh ge
    let O := PySem.W.kla_obj "<lambda>" (lamQ X) prm bd sc [] ((X.mg "__name__").getD .none) c1 ct
    have keepO : ∀ b o, h1.get? b = some o → (h1.push O).get? b = some o := fun b o e => Heap.get?_push_of_some _ e
    have J := inv_table (q := lamQ X) (c := c1) (more := #[rawInt lp.line, rawInt lp.col, .ref c1]) (t' := tk) (h' := h1.push O) I eP (fun b o hb e => keepO b o (kp b o hb e)) (keepO _ _ tabAt) ge ⟨oc, vs, t, keepO _ _ eoc, edt, evs⟩
    have ext : ExtN H (upd (upd H P (.tbl (ps ++ #[rawInt lp.line, rawInt lp.col, .ref c1]))) c1 (CodeO c1 (lamQ X))) := by
      intro b o e n
      have h2 : b ≠ P := fun z => by
        rw [z, eP] at e
        exact n ps (Option.some.inj e).symm
      rw [upd_ne (ne_of_none e fresh), upd_ne h2]
      exact e
    refine fin h1.objs.size c1 _ ct _ _ J ext ?_ ?_ (Heap.get?_push_size _ rfl) (by
      obtain ⟨d1, d2, d3, d4, d5, d6, d7⟩ := recd
      exact ⟨d1, d2, d3, d4, d5, keepO _ _ d6, d7⟩)
    · intro p hp
      have lst : (ps ++ #[rawInt lp.line, rawInt lp.col, .ref c1]).toList = ps.toList ++ [rawInt lp.line, rawInt lp.col, .ref c1] := by simp
      by_cases hb : p.1 = P
      · have pq := uniq p hp hb
        rw [hb, pq]
        refine ⟨_, by rw [upd_ne (ne_of_none eP fresh), upd_same], ?_, ?_⟩
        · rw [lst]; exact PySem.TriplesOk_snoc _ _ _ _ ok3
        · intro p2 cv hcv
          rw [lst] at hcv
          rcases among_app _ ok3 hcv with z | z
          · obtain ⟨c0, z1, z2⟩ := amg p2 cv z
            exact ⟨c0, z1, ext _ _ z2 codeO_ne⟩
          · exact ⟨c1, z, upd_same⟩
      · obtain ⟨qs, a1, a2, a3⟩ := tb p hp
        refine ⟨qs, by rw [upd_ne (ne_of_none a1 fresh), upd_ne hb]; exact a1, a2, ?_⟩
        intro p2 cv hcv
        obtain ⟨c0, z1, z2⟩ := a3 p2 cv hcv
        exact ⟨c0, z1, ext _ _ z2 codeO_ne⟩
    · intro b o e
      by_cases hb : b = P
      · exact ⟨.tbl (ps ++ #[rawInt lp.line, rawInt lp.col, .ref c1]), by rw [upd_ne (ne_of_none e fresh), hb, upd_same]⟩
      · exact ⟨o, by rw [upd_ne (ne_of_none e fresh), upd_ne hb]; exact e⟩
  · obtain ⟨c1, z, hco⟩ := amg lp cv hc
    subst z
    refine PySem.W.kla_makeFunctionHit (c := c) (P := P) (ps := ps) (mg := X.mg) nocl I.ok.glob (I.mod.glob.keeps I.bk) hcode (TB.code.keeps I.bk) gP ok3 hc bP ?_
    intro ct h1 tk kp sz
    have keepO : ∀ b o, s.heap.get? b = some o → (h1.push (PySem.W.kla_obj "<lambda>" (lamQ X) prm bd sc [] ((X.mg "__name__").getD .none) c1 ct)).get? b = some o := fun b o e => Heap.get?_push_of_some _ (kp b o e)
    obtain ⟨⟨oc, vs, t, hoc, hdc, hvc⟩, _, _⟩ := I.hok c1 _ hco
    exact fin h1.objs.size c1 _ ct H _ (I.kept keepO) (ExtN.refl H) tb (fun b o e => ⟨o, e⟩) (Heap.get?_push_size _ rfl) ⟨c1, oc, vs, t, rfl, keepO _ _ hoc, hdc, hvc⟩
end
/-! ### the lambda is called -/
section
variable {prog : Program} {w : World} {A : Around} {s : Shared}
theorem lam0_call {g c1 a : Addr} {q y : Str} {prm : Arguments} {p1 p2 p3 : Pos} {kd : Nat} {sc : Scope} {pm ct : Value} {its : Array Value} {x : Str} {tk0 : Tok} (S : Lam1 y sc) (hroom : A.depth < recursionLimit) (nl : s.heap.NoLimit)
    (hg : s.heap.get? g = some (PySem.W.kla_obj "<lambda>" q prm (.Subscript (.Name y p1) (.Constant (.int 0) kd p2) p3) sc [] pm c1 ct)) (hc : s.heap.CodeRec (.ref c1) q)
    (hb : bindArgs (PySem.W.kla_fn "<lambda>" q prm (.Subscript (.Name y p1) (.Constant (.int 0) kd p2) p3) sc [] pm (.ref c1) ct) ⟨[.ref a], []⟩ = pure [(y, .ref a)]) (hy : (y == ("__debug__" : Str)) = false)
    (ht : IsTup s.heap a its) (h0 : its[0]? = some (.str x tk0)) :
    wpAny (model prog w) A (call (.ref g) [.ref a]) (PySem.W.KeyPure (.str x) s) (fun _ _ => False) s := by
  refine wpAny_call (PySem.W.kla_callFunE hroom hg rfl S.co S.gn rfl hc ?_)
  rw [hb]
  refine wpAny_pure (wpAny_newFunctionEnv (fun z hz => ?_) (fun z hz => ?_) (fun h1 hns hsb => ⟨nl.fresh _ hsb, ?_⟩) S.kd)
  · rw [S.nm] at hz
    rw [List.mem_singleton.mp hz]
    exact fun e => by cases e
  · rw [List.mem_singleton.mp hz, S.nm]
    simp [List.lookup_cons]
  · have keep : ∀ b o, s.heap.get? b = some o → h1.get? b = some o := fun b o e => hsb.extBut b o (Nat.ne_of_lt (Heap.lt_size e)) (Heap.get?_push_of_some _ e)
    refine PySem.W.kla_codeExpr ?_
    refine Subscript_ (wpAny_Name (wpAny_loadName_local (v := .ref a) S.kd (by
      show sc.names.lookup y = some NameKind.local
      rw [S.nm]; simp [List.lookup_cons]) hns (by simp [List.lookup_cons]) ?_) hy)
    refine wpAny_Constant_int ?_
    refine subscriptTail_builtinR (x := .str x tk0) (ht.keeps keep).typeIs slot_tuple_getitem.lookup ?_ (by rfl)
    have sz : 0 < its.size := by
      rcases Nat.lt_or_ge 0 its.size with z | z
      · exact z
      · rw [Array.getElem?_eq_none z] at h0
        cases h0
    refine getItem_tuple (j := 0) (Q := fun r s' => r = .str x tk0 ∧ _) (ht.keeps keep) (by decide) (by decide) ?_ h0 ⟨rfl, ?_⟩
    · unfold seqIndex?
      simp [sz]
    · exact ⟨h1, _, rfl, keep, .str _ _⟩
end
def key0 : D → Option Str
  | .tup (.str x :: _) => some x
  | .ktup (.str x :: _) => some x
  | _ => none
def keyD (d : D) : Str := (key0 d).getD ""
/-- the order of texts that sorted uses -/
def leS (x y : Str) : Bool := PySem.W.dataLe false PyData.str x y
def leK (a b : D) : Bool := leS (keyD a) (keyD b)
def kSortK (d : D) (st : Sto) : R D := match listOf st d with
  | some ds => if (ds.all fun d => (key0 d).isSome) = true ∧ ds.length ≤ sizeLine then .ok (.lv (ds.mergeSort leK)) st else .bad
  | none => .bad
def fSortK (f : FE) : FE := fun τ st => (f τ st).bind kSortK
section
variable {X : Cx} {ca : CA} {W : WX} {f : FE} {a : Expr} {p p1 p2 p3 lp kp pos : Pos}
theorem ext_lam {ρ : Nat → Addr} {n : Nat} {H H1 : Hp} (e : ExtN H H1) (th : ∀ b o, H b = some o → ∃ o1, H1 b = some o1) : Ext ρ n H ρ n H1 where
  le := Nat.le_refl _
  same := fun _ _ => rfl
  new := fun i h1 h2 => absurd h2 (Nat.not_lt.mpr h1)
  keep := fun b o q nt _ => e b o q nt
  tups := fun b xs q => e b _ q (fun _ => nofun)
  frzs := fun b o u q => e b _ q (fun _ => nofun)
  owns := fun b x q => e b _ q (fun _ => nofun)
  there := th
theorem srep_lam {K : PySem.W.Frag} {ρ : Nat → Addr} {H H1 : Hp} {st : Sto} (s : SRep K ca ρ H st) (e : ExtN H H1) (th : ∀ b o, H b = some o → ∃ o1, H1 b = some o1) (t : Tabs ca.f.tb H1) : SRep K ca ρ H1 st :=
  s.grow (ext_lam e th) (fun i hi u q => e _ _ q (fun ps z => by
    obtain ⟨o, ho⟩ : ∃ o, st[i]? = some o := ⟨st[i], List.getElem?_eq_getElem hi⟩
    have r := s.at_ i o ho
    subst z
    cases o with
    | lst ds => obtain ⟨xs, e', _⟩ := r; rw [q] at e'; cases e'
    | dic ds => obtain ⟨xs, e', _⟩ := r; rw [q] at e'; cases e'
    | dit ds => obtain ⟨xs, e', _⟩ := r; rw [q] at e'; cases e'
    | lck ds => obtain ⟨o, xs, e', _⟩ := r; rw [q] at e'; cases e'
    | ins c fs => obtain ⟨C, dx, xs, _, e', _⟩ := r; rw [q] at e'; cases e')) t
/-- an item: its value, that it is a tuple with its key ahead -/
def ItemK (K : PySem.W.Frag) (ca : CA) (ρ : Nat → Addr) (n : Nat) (H : Hp) (h : Heap) (v : Value) (d : D) : Prop := ∃ xv a its tk, v = .ref a ∧ RelV xv v ∧ Rep K ca ρ n H d xv ∧ IsTup h a its ∧ its[0]? = some (.str (keyD d) tk)
theorem itemsK {pins : List (Addr × Obj)} {σ : L2.St} {H : Hp} {s : Shared} {ρ : Nat → Addr} {n : Nat} (I : Inv X pins σ H s) : ∀ {ds : List D} {xs : List V} {vs : List Value}, (∀ d ∈ ds, (key0 d).isSome = true) → Reps X.K ca ρ n H ds xs → Vals xs vs →
    PySem.W.EachIs (ItemK X.K ca ρ n H s.heap) vs ds
  | [], xs, vs, _, r, v => by
    simp only [Reps] at r
    subst r
    cases v
    exact .nil
  | d :: ds, xs, vs, hk, r, v => by
    simp only [Reps] at r
    obtain ⟨x, xs, rfl, r1, r2⟩ := r
    cases v with
    | cons v1 v2 =>
      rename_i u us
      refine .cons ?_ (itemsK I (fun d hd => hk d (List.mem_cons_of_mem _ hd)) r2 v2)
      have k1 := hk d List.mem_cons_self
      have core : ∀ (a : Addr) (ys : List V) (x0 : Str) (es : List D), x = .ref a → SqT X.K H a ys → Reps X.K ca ρ n H (.str x0 :: es) ys → keyD d = x0 → ItemK X.K ca ρ n H s.heap u d := fun a ys x0 es e q rr ek => by
        subst e
        obtain ⟨its, rv, tp, _⟩ := I.tuple q
        simp only [Reps] at rr
        obtain ⟨w, ws, rfl, rw1, _⟩ := rr
        simp only [Rep] at rw1
        subst rw1
        obtain ⟨z, ez, rz⟩ := rv.get (i := 0) (x := .str x0) rfl
        obtain ⟨t, rfl⟩ := rz
        cases (show u = Value.ref a from v1)
        exact ⟨.ref a, a, its.toArray, t, rfl, v1, r1, tp, by rw [ek]; simpa using ez⟩
      cases d with
      | tup es =>
        cases es with
        | nil => simp [key0] at k1
        | cons e es =>
          cases e with
          | str x0 =>
            have r1' := r1
            simp only [Rep] at r1'
            obtain ⟨a, ys, e, q, rr⟩ := r1'
            exact core a ys x0 es e (.inl (.inl q)) rr rfl
          | _ => simp [key0] at k1
      | ktup es =>
        cases es with
        | nil => simp [key0] at k1
        | cons e es =>
          cases e with
          | str x0 =>
            have r1' := r1
            simp only [Rep] at r1'
            obtain ⟨a, ys, e, q, rr⟩ := r1'
            exact core a ys x0 es e q.seq rr rfl
          | _ => simp [key0] at k1
      | _ => simp [key0] at k1
theorem outK {K : PySem.W.Frag} {H : Hp} {h : Heap} {ρ : Nat → Addr} {n : Nat} : ∀ {vs : List Value} {ds : List D}, PySem.W.EachIs (ItemK K ca ρ n H h) vs ds → ∃ xs, Vals xs vs ∧ Reps K ca ρ n H ds xs
  | _, _, .nil => ⟨[], .nil, Reps.nil⟩
  | _, _, .cons ⟨xv, a, its, tk, e, r, rp, _⟩ t => by
    obtain ⟨xs, v, q⟩ := outK t
    exact ⟨xv :: xs, .cons r v, Reps.cons rp q⟩
theorem je_sortK {k : Nat} {y : Str} {prm : Arguments} {kd : Nat} {sc : Scope} (hr : RoomL k X.A) (T : LamT X ca.f.tb) (S : Lam1 y sc) (hg : Gl X "sorted") (hm : X.mg "sorted" = none) (ha : JE X ca W a f) (hdf : defaultsOf prm X.env = ([], []))
    (hb : ∀ (q : Str) (pm cv ct : Value) (u : Value), bindArgs (PySem.W.kla_fn "<lambda>" q prm (.Subscript (.Name y p1) (.Constant (.int 0) kd p2) p3) sc [] pm cv ct) ⟨[u], []⟩ = pure [(y, u)])
    (hy : (y == ("__debug__" : Str)) = false := by decide)
    (hst : starEach [a] X.env = (false, eval a X.env) :: starEach [] X.env := by rfl) (he : backTo pos (starEach [a] X.env) = (false, eval a X.env) :: backTo pos (starEach [] X.env) := by rfl) (hpl : (backTo pos (starEach [a] X.env)).any (·.1) = false := by rfl) :
    JE X ca W (.Call (.Name "sorted" p) [a] [⟨some "key", .Lambda prm (.Subscript (.Name y p1) (.Constant (.int 0) kd p2) p3) sc lp, kp⟩] pos) (fSortK f) := by
  refine ⟨fun pins s σ H Q I h => ?_⟩
  refine wpAny_Call_Name_kw (ld_blt I hg hm (by rfl) ?_ (by decide) (by decide))
  refine PyProof.Rows.callWith_kw (thn ((ja_cons ha ja_nil hst).run pos pins s σ H (fun xs H1 => ∃ ρ1 st1 d, xs.length = 1 ∧ SRep X.K ca ρ1 H1 st1 ∧ Reps X.K ca ρ1 st1.length H1 [d] xs ∧ Post X.K ca W ρ1 st1.length H1 (kSortK d st1) (KD X.K ca Q)) I ?_) fun us s1 ⟨xs, H1, I1, r1, q1⟩ => ?_) he hpl (by rfl) (by rfl)
  · obtain ⟨ρ, st, τ, sl, sr, h⟩ := h
    refine ⟨ρ, st, τ, sl, sr, ?_⟩
    show Post X.K ca W ρ st.length H ((f τ st).bind fun d st1 => (aNil τ st1).bind fun ds st2 => .ok (d :: ds) st2) _
    have h2 := Post.bind h
    cases e : f τ st with
    | bad => rw [e] at h2; exact h2
    | ex c fs τ1 st1 => rw [e] at h2; exact h2
    | ok d st1 =>
      rw [e] at h2
      intro H2 ρ2 x2 s2 vs rs
      obtain ⟨_, _, q⟩ := h2 H2 ρ2 x2 s2
      exact ⟨ρ2, st1, d, by rw [rs.length]; rfl, s2, rs, q⟩
  · obtain ⟨ρ1, st1, d, hl, s1r, rs, q⟩ := q1
    simp only [Reps] at rs
    obtain ⟨xv, _, rfl, rx, rfl⟩ := rs
    unfold kSortK at q
    cases el : listOf st1 d with
    | none => rw [el] at q; exact q.elim
    | some ds =>
      rw [el] at q
      simp only at q
      by_cases cond : (ds.all fun d => (key0 d).isSome) = true ∧ ds.length ≤ sizeLine
      · rw [if_pos cond] at q
        obtain ⟨l, ys, rfl, hq, rr⟩ := listOf_rep s1r el rx
        obtain rfl := Vals.ref1 r1
        refine wpAny_evalAll_cons (wpAny_bind (lam_new (T := ca.f.tb) I1 T S s1r.tab hdf fun g c1 pm ct H2 s2 I2 ext tb2 th hgg hcc => wpAny_bind (wpAny_standAt (wpAny_pure (wpAny_evalAll_nil ?_)))))
        have s2r : SRep X.K ca ρ1 H2 st1 := srep_lam s1r ext th tb2
        have x2 : Ext ρ1 st1.length H1 ρ1 st1.length H2 := ext_lam ext th
        have hq2 : SqL X.K H2 l ys := by
          rcases hq with (h | ⟨o, h⟩) | h
          · exact .inl (.inl (ext _ _ h (fun _ => nofun)))
          · exact .inl (.inr ⟨o, ext _ _ h (fun _ => nofun)⟩)
          · exact .inr h
        obtain ⟨its, rv, pl, hz⟩ := I2.list hq2
        have each := itemsK I2 (fun d hd => List.all_eq_true.mp cond.1 d hd) (rr.ext x2) rv
        have rm := hr.room
        refine PySem.W.sorted_key_data (b := false) (bs := ds) (fun d => PyData.str (keyD d)) pl.isList each (fun a ha b hb => ?_) (.inr fun a ha => ?_) cond.2 (fun x hx => ?_) (PyProof.Rows.ksk_s1 _ _) (fun _ => PyProof.Rows.ksk_l1 _ _) (fun x => PyProof.Rows.ksk_t1 _ _) (fun v x ri hx h tk kp => ?_) (fun out c h' tk kp _ hat hlen each2 => ?_)
        · obtain ⟨u, _, rfl⟩ := List.mem_map.mp ha
          obtain ⟨v, _, rfl⟩ := List.mem_map.mp hb
          rfl
        · obtain ⟨u, _, rfl⟩ := List.mem_map.mp ha
          exact ⟨nofun, fun _ => nofun⟩
        · have := rm.un
          show X.A.units + 2 + PyData.depth (.str (keyD x)) < cLine
          simp only [PyData.depth]
          omega
        · obtain ⟨xv, a, it, t0, rfl, _, _, tp, e0⟩ := ri
          exact lam0_call (s := { s2 with heap := h, toks := tk }) S (by have := rm.dp; show X.A.depth < _; omega) (I2.nolimit.keeps kp) (kp _ _ hgg) (by
            obtain ⟨d1, d2, d3, d4, d5, d6, d7⟩ := hcc
            exact ⟨d1, d2, d3, d4, d5, kp _ _ d6, d7⟩) (hb _ _ _ _ _) hy (tp.keeps kp) e0
        · obtain ⟨zs, vz, rz⟩ := outK each2
          have np : H2 (s2.heap.objs.size + 1) = none := I2.hok.fresh (Nat.le_succ _)
          refine ⟨.ref (s2.heap.objs.size + 1), upd H2 (s2.heap.objs.size + 1) (.lst zs), I2.laid kp (Nat.le_succ _) ⟨?_, _, c, vz, hat⟩, rfl, ?_⟩
          · rw [rz.length, List.length_mergeSort]; exact cond.2
          · have fin := q (upd H2 (s2.heap.objs.size + 1) (.lst zs)) ρ1 (x2.trans (Ext.upd_new s2r np)) (s2r.upd_new np) (.ref (s2.heap.objs.size + 1))
            refine fin ?_
            exact rep_lv_new s2r np rz
      · rw [if_neg cond] at q; exact q.elim
end
/-- the table of a def that makes a lambda -/
theorem lamT_of {P : Program} {w : World} {K : PySem.W.Frag} {mg : Str → Option Value} {base : Heap} {N : List Str} {qual x q : Str} {scope : Scope} {f : Addr} {cdv : Value} {A : Around} {outer : List Env} {s : Shared} {H : Hp} {E : XK} {fd : FuncData} {T : List (Addr × Str)}
    (hf : f = He.fAd K (x, none)) (hc : ∃ oc od osl c, K.lookup f = some ⟨oc, od, .func fd, osl⟩ ∧ fd.code = .ref c ∧ cdv = .ref c) (TB : TabB base mg (He.cT K (x, none)).1 (He.cT K (x, none)).2) (hT : T = [((He.cT K (x, none)).2, q)]) (hq : qual ++ ".<locals>." ++ "<lambda>" = q) :
    LamT (cxOf (L2.CX P w) P w K mg base N qual scope f cdv A outer s H E) T := by
  obtain ⟨oc, od, osl, c, lk, ec, rfl⟩ := hc
  subst hf
  have e := He.codeOf_eq lk ec
  refine ⟨c, (He.cT K (x, none)).2, ?_, rfl, ?_, fun p hp _ => ?_⟩
  · have := TB
    unfold He.cT at this
    simp only [e] at this
    unfold He.cT
    simp only [e]
    exact this
  · rw [hT, ← hq]
    exact List.mem_singleton.mpr rfl
  · rw [hT] at hp
    rw [List.mem_singleton.mp hp, ← hq]
    rfl
end DL
set_option Elab.async false
set_option linter.all false
set_option maxRecDepth 100000
set_option maxHeartbeats 4000000
namespace DL
open PySem PySem.Spec PyProof.Rows L2 LamX
/-! more of the built-in functions: sum, get, {..}, dict, sorted, [::-1], None in a dict -/
def intsD : List D → Option (List Int)
  | [] => some []
  | .int i :: r => (intsD r).map (i :: ·)
  | _ => none
def strsD : List D → Option (List Str)
  | [] => some []
  | .str i :: r => (strsD r).map (i :: ·)
  | _ => none
def oSum : Fn := fun ds st => match ds with
  | [d] => match (listOf st d).bind intsD with
    | some ns => .ok (.int ns.sum) st
    | none => .bad
  | _ => .bad
theorem oSum_nox (ds st) : NoEx (oSum ds st) := by unfold oSum NoEx; intros; (repeat' split) <;> (intro h; cases h)
/-- texts in their order -/
def leSt (x y : Str) : Bool := leS x y
def oSortS : Fn := fun ds st => match ds with
  | [d] => match (listOf st d).bind strsD with
    | some ns => if ns.length ≤ sizeLine then .ok (.lv ((ns.mergeSort leS).map D.str)) st else .bad
    | none => .bad
  | _ => .bad
theorem oSortS_nox (ds st) : NoEx (oSortS ds st) := by unfold oSortS NoEx; intros; (repeat' split) <;> (intro h; cases h)
def dicOf (st : Sto) : D → Option (List (Key × D))
  | .obj i => match st[i]? with
    | some (.dic kvs) => some kvs
    | some (.lck kvs) => some kvs
    | _ => none
  | _ => none
def oDictOf : Fn := fun ds st => match ds with
  | [d] => match dicOf st d with
    | some kvs => .ok (.obj st.length) (st ++ [.dic kvs])
    | none => .bad
  | _ => .bad
theorem oDictOf_nox (ds st) : NoEx (oDictOf ds st) := by unfold oDictOf NoEx; intros; (repeat' split) <;> (intro h; cases h)
section
variable {K : PySem.W.Frag} {ca : CA} {ρ : Nat → Addr} {n : Nat} {H : Hp}
theorem reps_ints : ∀ {ds : List D} {ns : List Int} {xs : List V}, intsD ds = some ns → Reps K ca ρ n H ds xs → xs = ns.map V.int
  | [], ns, xs, e, r => by
    simp only [intsD, Option.some.injEq] at e
    subst e
    simp only [Reps] at r
    subst r
    rfl
  | d :: ds, ns, xs, e, r => by
    cases d with
    | int i =>
      simp only [intsD, Option.map_eq_some_iff] at e
      obtain ⟨m, e, rfl⟩ := e
      simp only [Reps] at r
      obtain ⟨v, ys, rfl, r1, r2⟩ := r
      simp only [Rep] at r1
      subst r1
      rw [reps_ints e r2]
      rfl
    | _ => simp [intsD] at e
theorem reps_strs : ∀ {ds : List D} {ns : List Str} {xs : List V}, strsD ds = some ns → Reps K ca ρ n H ds xs → xs = ns.map V.str
  | [], ns, xs, e, r => by
    simp only [strsD, Option.some.injEq] at e
    subst e
    simp only [Reps] at r
    subst r
    rfl
  | d :: ds, ns, xs, e, r => by
    cases d with
    | str i =>
      simp only [strsD, Option.map_eq_some_iff] at e
      obtain ⟨m, e, rfl⟩ := e
      simp only [Reps] at r
      obtain ⟨v, ys, rfl, r1, r2⟩ := r
      simp only [Rep] at r1
      subst r1
      rw [reps_strs e r2]
      rfl
    | _ => simp [strsD] at e
theorem reps_strs_back : ∀ (ns : List Str), Reps K ca ρ n H (ns.map D.str) (ns.map V.str)
  | [] => Reps.nil
  | x :: ns => Reps.cons (by simp only [Rep]) (reps_strs_back ns)
theorem each_strs : ∀ {ns : List Str} {us : List Value}, Vals (ns.map V.str) us → PySem.W.EachIs (fun v x => ∃ t, v = Value.str x t) us ns
  | [], us, v => by cases v; exact .nil
  | x :: ns, us, v => by
    cases v with
    | cons v1 v2 => exact .cons v1 (each_strs v2)
theorem each_strs_back : ∀ {ns : List Str} {us : List Value}, PySem.W.EachIs (fun v x => ∃ t, v = Value.str x t) us ns → Vals (ns.map V.str) us
  | _, _, .nil => .nil
  | _, _, .cons h t => .cons h (each_strs_back t)
theorem dicOf_rep {st : Sto} (s : SRep K ca ρ H st) {d : D} {kvs : List (Key × D)} {v : V} (e : dicOf st d = some kvs) (r : Rep K ca ρ st.length H d v) : ∃ a ws, v = .ref a ∧ Rd H a (.dK ws) ∧ RepKV K ca ρ st.length H kvs ws := by
  cases d with
  | obj i =>
    simp only [Rep] at r
    simp only [dicOf] at e
    cases q : st[i]? with
    | none => simp [q] at e
    | some m =>
      cases m with
      | dic es =>
        simp only [q, Option.some.injEq] at e; subst e
        obtain ⟨ws, h, rr⟩ := s.at_ i _ q
        exact ⟨ρ i, ws, r.2, .inl h, rr⟩
      | lck es =>
        simp only [q, Option.some.injEq] at e; subst e
        obtain ⟨o, ws, h, rr⟩ := s.at_ i _ q
        exact ⟨ρ i, ws, r.2, .inr ⟨o, h⟩, rr⟩
      | _ => simp [q] at e
  | _ => simp [dicOf] at e
end
section
variable {X : Cx} {ca : CA} {W : WX} {a b c e o : Expr} {es : List Expr} {f g k : FE} {pos p apos cpos : Pos} {x : Str}
theorem cr_sumD (hc : X.calm = true) : CallR X (.builtin "sum") (rDL ca X.K oSum) := CallR.imp (cr_sum hc) fun xs H Q ⟨ρ, st, ds, rs, s, q⟩ => by
  match ds, rs, q with
  | [d], rs, q =>
    obtain ⟨v, rfl, rv⟩ := rs.one
    simp only [oSum] at q
    cases e : (listOf st d).bind intsD with
    | none => simp only [e] at q; exact q.elim
    | some ns =>
      simp only [e] at q
      obtain ⟨es, e1, e2⟩ := Option.bind_eq_some_iff.mp e
      obtain ⟨a, ys, rfl, hq, rr⟩ := listOf_rep s e1 rv
      exact ⟨a, ns, rfl, by rw [← reps_ints e2 rr]; exact hq, q.here s _ (by simp only [Rep])⟩
  | [], _, q => exact q.elim
  | _ :: _ :: _, _, q => exact q.elim
theorem cr_sortS (hd : Deep X) : CallR X (.builtin "sorted") (rDL ca X.K oSortS) := by
  intro pins s σ H xs us Q I rv ⟨ρ, st, ds, rs, sr, q⟩
  match ds, rs, q with
  | [d], rs, q =>
    obtain ⟨v, rfl, rx⟩ := rs.one
    simp only [oSortS] at q
    cases e : (listOf st d).bind strsD with
    | none => simp only [e] at q; exact q.elim
    | some ns =>
      simp only [e] at q
      by_cases hl : ns.length ≤ sizeLine
      · rw [if_pos hl] at q
        obtain ⟨es, e1, e2⟩ := Option.bind_eq_some_iff.mp e
        obtain ⟨l, ys, rfl, hq, rr⟩ := listOf_rep sr e1 rx
        obtain rfl := Vals.ref1 rv
        rw [reps_strs e2 rr] at hq
        obtain ⟨its, r2, pl, hz⟩ := I.list hq
        have each := each_strs r2
        refine PySem.W.sorted_data (enc := PyData.str) (bs := ns) pl.isList each (each.mono fun v x ⟨t, h⟩ => ⟨[], by rw [h]; exact .str x t⟩) (fun a ha b hb => ?_) (.inr fun a ha => ?_) hl (fun x hx => ?_) fun out hlen e3 => ?_
        · obtain ⟨u, _, rfl⟩ := List.mem_map.mp ha
          obtain ⟨v, _, rfl⟩ := List.mem_map.mp hb
          rfl
        · obtain ⟨u, _, rfl⟩ := List.mem_map.mp ha
          exact ⟨nofun, fun _ => nofun⟩
        · show X.A.units + 2 + PyData.depth (.str x) < cLine
          simp only [PyData.depth]
          exact Nat.lt_of_le_of_lt (by omega) hd
        · obtain ⟨ep, he⟩ := PyProof.Rows.sortedAll_at s.heap its (List.toArray out)
          have np : H (s.heap.objs.size + 1) = none := I.hok.fresh (Nat.le_succ _)
          refine ⟨.ref (s.heap.objs.size + 1), upd H (s.heap.objs.size + 1) (.lst ((ns.mergeSort leS).map V.str)), I.laid (t' := s.toks) (fun _ _ => PyProof.Rows.sortedAll_old) (Nat.le_succ _) ⟨?_, _, ep, each_strs_back e3, he⟩, rfl, ?_⟩
          · rw [List.length_map, List.length_mergeSort]; exact hl
          · exact q _ ρ (Ext.upd_new sr np) (sr.upd_new np) _ (rep_lv_new sr np (reps_strs_back _))
      · rw [if_neg hl] at q; exact q.elim
  | [], _, q => exact q.elim
  | _ :: _ :: _, _, q => exact q.elim
theorem cr_dictOf : CallR X (.type "dict") (rDL ca X.K oDictOf) := CallR.imp call_dictD fun xs H Q ⟨ρ, st, ds, rs, s, q⟩ => by
  match ds, rs, q with
  | [d], rs, q =>
    obtain ⟨v, rfl, rv⟩ := rs.one
    simp only [oDictOf] at q
    cases e : dicOf st d with
    | none => simp only [e] at q; exact q.elim
    | some kvs =>
      simp only [e] at q
      obtain ⟨a, ws, rfl, hr, rr⟩ := dicOf_rep s e rv
      refine ⟨a, ws, rfl, hr, fun p hp => ?_⟩
      have x := ext_more (o := .dK ws) s hp (MO.dic kvs)
      exact q _ _ x (s.more hp (kept_new hp) ⟨ws, upd_same, by rw [List.length_append, List.length_singleton] at x; exact rr.ext x⟩) _ (rep_obj_new _)
  | [], _, q => exact q.elim
  | _ :: _ :: _, _, q => exact q.elim
/-! ### xs[::-1] -/
def kRev (d : D) (st : Sto) : R D := match listOf st d with
  | some ds => .ok (.lv ds.reverse) st
  | none => .bad
def fRev (f : FE) : FE := fun τ st => (f τ st).bind kRev
theorem je_rev {k : Nat} {p1 p2 p3 : Pos} (ha : JE X ca W a f) : JE X ca W (.Subscript a (.Slice none none (some (.UnaryOp .USub (.Constant (.int 1) k p1) p2)) p3) pos) (fRev f) :=
  pe_imp (pe_revL ha) fun σ H Q ⟨ρ, st, τ, sl, s, h⟩ => at_of sl s h fun d ρ1 st1 H1 x1 sl1 s1 h1 v rv => by
    unfold kRev at h1
    cases e : listOf st1 d with
    | none => rw [e] at h1; exact h1.elim
    | some ds =>
      rw [e] at h1
      obtain ⟨l, ys, rfl, hq, rr⟩ := listOf_rep s1 e rv
      exact ⟨l, ys, rfl, hq, fun p hp => h1 _ ρ1 (Ext.upd_new s1 hp) (s1.upd_new hp) _ (rep_lv_new s1 hp rr.reverse)⟩
/-! ### d.get(k, x) -/
def isDk (st : Sto) (d : D) : Bool := (dictLook st d (.str "")).isSome || (dictLook st d (.tup [])).isSome
theorem isDk_rep {K : PySem.W.Frag} {ρ : Nat → Addr} {H : Hp} {st : Sto} (s : SRep K ca ρ H st) {d : D} {v : V} (e : isDk st d = true) (r : Rep K ca ρ st.length H d v) : ∃ a, v = .ref a ∧ IsD H a := by
  cases d with
  | dv ks vs =>
    simp only [Rep] at r
    obtain ⟨a, kvs, rfl, q, _⟩ := r
    exact ⟨a, rfl, .inl ⟨kvs, q.rd⟩⟩
  | obj i =>
    simp only [Rep] at r
    simp only [isDk, dictLook] at e
    cases q : st[i]? with
    | none => simp [q] at e
    | some m =>
      cases m with
      | dic es =>
        obtain ⟨ws, h, rr⟩ := s.at_ i _ q
        exact ⟨ρ i, r.2, .inl ⟨ws, .inl h⟩⟩
      | dit es =>
        obtain ⟨ws, h, rr⟩ := s.at_ i _ q
        exact ⟨ρ i, r.2, .inr ⟨ws, .inl h⟩⟩
      | lck es =>
        obtain ⟨o, ws, h, rr⟩ := s.at_ i _ q
        exact ⟨ρ i, r.2, .inl ⟨ws, .inr ⟨o, h⟩⟩⟩
      | _ => simp [q] at e
  | _ => simp [isDk, dictLook] at e
def kGet3 (d k z : D) (st : Sto) : R D := match dictLook st d k with
  | some w => .ok (w.getD z) st
  | none => .bad
def kGet2 (g : FE) (τ : Ti) (d k : D) (st : Sto) : R D := (g τ st).bind (kGet3 d k)
def kGet1 (k g : FE) (τ : Ti) (d : D) (st : Sto) : R D := if isDk st d = true then (k τ st).bind (kGet2 g τ d) else .bad
def fDget (f k g : FE) : FE := fun τ st => (f τ st).bind (kGet1 k g τ)
theorem je_dget2 (hu : Deep X) (ho : JE X ca W o f) (he : JE X ca W e k) (hf : JE X ca W c g) (m : M2 X o "get" apos e c cpos := by exact ⟨rfl, rfl, rfl, rfl⟩) : JE X ca W (.Call (.Attribute o "get" apos) [e, c] [] cpos) (fDget f k g) :=
  pe_imp (pe_dget2 (deep1 hu) ho he hf m) fun σ H Q ⟨ρ, st, τ, sl, s, h⟩ => at_of sl s h fun d ρ1 st1 H1 x1 sl1 s1 h1 v rv => by
    unfold kGet1 at h1
    by_cases q : isDk st1 d = true
    · rw [if_pos q] at h1
      obtain ⟨a0, rfl, id⟩ := isDk_rep s1 q rv
      refine ⟨a0, rfl, id, at_of sl1 s1 h1 fun y ρ2 st2 H2 x2 sl2 s2 h2 yv ry => at_of sl2 s2 h2 fun z ρ3 st3 H3 x3 sl3 s3 h3 zv rz => ?_⟩
      unfold kGet3 at h3
      cases el : dictLook st3 d y with
      | none => rw [el] at h3; exact h3.elim
      | some w =>
        rw [el] at h3
        obtain ⟨a1, w1, e1, _, dg, wz⟩ := dictLook_rep s3 el ((rv.ext x2).ext x3) (ry.ext x3)
        cases e1
        refine ⟨w1, dg, h3.here s3 _ ?_⟩
        rcases wz with ⟨rfl, rfl⟩ | ⟨d', z', rfl, rfl, rr⟩
        · exact rz
        · exact rr
    · rw [if_neg q] at h1; exact h1.elim
/-! ### None in a dict -/
def isDK1 (st : Sto) (e : D) : Bool := (dictLook st e (.str "")).isSome
def opInN (d e : D) (st : Sto) : R D := match d with
  | .non => if isDK1 st e = true then .ok (.bl false) st else .bad
  | d => match dictLook st e d with
    | some w => .ok (.bl w.isSome) st
    | none => .bad
def opNotInN (d e : D) (st : Sto) : R D := match d with
  | .non => if isDK1 st e = true then .ok (.bl true) st else .bad
  | d => match dictLook st e d with
    | some w => .ok (.bl (!w.isSome)) st
    | none => .bad
theorem isDK1_rep {K : PySem.W.Frag} {ρ : Nat → Addr} {H : Hp} {st : Sto} (s : SRep K ca ρ H st) {d : D} {v : V} (e : isDK1 st d = true) (r : Rep K ca ρ st.length H d v) : ∃ a kvs, v = .ref a ∧ Rd H a (.dK kvs) := by
  cases d with
  | dv ks vs =>
    simp only [Rep] at r
    obtain ⟨a, kvs, rfl, q, _⟩ := r
    exact ⟨a, kvs, rfl, q.rd⟩
  | obj i =>
    simp only [Rep] at r
    simp only [isDK1, dictLook] at e
    cases q : st[i]? with
    | none => simp [q] at e
    | some m =>
      cases m with
      | dic es =>
        obtain ⟨ws, h, rr⟩ := s.at_ i _ q
        exact ⟨ρ i, ws, r.2, .inl h⟩
      | lck es =>
        obtain ⟨o, ws, h, rr⟩ := s.at_ i _ q
        exact ⟨ρ i, ws, r.2, .inr ⟨o, h⟩⟩
      | dit es => simp [q, tkeyOf] at e
      | _ => simp [q] at e
  | _ => simp [isDK1, dictLook] at e
theorem inN_go {K : PySem.W.Frag} {neg : Bool} {σ : L2.St} {H : Hp} {Q : VK} {τ : Ti} {st : Sto} {ρ : Nat → Addr} (sl : Slots K ca ρ st.length H τ σ) (s : SRep K ca ρ H st)
    (h : Post K ca W ρ st.length H (fOp (if neg then opNotInN else opInN) f g τ st) (KD K ca Q)) :
    tD K ca W f σ H fun y H1 => tD K ca W g σ H1 fun x H2 => (∃ a o, x = .ref a ∧ DGet H2 a y o ∧ Q (.bl (if neg then !o.isSome else o.isSome)) H2) ∨ ∃ a kvs, x = .ref a ∧ y = .non ∧ Rd H2 a (.dK kvs) ∧ Q (.bl neg) H2 :=
  at_of sl s h fun d ρ1 st1 H1 x1 sl1 s1 h1 v rv => at_of sl1 s1 h1 fun e ρ2 st2 H2 x2 sl2 s2 h2 u ru => by
    have nonk : ∀ (w : Option D), dictLook st2 e d = some w → Post K ca W ρ2 st2.length H2 (.ok (.bl (if neg then !w.isSome else w.isSome)) st2) (KD K ca Q) →
        ∃ a o, u = .ref a ∧ DGet H2 a v o ∧ Q (.bl (if neg then !o.isSome else o.isSome)) H2 := fun w el hp => by
      obtain ⟨a1, w1, e1, _, dg, wz⟩ := dictLook_rep s2 el ru (rv.ext x2)
      refine ⟨a1, w1, e1, dg, hp.here s2 _ ?_⟩
      simp only [Rep]
      rcases wz with ⟨rfl, rfl⟩ | ⟨d', z', rfl, rfl, rr⟩ <;> rfl
    by_cases nd : d = .non
    · subst nd
      have hv : v = .non := by simpa only [Rep] using rv
      have h3 : Post K ca W ρ2 st2.length H2 (if isDK1 st2 e = true then .ok (.bl neg) st2 else .bad) (KD K ca Q) := by cases neg <;> exact h2
      by_cases q : isDK1 st2 e = true
      · rw [if_pos q] at h3
        obtain ⟨a, kvs, eu, rd⟩ := isDK1_rep s2 q ru
        exact .inr ⟨a, kvs, eu, hv, rd, h3.here s2 _ (by simp only [Rep])⟩
      · rw [if_neg q] at h3; exact h3.elim
    · have h3 : Post K ca W ρ2 st2.length H2 (match dictLook st2 e d with | some w => .ok (.bl (if neg then !w.isSome else w.isSome)) st2 | none => .bad) (KD K ca Q) := by
        cases neg <;> (cases d <;> first | exact h2 | exact absurd rfl nd)
      cases el : dictLook st2 e d with
      | none => rw [el] at h3; exact h3.elim
      | some w => rw [el] at h3; exact .inl (nonk w el h3)
theorem je_inN (hu : Deep X) (ha : JE X ca W a f) (hb : JE X ca W b g) (hm : behindInMarks .In b = false := by with_unfolding_all rfl) : JE X ca W (.Compare a [.In] [b] pos) (fOp opInN f g) :=
  pe_imp (pe_cmp (pc_dinN (deep1 hu) ha hb) hm) fun σ H Q ⟨ρ, st, τ, sl, s, h⟩ => inN_go (neg := false) sl s h
theorem je_notinN (hu : Deep X) (ha : JE X ca W a f) (hb : JE X ca W b g) (hm : behindInMarks .NotIn b = false := by with_unfolding_all rfl) : JE X ca W (.Compare a [.NotIn] [b] pos) (fOp opNotInN f g) :=
  pe_imp (pe_cmp (pc_dnotinN (deep1 hu) ha hb) hm) fun σ H Q ⟨ρ, st, τ, sl, s, h⟩ => inN_go (neg := true) sl s h
theorem post_bof {K : PySem.W.Frag} {ρ : Nat → Addr} {n : Nat} {H : Hp} {F : FE} {τ : Ti} {st : Sto} {Q : Bool → Hp → Prop} (h : Post K ca W ρ n H (bOf F τ st) (KB Q)) : Post K ca W ρ n H (F τ st) (KD K ca (fun v H' => ∃ c, v = .bl c ∧ Q c H')) :=
  (Post.bind h).mono fun a ρ3 st3 H3 x3 s3 q v3 r3 => by
    obtain ⟨_, _, q⟩ := q
    cases a with
    | bl k => simp only [Rep] at r3; exact ⟨k, r3, q.here s3⟩
    | _ => exact q.elim
theorem jb_inN (hu : Deep X) (ha : JE X ca W a f) (hb : JE X ca W b g) (hm : behindInMarks .In b = false := by with_unfolding_all rfl) : JB X ca W (.Compare a [.In] [b] pos) (bOf (fOp opInN f g)) :=
  pt_imp (pt_cmp (pc_dinN (deep1 hu) ha hb) hm) fun σ H Q ⟨ρ, st, τ, sl, s, h⟩ => inN_go (neg := false) sl s (post_bof h)
theorem jb_notinN (hu : Deep X) (ha : JE X ca W a f) (hb : JE X ca W b g) (hm : behindInMarks .NotIn b = false := by with_unfolding_all rfl) : JB X ca W (.Compare a [.NotIn] [b] pos) (bOf (fOp opNotInN f g)) :=
  pt_imp (pt_cmp (pc_dnotinN (deep1 hu) ha hb) hm) fun σ H Q ⟨ρ, st, τ, sl, s, h⟩ => inN_go (neg := true) sl s (post_bof h)
/-! ### {k: v, ..} -/
abbrev FP := Ti → Sto → R (List (D × D))
def pNil : FP := fun _ st => .ok [] st
def kPair3 (d e : D) (ps : List (D × D)) (st : Sto) : R (List (D × D)) := .ok ((d, e) :: ps) st
def kPair2 (q : FP) (τ : Ti) (d e : D) (st : Sto) : R (List (D × D)) := (q τ st).bind (kPair3 d e)
def kPair1 (g : FE) (q : FP) (τ : Ti) (d : D) (st : Sto) : R (List (D × D)) := (g τ st).bind (kPair2 q τ d)
def pCons (f g : FE) (q : FP) : FP := fun τ st => (f τ st).bind (kPair1 g q τ)
def RepPs (K : PySem.W.Frag) (ca : CA) (ρ : Nat → Addr) (n : Nat) (H : Hp) : List (D × D) → List (V × V) → Prop
  | [], vs => vs = []
  | p :: ps, vs => ∃ x y r, vs = (x, y) :: r ∧ Rep K ca ρ n H p.1 x ∧ Rep K ca ρ n H p.2 y ∧ RepPs K ca ρ n H ps r
def JP (X : Cx) (ca : CA) (W : WX) (pos : Pos) (ks : List (Option Expr)) (vs : List Expr) (q : FP) : Prop :=
  ∃ trs, PPs X pos ks vs trs ∧ ∀ σ H Q, At X.K ca W q σ H (fun ps ρ st H1 => ∀ ws, RepPs X.K ca ρ st.length H1 ps ws → Q ws H1) → tPairs trs σ H Q
theorem jp_nil : JP X ca W pos [] [] pNil := ⟨[], pps_nil, fun σ H Q ⟨ρ, st, τ, sl, s, h⟩ => h.here s [] rfl⟩
theorem jp_cons {ks : List (Option Expr)} {vs : List Expr} {q : FP} (ha : JE X ca W a f) (hb : JE X ca W b g) (hr : JP X ca W pos ks vs q) : JP X ca W pos (some a :: ks) (b :: vs) (pCons f g q) := by
  obtain ⟨trs, h1, h2⟩ := hr
  refine ⟨_, pps_cons ha hb h1, fun σ H Q ⟨ρ, st, τ, sl, s, h⟩ => ?_⟩
  exact at_of sl s h fun d ρ1 st1 H1 x1 sl1 s1 h1 v rv => at_of sl1 s1 h1 fun e ρ2 st2 H2 x2 sl2 s2 h3 u ru => h2 _ _ _ (at_of sl2 s2 h3 fun ps ρ3 st3 H3 x3 sl3 s3 h4 ws rs =>
    h4.here s3 _ ⟨v, u, ws, rfl, (rv.ext x2).ext x3, ru.ext x3, rs⟩)
def pairsK : List (D × D) → Option (List (Key × D))
  | [] => some []
  | p :: r => match keyOf p.1, pairsK r with
    | some k, some q => some ((k, p.2) :: q)
    | _, _ => none
def mergeD (kvs more : List (Key × D)) : List (Key × D) := more.foldl (fun acc kv => putD acc kv.1 kv.2) kvs
theorem pairsK_rep {K : PySem.W.Frag} {ρ : Nat → Addr} {n : Nat} {H : Hp} : ∀ {ps : List (D × D)} {ws : List (V × V)} {kvs : List (Key × D)}, pairsK ps = some kvs → RepPs K ca ρ n H ps ws → ∃ us, ws = us.map (fun kv => (kV kv.1, kv.2)) ∧ RepKV K ca ρ n H kvs us
  | [], ws, kvs, e, r => by
    simp only [pairsK, Option.some.injEq] at e
    subst e
    simp only [RepPs] at r
    subst r
    exact ⟨[], rfl, by simp only [RepKV]⟩
  | p :: ps, ws, kvs, e, r => by
    obtain ⟨x, y, r', rfl, r1, r2, r3⟩ := r
    unfold pairsK at e
    cases e1 : keyOf p.1 with
    | none => rw [e1] at e; cases e
    | some k =>
      cases e2 : pairsK ps with
      | none => rw [e1, e2] at e; cases e
      | some q =>
        rw [e1, e2] at e
        cases e
        obtain ⟨us, e3, r4⟩ := pairsK_rep e2 r3
        refine ⟨(k, y) :: us, ?_, ?_⟩
        · rw [e3]
          have : x = kV k := by
            obtain ⟨d, e⟩ := p
            cases d with
            | int i => simp only [keyOf, Option.some.injEq] at e1; subst e1; simp only [Rep] at r1; exact r1
            | str i => simp only [keyOf, Option.some.injEq] at e1; subst e1; simp only [Rep] at r1; exact r1
            | _ => cases e1
          rw [this]
          rfl
        · simp only [RepKV]
          exact ⟨y, us, rfl, r2, r4⟩
theorem repKV_merge {K : PySem.W.Frag} {ρ : Nat → Addr} {n : Nat} {H : Hp} : ∀ (more : List (Key × D)) {mws : List (Key × V)} {kvs : List (Key × D)} {ws : List (Key × V)}, RepKV K ca ρ n H more mws → RepKV K ca ρ n H kvs ws → RepKV K ca ρ n H (mergeD kvs more) (mergeK ws mws)
  | [], mws, kvs, ws, r, q => by simp only [RepKV] at r; subst r; exact q
  | p :: more, mws, kvs, ws, r, q => by
    simp only [RepKV] at r
    obtain ⟨v, r', rfl, r1, r2⟩ := r
    show RepKV K ca ρ n H (mergeD (putD kvs p.1 p.2) more) (mergeK (putK ws p.1 v) r')
    exact repKV_merge more r2 (RepKV.put r1 q)
def kDisp (n : Nat) (ps : List (D × D)) (st : Sto) : R D := match pairsK ps, st[n]? with
  | some kvs, some (.dic []) => if kvs.length ≤ 15 then .ok (.obj n) (st.set n (.dic (mergeD [] kvs))) else .bad
  | _, _ => .bad
def fDisp (q : FP) : FE := fun τ st => (q τ (st ++ [.dic []])).bind (kDisp st.length)
theorem je_disp {ks : List (Option Expr)} {vs : List Expr} {q : FP} (h : JP X ca W pos ks vs q) (hall : ks.all (·.isSome) = true := by rfl) (hl : ks.length = vs.length := by rfl) (h0 : ks ≠ [] := by exact fun z => by cases z) (h15 : ks.length ≤ 15 := by decide) :
    JE X ca W (.Dict ks vs pos) (fDisp q) := by
  obtain ⟨trs, h1, h2⟩ := h
  refine pe_imp (pe_disp h1 hall hl h0 h15) fun σ H Q ⟨ρ, st, τ, sl, s, h⟩ p hp => h2 _ _ _ ?_
  have x0 := ext_more (o := .dK []) s hp (MO.dic [])
  have s0 := s.more hp (kept_new (o := .dK []) hp) (m := .dic []) ⟨[], upd_same, by simp only [RepKV]⟩
  refine at_of (sl.ext x0) s0 (f := q) (Post.pre x0 h) fun ps ρ2 st2 H2 x2 sl2 s2 h3 ws rs => ?_
  unfold kDisp at h3
  cases e1 : pairsK ps with
  | none => rw [e1] at h3; exact h3.elim
  | some kvs =>
    cases e2 : st2[st.length]? with
    | none => rw [e1, e2] at h3; exact h3.elim
    | some m =>
      rw [e1, e2] at h3
      cases m with
      | dic es =>
        cases es with
        | cons a b => exact h3.elim
        | nil =>
          simp only at h3
          by_cases hk : kvs.length ≤ 15
          · rw [if_pos hk] at h3
            obtain ⟨us, e3, rk⟩ := pairsK_rep e1 rs
            obtain ⟨w0, ha, r0⟩ := s2.at_ _ _ e2
            have w0e : w0 = [] := by simpa only [RepKV] using r0
            have hρ : ρ2 st.length = p := by
              rw [x2.same st.length (by rw [List.length_append, List.length_singleton]; exact Nat.lt_succ_self _)]
              exact more_same
            rw [hρ, w0e] at ha
            have hlen : us.length = kvs.length := by
              have : ∀ {a : List (Key × D)} {b : List (Key × V)}, RepKV X.K ca ρ2 st2.length H2 a b → b.length = a.length := by
                intro a
                induction a with
                | nil => intro b r; simp only [RepKV] at r; subst r; rfl
                | cons c a ih =>
                  intro b r
                  simp only [RepKV] at r
                  obtain ⟨v, t, rfl, _, r2⟩ := r
                  rw [List.length_cons, List.length_cons, ih r2]
              exact this rk
            refine ⟨ha, us, e3, by rw [hlen]; exact hk, ?_⟩
            have xw : Ext ρ2 st2.length H2 ρ2 st2.length (upd H2 p (.dK (mergeK [] us))) := by rw [← hρ]; exact Ext.write s2 e2 rfl
            have s3 : SRep X.K ca ρ2 (upd H2 p (.dK (mergeK [] us))) (st2.set st.length (.dic (mergeD [] kvs))) := by
              have := s2.write (o := .dK (mergeK [] us)) (m := .dic (mergeD [] kvs)) e2 rfl ⟨_, upd_same, by
                have := repKV_merge _ (rk.ext (Ext.write (o := .dK (mergeK [] us)) s2 e2 rfl)) (show RepKV X.K ca ρ2 st2.length _ ([] : List (Key × D)) [] by simp only [RepKV])
                exact this⟩
              rw [hρ] at this
              exact this
            refine h3 _ ρ2 (by rw [List.length_set]; exact xw) s3 _ ?_
            simp only [Rep]
            rw [List.length_set]
            exact ⟨(List.getElem?_eq_some_iff.mp e2).1, by rw [hρ]⟩
          · rw [if_neg hk] at h3; exact h3.elim
      | _ => exact h3.elim
end
end DL
set_option Elab.async false
set_option linter.all false
set_option maxRecDepth 100000
set_option maxHeartbeats 4000000
namespace DL
open PySem PySem.Spec PyProof.Rows L2 DL.Ex
/-! evaluation of DL18, DL19; instances; dicts -/
@[simp] theorem fSortK_eq (f : FE) (τ : Ti) (st : Sto) : fSortK f τ st = (f τ st).bind kSortK := rfl
theorem kSortK_lv {ds : List D} (h : ∀ d, d ∈ ds → (key0 d).isSome = true) (hl : ds.length ≤ sizeLine) (st : Sto) : kSortK (.lv ds) st = .ok (.lv (ds.mergeSort leK)) st :=
  if_pos ⟨List.all_eq_true.mpr h, hl⟩
@[simp] theorem fDget_eq (f k g : FE) (τ : Ti) (st : Sto) : fDget f k g τ st = (f τ st).bind (kGet1 k g τ) := rfl
@[simp] theorem kGet2_eq (g : FE) (τ : Ti) (d k : D) (st : Sto) : kGet2 g τ d k st = (g τ st).bind (kGet3 d k) := rfl
theorem kGet1_eq {st : Sto} {d : D} (h : isDk st d = true) (k g : FE) (τ : Ti) : kGet1 k g τ d st = (k τ st).bind (kGet2 g τ d) := if_pos h
theorem kGet3_eq {st : Sto} {d k : D} {w : Option D} (h : dictLook st d k = some w) (z : D) : kGet3 d k z st = .ok (w.getD z) st := by unfold kGet3; rw [h]
@[simp] theorem fRev_eq (f : FE) (τ : Ti) (st : Sto) : fRev f τ st = (f τ st).bind kRev := rfl
@[simp] theorem kRev_lv (ds : List D) (st : Sto) : kRev (.lv ds) st = .ok (.lv ds.reverse) st := rfl
@[simp] theorem fDisp_eq (q : FP) (τ : Ti) (st : Sto) : fDisp q τ st = (q τ (st ++ [.dic []])).bind (kDisp st.length) := rfl
@[simp] theorem pNil_eq (τ : Ti) (st : Sto) : pNil τ st = .ok [] st := rfl
@[simp] theorem pCons_eq (f g : FE) (q : FP) (τ : Ti) (st : Sto) : pCons f g q τ st = (f τ st).bind (kPair1 g q τ) := rfl
@[simp] theorem kPair1_eq (g : FE) (q : FP) (τ : Ti) (d : D) (st : Sto) : kPair1 g q τ d st = (g τ st).bind (kPair2 q τ d) := rfl
@[simp] theorem kPair2_eq (q : FP) (τ : Ti) (d e : D) (st : Sto) : kPair2 q τ d e st = (q τ st).bind (kPair3 d e) := rfl
@[simp] theorem kPair3_eq (d e : D) (ps : List (D × D)) (st : Sto) : kPair3 d e ps st = .ok ((d, e) :: ps) st := rfl
theorem kDisp_eq {ps : List (D × D)} {kvs : List (Key × D)} (h : pairsK ps = some kvs) (hl : kvs.length ≤ 15) (st : Sto) : kDisp st.length ps (st ++ [.dic []]) = .ok (.obj st.length) (st ++ [.dic (mergeD [] kvs)]) := by
  unfold kDisp
  rw [h, get_last]
  simp only [set_last]
  exact if_pos hl
@[simp] theorem oSum_lv (ns : List Int) (st : Sto) : oSum [.lv (ns.map D.int)] st = .ok (.int ns.sum) st := by
  have : ∀ ns : List Int, intsD (ns.map D.int) = some ns := fun ns => by
    induction ns with
    | nil => rfl
    | cons i r ih => rw [List.map_cons, intsD, ih]; rfl
  have e : (listOf st (.lv (ns.map D.int))).bind intsD = some ns := this ns
  simp only [oSum, e]
theorem strsD_map (ns : List Str) : strsD (ns.map D.str) = some ns := by
  induction ns with
  | nil => rfl
  | cons i r ih => rw [List.map_cons, strsD, ih]; rfl
theorem oSortS_of {st : Sto} {d : D} {ns : List Str} (h : listOf st d = some (ns.map D.str)) (hl : ns.length ≤ sizeLine) : oSortS [d] st = .ok (.lv ((ns.mergeSort leS).map D.str)) st := by
  have e : (listOf st d).bind strsD = some ns := by rw [h]; exact strsD_map ns
  simp only [oSortS, e]
  exact if_pos hl
theorem listOf_obj {st : Sto} {k : Nat} {xs : List D} (h : st[k]? = some (.lst xs)) : listOf st (.obj k) = some xs := by simp only [listOf, h]
theorem oDictOf_dic {st : Sto} {k : Nat} {kvs : List (Key × D)} (h : st[k]? = some (.dic kvs)) : oDictOf [.obj k] st = .ok (.obj st.length) (st ++ [.dic kvs]) := by
  have e : dicOf st (.obj k) = some kvs := by simp only [dicOf, h]
  simp only [oDictOf, e]
/-! ### a dict of the store -/
section
variable {st : Sto} {k : Nat} {kvs : List (Key × D)}
theorem look_dic (h : st[k]? = some (.dic kvs)) (x : Str) : dictLook st (.obj k) (.str x) = some (valD kvs (.inr x)) := by simp only [dictLook, h, keyOf, Option.map_some]
theorem look_lck (h : st[k]? = some (.lck kvs)) (x : Str) : dictLook st (.obj k) (.str x) = some (valD kvs (.inr x)) := by simp only [dictLook, h, keyOf, Option.map_some]
theorem isDk_of {d : D} {w : Option D} (h : dictLook st d (.str "") = some w) : isDk st d = true := by unfold isDk; rw [h]; rfl
theorem inN_str {d : D} {x : Str} {w : Option D} (h : dictLook st d (.str x) = some w) : opInN (.str x) d st = .ok (.bl w.isSome) st := by unfold opInN; simp only [h]
theorem notInN_str {d : D} {x : Str} {w : Option D} (h : dictLook st d (.str x) = some w) : opNotInN (.str x) d st = .ok (.bl (!w.isSome)) st := by unfold opNotInN; simp only [h]
theorem inN_non {d : D} {w : Option D} (h : dictLook st d (.str "") = some w) : opInN .non d st = .ok (.bl false) st := by
  show (if isDK1 st d = true then R.ok (D.bl false) st else R.bad) = _
  rw [if_pos (by unfold isDK1; rw [h]; rfl)]
theorem notInN_non {d : D} {w : Option D} (h : dictLook st d (.str "") = some w) : opNotInN .non d st = .ok (.bl true) st := by
  show (if isDK1 st d = true then R.ok (D.bl true) st else R.bad) = _
  rw [if_pos (by unfold isDK1; rw [h]; rfl)]
theorem opIx_dict {x : Str} {w : Option D} (ho : (∃ kvs, st[k]? = some (.dic kvs)) ∨ ∃ kvs, st[k]? = some (.lck kvs)) (h : dictLook st (.obj k) (.str x) = some w) : opIx (.obj k) (.str x) st = ofO w st := by
  have e : seqOf st (.obj k) = none := by
    rcases ho with ⟨q, h⟩ | ⟨q, h⟩ <;> simp only [seqOf, listOf, h]
  unfold opIx
  simp only [e, h]
theorem opNotIn_dict' {x : Str} {w : Option D} (h : dictLook st (.obj k) (.str x) = some w) : opNotIn (.str x) (.obj k) st = .ok (.bl (!w.isSome)) st := opNotIn_dict _ _ _ _ h
theorem opIn_dict' {x : Str} {w : Option D} (h : dictLook st (.obj k) (.str x) = some w) : opIn (.str x) (.obj k) st = .ok (.bl w.isSome) st := opIn_dict _ _ _ _ h
theorem putItem_dic (h : st[k]? = some (.dic kvs)) (hl : kvs.length < sizeLine) (x : Str) (d : D) : putItem (.obj k) (.str x) d st = .ok () (st.set k (.dic (putD kvs (.inr x) d))) := by
  simp only [putItem, h, keyOf, hl, if_true]
theorem oLen_dic (h : st[k]? = some (.dic kvs)) : oLen [.obj k] st = .ok (.int (kvs.length : Nat)) st := by simp only [oLen, lenD, h]
end
/-- a walk over a dict -/
theorem sForV_dic {f : FE} {g : FG} {u : FS} {τ : Ti} {st : Sto} {k : Nat} {kvs : List (Key × D)} (h1 : f τ st = .ok (.obj k) st) (h2 : st[k]? = some (.dic kvs)) (h3 : f τ (st.set k (.lck kvs)) = .ok (.obj k) (st.set k (.lck kvs))) :
    sForV f g u τ st = opened k kvs (forD g u (kvs.map fun p => kD p.1) τ (st.set k (.lck kvs))) := by
  have hk := (List.getElem?_eq_some_iff.mp h2).1
  have d : isDic f τ st = true := by unfold isDic; rw [h1]; simp only [h2]
  unfold sForV
  rw [if_pos d]
  unfold withLock
  rw [h1]
  simp only [h2]
  congr 1
  rw [sFor_eq]
  have : iLck (fun kvs => kvs.map fun p => kD p.1) f τ (st.set k (.lck kvs)) = .ok (.imm (kvs.map fun p => kD p.1)) (st.set k (.lck kvs)) := by
    unfold iLck
    rw [h3, bind_ok]
    have : lckOf (st.set k (.lck kvs)) (.obj k) = some kvs := by simp only [lckOf, List.getElem?_set_self hk]
    rw [this]
  rw [this, bind_ok, kFor_imm]
@[simp] theorem opened_ok {α : Type} (k : Nat) (kvs : List (Key × D)) (o : α) (st : Sto) : opened k kvs (.ok o st) = .ok o (st.set k (.dic kvs)) := rfl
/-! ### instances -/
section
variable {st : Sto} {k : Nat} {c : Str} {fs : List (Str × D)}
theorem insOf_at (h : st[k]? = some (.ins c fs)) : insOf st c (.obj k) = some fs := by simp only [insOf, h, if_true]
theorem kFld_at {y : Str} {d : D} (h : st[k]? = some (.ins c fs)) (e : fs.lookup y = some d) : kFld c y (.obj k) st = .ok d st := by
  unfold kFld; rw [insOf_at h]; simp only [e, ofO_some]
theorem kMeth1_at {m : Str} {n : Nat} {r : Fn} {g : FA} {τ : Ti} (h : st[k]? = some (.ins c fs)) (e : fs.lookup m = none) : kMeth1 c m n r g τ (.obj k) st = (g τ st).bind (kMeth n r τ (.obj k)) := by
  unfold kMeth1; rw [insOf_at h]; simp only [e, if_true]
theorem putAttr_at {y : Str} {d : D} (h : st[k]? = some (.ins c fs)) (hl : fs.length < 900) : putAttr c y (.obj k) d st = .ok () (st.set k (.ins c (putFD y d fs))) := by
  simp only [putAttr, h]
  exact if_pos ⟨trivial, by omega⟩
end
@[simp] theorem kMeth_1 (r : Fn) (τ : Ti) (d : D) (st : Sto) : kMeth 1 r τ d [] st = exAt τ (r [d] st) := rfl
@[simp] theorem kMeth_2 (r : Fn) (τ : Ti) (d e : D) (st : Sto) : kMeth 2 r τ d [e] st = exAt τ (r [d, e] st) := rfl
@[simp] theorem kMeth_3 (r : Fn) (τ : Ti) (d e g : D) (st : Sto) : kMeth 3 r τ d [e, g] st = exAt τ (r [d, e, g] st) := rfl
def kMade (n : Nat) (d : D) (st : Sto) : R D := match d with
  | .non => .ok (.obj n) st
  | _ => .bad
@[simp] theorem kMade_non (n : Nat) (st : Sto) : kMade n .non st = .ok (.obj n) st := rfl
def kMake (c : Str) (n : Nat) (r : Fn) (τ : Ti) (ds : List D) (st : Sto) : R D := if ds.length + 1 = n then (exAt τ (r (.obj st.length :: ds) (st ++ [.ins c []]))).bind (kMade st.length) else .bad
@[simp] theorem fMakeN_eq (c : Str) (n : Nat) (r : Fn) (h : FA) (τ : Ti) (st : Sto) : fMakeN c n r h τ st = (h τ st).bind (kMake c n r τ) := by
  unfold fMakeN; congr 1
@[simp] theorem kMake_1 (c : Str) (r : Fn) (τ : Ti) (st : Sto) : kMake c 1 r τ [] st = (exAt τ (r [.obj st.length] (st ++ [.ins c []]))).bind (kMade st.length) := rfl
@[simp] theorem kMake_2 (c : Str) (r : Fn) (τ : Ti) (a : D) (st : Sto) : kMake c 2 r τ [a] st = (exAt τ (r [.obj st.length, a] (st ++ [.ins c []]))).bind (kMade st.length) := rfl
@[simp] theorem kMake_3 (c : Str) (r : Fn) (τ : Ti) (a b : D) (st : Sto) : kMake c 3 r τ [a, b] st = (exAt τ (r [.obj st.length, a, b] (st ++ [.ins c []]))).bind (kMade st.length) := rfl
/-! ### the rest -/
@[simp] theorem opIs_non (d : D) (st : Sto) : opIs d .non st = .ok (.bl (isNonD d)) st := rfl
@[simp] theorem opIsNot_non (d : D) (st : Sto) : opIsNot d .non st = .ok (.bl (!isNonD d)) st := rfl
@[simp] theorem isNonD_non : isNonD .non = true := rfl
@[simp] theorem isNonD_str (x : Str) : isNonD (.str x) = false := rfl
@[simp] theorem isNonD_tup (ds : List D) : isNonD (.tup ds) = false := rfl
@[simp] theorem isNonD_obj (i : Nat) : isNonD (.obj i) = false := rfl
def kAug (i : Nat) (op : Int → Int → Int) (x : Int) (τ : Ti) (d : D) (st : Sto) : R Out := match d with
  | .int y => .ok (.nx (τ.set i (some (.int (op x y))))) st
  | _ => .bad
theorem opAddA_str {x y : Str} (h : x.length + y.length ≤ sizeLine) (st : Sto) : opAddA (.str x) (.str y) st = .ok (.str (x ++ y)) st := by
  have e : opAddA (.str x) (.str y) st = opAdd (.str x) (.str y) st := rfl
  rw [e]; exact if_pos h
theorem oAppend_at {st : Sto} {k : Nat} {xs : List D} (h : st[k]? = some (.lst xs)) (hl : xs.length < sizeLine) (d : D) : oAppend (.obj k) [d] st = .ok .non (st.set k (.lst (xs ++ [d]))) := by
  simp only [oAppend, h, hl, if_true]
/-- a comprehension, item by item, where nothing changes: over the images of a list -/
theorem lcD_on {α : Type} {g : FG} {t : FB} {e : FE} {τ : Ti} {st : Sto} (inp out : α → D) (xs : List α) (h : ∀ x, x ∈ xs → lcOne g t e τ (inp x) st = .ok (some (out x)) st) (hl : xs.length ≤ 16777216) :
    lcD g t e τ finLv (xs.map inp) [] st = .ok (.lv (xs.map out)) st := by
  have := lcD_list (g := g) (t := t) (e := e) (τ := τ) (fin := finLv) (st := st) (ps := xs.map fun x => (inp x, out x)) (acc := []) (fun p hp => by
    obtain ⟨x, hx, rfl⟩ := List.mem_map.mp hp
    exact h x hx) (by rw [sizeLine_eq, List.length_map, List.length_nil]; omega)
  rw [List.map_map, List.map_map, List.nil_append] at this
  exact this
/-- a comprehension whose items change the store: P tells what stands behind so many items -/
theorem lcD_run {α β : Type} {g : FG} {t : FB} {e : FE} {τ : Ti} {fin : List D → Sto → R β} (inp out : α → D) (S : List α → Sto) : ∀ (xs done : List α) (acc : List D),
    (∀ (ys : List α) (x : α) (zs : List α), done ++ xs = ys ++ x :: zs → done.length ≤ ys.length → lcOne g t e τ (inp x) (S ys) = .ok (some (out x)) (S (ys ++ [x]))) → acc.length + xs.length ≤ sizeLine →
    lcD g t e τ fin (xs.map inp) acc (S done) = fin (acc ++ xs.map out) (S (done ++ xs))
  | [], done, acc, _, _ => by rw [List.map_nil, lcD_nil]; simp
  | x :: xs, done, acc, h, hl => by
    simp only [List.length_cons] at hl
    rw [List.map_cons, lcD_cons, h done x xs rfl (Nat.le_refl _), bind_ok]
    show (if acc.length < sizeLine then lcD g t e τ fin (xs.map inp) (acc ++ [out x]) (S (done ++ [x])) else .bad) = _
    rw [if_pos (by omega), lcD_run inp out S xs (done ++ [x]) (acc ++ [out x]) (fun ys y zs e hy => h ys y zs (by rw [← e]; simp) (by rw [List.length_append, List.length_singleton] at hy; omega)) (by simp; omega)]
    simp
end DL
namespace DL
open PySem PySem.Spec PyProof.Rows L2 DL.Ex
/-- a comprehension whose items change the store: P tells what stands -/
theorem lcD_inv {β : Type} {g : FG} {t : FB} {e : FE} {τ : Ti} {fin : List D → Sto → R β} {P : List D → Sto → Prop} : ∀ (ds acc : List D) (st : Sto), P acc st → acc.length + ds.length ≤ 16777216 →
    (∀ d, d ∈ ds → ∀ acc st, P acc st → ∃ y st1, lcOne g t e τ d st = .ok (some y) st1 ∧ P (acc ++ [y]) st1) → ∃ acc' st', lcD g t e τ fin ds acc st = fin acc' st' ∧ P acc' st' ∧ acc'.length = acc.length + ds.length
  | [], acc, st, h, _, _ => ⟨acc, st, rfl, h, rfl⟩
  | d :: ds, acc, st, h, hl, step => by
    simp only [List.length_cons] at hl
    obtain ⟨y, st1, h1, h2⟩ := step d List.mem_cons_self acc st h
    obtain ⟨acc', st', h3, h4, h5⟩ := lcD_inv (fin := fin) ds (acc ++ [y]) st1 h2 (by rw [List.length_append, List.length_singleton]; omega) fun x hx => step x (List.mem_cons_of_mem _ hx)
    refine ⟨acc', st', ?_, h4, by rw [h5, List.length_append, List.length_singleton, List.length_cons]; omega⟩
    rw [lcD_cons, h1, bind_ok]
    show (if acc.length < sizeLine then lcD g t e τ fin ds (acc ++ [y]) st1 else .bad) = _
    rw [if_pos (by rw [sizeLine_eq]; omega), h3]
/-- what a draw leaves: the box is another one, objects may have come -/
structure Kp (b : Nat) (st st' : Sto) : Prop where
  box : Box st' b
  le : st.length ≤ st'.length
  at_ : ∀ i, i < st.length → i ≠ b → st'[i]? = st[i]?
theorem Kp.refl {b : Nat} {st : Sto} (B : Box st b) : Kp b st st := ⟨B, Nat.le_refl _, fun _ _ _ => rfl⟩
theorem Kp.trans {b : Nat} {s1 s2 s3 : Sto} (a : Kp b s1 s2) (c : Kp b s2 s3) : Kp b s1 s3 := ⟨c.box, Nat.le_trans a.le c.le, fun i h n => (c.at_ i (Nat.lt_of_lt_of_le h a.le) n).trans (a.at_ i h n)⟩
theorem Box.lt {st : Sto} {b : Nat} (B : Box st b) : b < st.length := by
  obtain ⟨g, a, ns, _, h, _⟩ := B.ex
  exact (List.getElem?_eq_some_iff.mp h).1
theorem Box.app {st : Sto} {b : Nat} (B : Box st b) (ms : Sto) : Box (st ++ ms) b := by
  obtain ⟨g, a, ns, ne, h1, h2⟩ := B.ex
  exact ⟨g, a, ns, ne, by rw [List.getElem?_append_left (List.getElem?_eq_some_iff.mp h1).1]; exact h1, by rw [List.getElem?_append_left (List.getElem?_eq_some_iff.mp h2).1]; exact h2⟩
theorem Kp.app {st : Sto} {b : Nat} (B : Box st b) (ms : Sto) : Kp b st (st ++ ms) := ⟨B.app ms, by simp, fun i h _ => List.getElem?_append_left h⟩
/-- an object behind is another one -/
theorem Box.set {st : Sto} {b i : Nat} {m : MO} (B : Box st b) (h : i ≠ b) (hm : ∀ ns : List D, st[i]? ≠ some (.lst ns)) : Box (st.set i m) b := by
  obtain ⟨g, a, ns, ne, h1, h2⟩ := B.ex
  have hg : i ≠ g := fun z => hm _ (z ▸ h2)
  exact ⟨g, a, ns, ne, by rw [List.getElem?_set_ne h]; exact h1, by rw [List.getElem?_set_ne hg]; exact h2⟩
theorem at_lt {st : Sto} {i : Nat} {m : MO} (h : st[i]? = some m) : i < st.length := (List.getElem?_eq_some_iff.mp h).1
/-- equal data are told equal -/
theorem eqDeep_same {st : Sto} {d : D} {p : PyData} (e : toPyS st d = some p) (hc : p.canLay0 = true) (hd : p.depth ≤ 64) : eqDeep st d d = some true := by
  have sh : SeqAt.shaped p = true := by unfold SeqAt.shaped; rw [hc, decide_eq_true hd]; rfl
  unfold eqDeep
  rw [e]
  simp only
  rw [if_pos ⟨sh, sh⟩, PySem.SeqAt.eqv_refl p hc]
theorem opNe_same {st : Sto} {d : D} {p : PyData} (e : toPyS st d = some p) (hs : eqS d d = none) (hc : p.canLay0 = true) (hd : p.depth ≤ 64) : opNe d d st = .ok (.bl false) st := by
  unfold opNe eqD
  rw [hs]
  simp only [eqDeep_same e hc hd]
  rfl
theorem opEq_same {st : Sto} {d : D} {p : PyData} (e : toPyS st d = some p) (hs : eqS d d = none) (hc : p.canLay0 = true) (hd : p.depth ≤ 64) : opEq d d st = .ok (.bl true) st := by
  unfold opEq eqD
  rw [hs]
  simp only [eqDeep_same e hc hd]
  rfl
end DL
namespace DL
open PySem PySem.Spec PyProof.Rows L2 DL.Ex
theorem pickI {ds : List D} {r : Int} (h0 : 0 ≤ r) (h1 : r < (ds.length : Nat)) (st : Sto) : ∃ d, d ∈ ds ∧ opIx (.lv ds) (.int r) st = .ok d st := by
  obtain ⟨i, rfl⟩ := Int.eq_ofNat_of_zero_le h0
  have hi : i < ds.length := by omega
  refine ⟨ds[i], List.getElem_mem hi, ?_⟩
  rw [opIx_lv, DL.atI_nat, List.getElem?_eq_getElem hi]; rfl
theorem oLen_lv (ds : List D) (st : Sto) : oLen [.lv ds] st = .ok (.int (ds.length : Nat)) st := rfl
/-- one more entry of a row of pairs, or another one in its place -/
def putP {α : Type} (l : List (Str × α)) (x : Str) (a : α) : List (Str × α) := if (l.any fun p => decide (p.1 = x)) = true then l.map (fun p => if p.1 = x then (p.1, a) else p) else l ++ [(x, a)]
theorem putD_map {α : Type} (f : α → D) (l : List (Str × α)) (x : Str) (a : α) :
    putD (l.map fun p => ((Sum.inr p.1 : Key), f p.2)) (.inr x) (f a) = (putP l x a).map (fun p => ((Sum.inr p.1 : Key), f p.2)) := by
  have dk : ∀ y : Str, decide ((Sum.inr y : Key) = .inr x) = decide (y = x) := fun y => by
    by_cases h : y = x
    · rw [h]; simp
    · rw [decide_eq_false h, decide_eq_false fun z => h (Sum.inr.inj z)]
  have e : ((l.map fun p => ((Sum.inr p.1 : Key), f p.2)).any fun kv => decide (kv.1 = (Sum.inr x : Key))) = l.any fun p => decide (p.1 = x) := by
    rw [List.any_map]
    congr 1
    funext p
    exact dk p.1
  unfold putD putP
  rw [e]
  split
  · rw [List.map_map, List.map_map]
    refine List.map_congr_left fun p _ => ?_
    simp only [Function.comp_apply]
    by_cases h : p.1 = x
    · rw [if_pos h, if_pos (by rw [h])]
    · rw [if_neg h, if_neg fun z => h (Sum.inr.inj z)]
  · rw [List.map_append]; rfl
theorem putP_len {α : Type} (l : List (Str × α)) (x : Str) (a : α) : (putP l x a).length ≤ l.length + 1 := by
  unfold putP
  split
  · rw [List.length_map]; omega
  · rw [List.length_append, List.length_singleton]; omega
theorem putP_mem {α : Type} {l : List (Str × α)} {x : Str} {a : α} {p : Str × α} (h : p ∈ putP l x a) : p = (x, a) ∨ p ∈ l := by
  unfold putP at h
  split at h
  · obtain ⟨q, hq, rfl⟩ := List.mem_map.mp h
    by_cases z : q.1 = x
    · rw [if_pos z]; exact .inl (by rw [z])
    · rw [if_neg z]; exact .inr hq
  · rcases List.mem_append.mp h with h | h
    · exact .inr h
    · exact .inl (List.mem_singleton.mp h)
def lookP {α : Type} (l : List (Str × α)) (x : Str) : Option α := (l.find? fun p => decide (p.1 = x)).map (·.2)
theorem lookP_put {α : Type} (l : List (Str × α)) (x : Str) (a : α) (y : Str) : lookP (putP l x a) y = if y = x then some a else lookP l y := by
  unfold putP
  by_cases h : (l.any fun p => decide (p.1 = x)) = true
  · rw [if_pos h]
    have key : ∀ l : List (Str × α), ((l.any fun p => decide (p.1 = x)) = true ∨ y ≠ x) → lookP (l.map fun p => if p.1 = x then (p.1, a) else p) y = if y = x then some a else lookP l y := fun l => by
      induction l with
      | nil =>
        intro h
        rcases h with h | h
        · simp at h
        · rw [if_neg h]; rfl
      | cons p r ih =>
        intro h
        unfold lookP at ih ⊢
        rw [List.map_cons, List.find?_cons, List.find?_cons]
        by_cases q : p.1 = x
        · rw [if_pos q]
          by_cases z : y = x
          · rw [if_pos z]; simp [q, z]
          · have z2 : ¬ p.1 = y := fun w => z (by rw [← w, q])
            rw [if_neg z]
            simp only [decide_eq_false z2]
            have := ih (.inr z)
            rw [if_neg z] at this
            exact this
        · rw [if_neg q]
          by_cases z : p.1 = y
          · have : y ≠ x := fun w => q (z.trans w)
            rw [if_neg this]
            simp [z]
          · simp only [decide_eq_false z]
            refine ih ?_
            rcases h with h | h
            · rw [List.any_cons, decide_eq_false q, Bool.false_or] at h
              exact .inl h
            · exact .inr h
    exact key l (.inl h)
  · rw [if_neg h]
    unfold lookP
    rw [List.find?_append]
    by_cases z : y = x
    · subst z
      have : l.find? (fun p => decide (p.1 = y)) = none := List.find?_eq_none.mpr fun p hp q => h (List.any_eq_true.mpr ⟨p, hp, q⟩)
      rw [this, if_pos rfl]; simp
    · rw [if_neg z]
      have z2 : ¬ x = y := fun w => z w.symm
      cases q : l.find? (fun p => decide (p.1 = y)) with
      | none => simp [z2]
      | some p => simp
theorem lookP_mem {α : Type} {l : List (Str × α)} {x : Str} {a : α} (h : lookP l x = some a) : (x, a) ∈ l := by
  unfold lookP at h
  obtain ⟨p, hp, rfl⟩ := Option.map_eq_some_iff.mp h
  have := List.find?_some hp
  have e : p.1 = x := of_decide_eq_true this
  rw [← e]
  exact List.mem_of_find?_eq_some hp
theorem lookP_isSome {α : Type} {l : List (Str × α)} {x : Str} : (lookP l x).isSome = true ↔ x ∈ l.map (·.1) := by
  unfold lookP
  rw [Option.isSome_map, List.find?_isSome]
  simp
end DL
namespace DL
theorem set_same {st : Sto} {i : Nat} {m : MO} (h : st[i]? = some m) : st.set i m = st := by
  refine List.ext_getElem? fun j => ?_
  by_cases e : i = j
  · subst e; rw [List.getElem?_set_self (at_lt h), h]
  · rw [List.getElem?_set_ne e]
end DL
set_option Elab.async false
set_option linter.all false
set_option maxRecDepth 100000
set_option maxHeartbeats 4000000
namespace DL
open PySem PySem.Spec PyProof.Rows L2
/-! ### texts in order -/
theorem leS_eq (x y : Str) : leS x y = decide (x.cps.toList ≤ y.cps.toList) := by
  unfold leS
  have := PySem.W.dataLe_str (fun x : Str => x)
  exact congrFun (congrFun this x) y
theorem leS_total (x y : Str) : (leS x y || leS y x) = true := by
  rw [leS_eq, leS_eq]
  rcases List.le_total x.cps.toList y.cps.toList with h | h <;> simp [h]
theorem leS_trans (x y z : Str) (h1 : leS x y = true) (h2 : leS y z = true) : leS x z = true := by
  rw [leS_eq, decide_eq_true_eq] at *
  exact List.le_trans h1 h2
theorem str_ext {x y : Str} (h : x.cps.toList = y.cps.toList) : x = y := by
  obtain ⟨a⟩ := x
  obtain ⟨b⟩ := y
  simp only at h
  congr 1
  exact Array.toList_inj.mp h
theorem leS_anti {x y : Str} (h1 : leS x y = true) (h2 : leS y x = true) : x = y := by
  rw [leS_eq, decide_eq_true_eq] at *
  exact str_ext (List.le_antisymm h1 h2)
theorem leS_refl (x : Str) : leS x x = true := by
  have := leS_total x x
  simpa using this
theorem pw_all {α : Type} {R : α → α → Prop} : ∀ {l : List α}, (∀ x ∈ l, ∀ y ∈ l, R x y) → l.Pairwise R
  | [], _ => .nil
  | x :: l, h => .cons (fun y hy => h x List.mem_cons_self y (List.mem_cons_of_mem _ hy)) (pw_all fun a ha b hb => h a (List.mem_cons_of_mem _ ha) b (List.mem_cons_of_mem _ hb))
/-! ### rows of pairs, sorted by their labels -/
section
variable {α β : Type}
def leF (a b : Str × α) : Bool := leS a.1 b.1
def sortF (fs : List (Str × α)) : List (Str × α) := fs.mergeSort leF
/-- the fields with a label -/
def fl (l : Str) (fs : List (Str × α)) : List (Str × α) := fs.filter fun f => decide (f.1 = l)
theorem leF_total (a b : Str × α) : (leF a b || leF b a) = true := leS_total _ _
theorem leF_trans (a b c : Str × α) (h1 : leF a b = true) (h2 : leF b c = true) : leF a c = true := leS_trans _ _ _ h1 h2
theorem sortF_perm (fs : List (Str × α)) : (sortF fs).Perm fs := List.mergeSort_perm _ _
theorem sortF_sorted (fs : List (Str × α)) : (sortF fs).Pairwise (fun a b => leF a b = true) := List.pairwise_mergeSort leF_trans leF_total fs
theorem fl_append (l : Str) (a b : List (Str × α)) : fl l (a ++ b) = fl l a ++ fl l b := List.filter_append ..
theorem fl_fl (l : Str) (a : List (Str × α)) : fl l (fl l a) = fl l a := by simp [fl, List.filter_filter]
theorem fl_pair (l : Str) (a : List (Str × α)) : (fl l a).Pairwise (fun a b => leF a b = true) := by
  have : ∀ x ∈ fl l a, ∀ y ∈ fl l a, leF x y = true := fun x hx y hy => by
    have h1 := of_decide_eq_true (List.mem_filter.mp hx).2
    have h2 := of_decide_eq_true (List.mem_filter.mp hy).2
    unfold leF
    rw [h1, h2]
    exact leS_refl l
  exact pw_all this
theorem sortF_fl (l : Str) (fs : List (Str × α)) : fl l (sortF fs) = fl l fs := by
  have h1 : (fl l fs).Sublist (sortF fs) := List.sublist_mergeSort leF_trans leF_total (fl_pair l fs) List.filter_sublist
  have h2 : (fl l fs).Sublist (fl l (sortF fs)) := by
    have := h1.filter (fun f => decide (f.1 = l))
    have e : (fl l fs).filter (fun f => decide (f.1 = l)) = fl l fs := fl_fl l fs
    rw [e] at this
    exact this
  have h3 : (fl l (sortF fs)).length = (fl l fs).length := ((sortF_perm fs).filter _).length_eq
  exact (h2.eq_of_length h3.symm).symm
theorem sorted_ext : ∀ {a b : List (Str × α)}, a.Pairwise (fun a b => leF a b = true) → b.Pairwise (fun a b => leF a b = true) → (∀ l, fl l a = fl l b) → a = b
  | [], [], _, _, _ => rfl
  | [], y :: b, _, _, h => by
    have := h y.1
    simp [fl] at this
  | x :: a, [], _, _, h => by
    have := h x.1
    simp [fl] at this
  | x :: a, y :: b, pa, pb, h => by
    have hxy : x.1 = y.1 := by
      refine leS_anti ?_ ?_
      · have hy : y ∈ fl y.1 (x :: a) := by rw [h]; simp [fl]
        have hy2 := (List.mem_filter.mp hy).1
        rcases List.mem_cons.mp hy2 with e | e
        · rw [e]; exact leS_refl _
        · exact (List.pairwise_cons.mp pa).1 y e
      · have hx : x ∈ fl x.1 (y :: b) := by rw [← h]; simp [fl]
        have hx2 := (List.mem_filter.mp hx).1
        rcases List.mem_cons.mp hx2 with e | e
        · rw [e]; exact leS_refl _
        · exact (List.pairwise_cons.mp pb).1 x e
    have e0 := h x.1
    simp only [fl, List.filter_cons] at e0
    simp only [decide_true, if_true, hxy] at e0
    injection e0 with e1 e2
    subst e1
    refine congrArg (List.cons x) (sorted_ext (List.pairwise_cons.mp pa).2 (List.pairwise_cons.mp pb).2 fun l => ?_)
    have e3 := h l
    simp only [fl, List.filter_cons] at e3 ⊢
    by_cases q : x.1 = l
    · simp only [q, decide_true, if_true] at e3
      injection e3
    · simp only [q, decide_false, if_false] at e3
      simpa using e3
theorem sortF_congr {a b : List (Str × α)} (h : ∀ l, fl l a = fl l b) : sortF a = sortF b :=
  sorted_ext (sortF_sorted a) (sortF_sorted b) fun l => by rw [sortF_fl, sortF_fl, h]
theorem fl_of_sortF {a b : List (Str × α)} (h : sortF a = sortF b) (l : Str) : fl l a = fl l b := by rw [← sortF_fl l a, ← sortF_fl l b, h]
theorem sortF_of_sorted {a : List (Str × α)} (h : a.Pairwise (fun a b => leF a b = true)) : sortF a = a := sorted_ext (sortF_sorted a) h fun l => sortF_fl l a
theorem sortF_idem (a : List (Str × α)) : sortF (sortF a) = sortF a := sortF_of_sorted (sortF_sorted a)
theorem fl_map (g : α → β) (l : Str) (a : List (Str × α)) : fl l (a.map fun f => (f.1, g f.2)) = (fl l a).map fun f => (f.1, g f.2) := by
  simp only [fl, List.filter_map]; rfl
theorem sortF_map (g : α → β) (a : List (Str × α)) : sortF (a.map fun f => (f.1, g f.2)) = (sortF a).map fun f => (f.1, g f.2) := by
  refine sorted_ext (sortF_sorted _) ?_ fun l => ?_
  · rw [List.pairwise_map]
    exact sortF_sorted a
  · rw [sortF_fl, fl_map, fl_map, sortF_fl]
theorem sortF_mem {a : List (Str × α)} {f : Str × α} : f ∈ sortF a ↔ f ∈ a := (sortF_perm a).mem_iff
theorem sortF_len (a : List (Str × α)) : (sortF a).length = a.length := (sortF_perm a).length_eq
end
/-! ### the types as trees -/
inductive Ty where
  | num | tru | var (a : Str) | fn (a b : Ty) | rcd (fs : List (Str × Ty)) (e : Option Str)
  deriving Inhabited
namespace Ty
theorem ind {P : Ty → Prop} (h1 : P .num) (h2 : P .tru) (h3 : ∀ a, P (.var a)) (h4 : ∀ a b, P a → P b → P (.fn a b)) (h5 : ∀ fs e, (∀ f, f ∈ fs → P f.2) → P (.rcd fs e)) : ∀ t, P t := by
  intro t
  refine Ty.rec (motive_1 := P) (motive_2 := fun fs => ∀ f, f ∈ fs → P f.2) (motive_3 := fun f => P f.2) h1 h2 h3 h4 (fun fs e h => h5 fs e h) (fun f h => by cases h) (fun f r hf hr g hg => ?_) (fun l t h => h) t
  rcases List.mem_cons.mp hg with rfl | hg
  · exact hf
  · exact hr g hg
def endD : Option Str → D
  | none => .non
  | some x => .str x
mutual
def enc : Ty → D
  | .num => .tup [.str "number"]
  | .tru => .tup [.str "truth"]
  | .var a => .tup [.str "var", .str a]
  | .fn a b => .tup [.str "fun", enc a, enc b]
  | .rcd fs e => .tup [.str "record", .tup (encs fs), endD e]
termination_by structural x => x
def encs : List (Str × Ty) → List D
  | [] => []
  | f :: r => encf f :: encs r
termination_by structural x => x
def encf : Str × Ty → D
  | (l, t) => .tup [.str l, enc t]
termination_by structural x => x
end
theorem encs_map : ∀ fs : List (Str × Ty), encs fs = fs.map fun f => .tup [.str f.1, enc f.2]
  | [] => rfl
  | (l, t) :: r => by rw [encs, encs_map r, encf]; rfl
mutual
def norm : Ty → Ty
  | .num => .num
  | .tru => .tru
  | .var a => .var a
  | .fn a b => .fn (norm a) (norm b)
  | .rcd fs e => .rcd (sortF (norms fs)) e
termination_by structural x => x
def norms : List (Str × Ty) → List (Str × Ty)
  | [] => []
  | f :: r => normf f :: norms r
termination_by structural x => x
def normf : Str × Ty → Str × Ty
  | (l, t) => (l, norm t)
termination_by structural x => x
end
theorem norms_map : ∀ fs : List (Str × Ty), norms fs = fs.map fun f => (f.1, norm f.2)
  | [] => rfl
  | (l, t) :: r => by rw [norms, norms_map r, normf]; rfl
theorem norm_rcd (fs : List (Str × Ty)) (e : Option Str) : norm (.rcd fs e) = .rcd (sortF (fs.map fun f => (f.1, norm f.2))) e := by rw [norm, norms_map]
mutual
def syms : Ty → Nat
  | .num => 1
  | .tru => 1
  | .var _ => 1
  | .fn a b => 1 + syms a + syms b
  | .rcd fs e => (if e = none then 1 else 2) + symss fs
termination_by structural x => x
def symss : List (Str × Ty) → Nat
  | [] => 0
  | f :: r => symsf f + symss r
termination_by structural x => x
def symsf : Str × Ty → Nat
  | (_, t) => 1 + syms t
termination_by structural x => x
end
theorem symss_sum : ∀ fs : List (Str × Ty), symss fs = (fs.map fun f => 1 + syms f.2).sum
  | [] => rfl
  | (l, t) :: r => by rw [symss, symss_sum r, symsf]; rfl
mutual
/-- the longest way down -/
def high : Ty → Nat
  | .num => 1
  | .tru => 1
  | .var _ => 1
  | .fn a b => max (high a) (high b) + 1
  | .rcd fs _ => highs fs + 1
termination_by structural x => x
def highs : List (Str × Ty) → Nat
  | [] => 0
  | f :: r => max (highf f) (highs r)
termination_by structural x => x
def highf : Str × Ty → Nat
  | (_, t) => high t
termination_by structural x => x
end
theorem highs_le {fs : List (Str × Ty)} {k : Nat} : highs fs ≤ k ↔ ∀ f, f ∈ fs → high f.2 ≤ k := by
  induction fs with
  | nil => simp [highs]
  | cons f r ih =>
    obtain ⟨l, t⟩ := f
    rw [highs, highf, Nat.max_le, ih]
    simp
mutual
/-- the variables by their occurrence: (whether at a row's end, name) -/
def occ : Ty → List (Bool × Str)
  | .num => []
  | .tru => []
  | .var a => [(false, a)]
  | .fn a b => occ a ++ occ b
  | .rcd fs e => occs fs ++ e.toList.map fun x => (true, x)
termination_by structural x => x
def occs : List (Str × Ty) → List (Bool × Str)
  | [] => []
  | f :: r => occf f ++ occs r
termination_by structural x => x
def occf : Str × Ty → List (Bool × Str)
  | (_, t) => occ t
termination_by structural x => x
end
theorem occs_flat : ∀ fs : List (Str × Ty), occs fs = fs.flatMap fun f => occ f.2
  | [] => rfl
  | (l, t) :: r => by rw [occs, occs_flat r, occf]; rfl
mutual
/-- images put in -/
def sub (I : Str → Option Ty) : Ty → Ty
  | .num => .num
  | .tru => .tru
  | .var a => (I a).getD (.var a)
  | .fn a b => .fn (sub I a) (sub I b)
  | .rcd fs e => match e.bind I with
    | some (.rcd gs e') => .rcd (subs I fs ++ gs) e'
    | _ => .rcd (subs I fs) e
termination_by structural x => x
def subs (I : Str → Option Ty) : List (Str × Ty) → List (Str × Ty)
  | [] => []
  | f :: r => subf I f :: subs I r
termination_by structural x => x
def subf (I : Str → Option Ty) : Str × Ty → Str × Ty
  | (l, t) => (l, sub I t)
termination_by structural x => x
end
theorem subs_map (I : Str → Option Ty) : ∀ fs : List (Str × Ty), subs I fs = fs.map fun f => (f.1, sub I f.2)
  | [] => rfl
  | (l, t) :: r => by rw [subs, subs_map I r, subf]; rfl
mutual
/-- other names -/
def ren (g : Str → Str) : Ty → Ty
  | .num => .num
  | .tru => .tru
  | .var a => .var (g a)
  | .fn a b => .fn (ren g a) (ren g b)
  | .rcd fs e => .rcd (rens g fs) (e.map g)
termination_by structural x => x
def rens (g : Str → Str) : List (Str × Ty) → List (Str × Ty)
  | [] => []
  | f :: r => renf g f :: rens g r
termination_by structural x => x
def renf (g : Str → Str) : Str × Ty → Str × Ty
  | (l, t) => (l, ren g t)
termination_by structural x => x
end
theorem rens_map (g : Str → Str) : ∀ fs : List (Str × Ty), rens g fs = fs.map fun f => (f.1, ren g f.2)
  | [] => rfl
  | (l, t) :: r => by rw [rens, rens_map g r, renf]; rfl
end Ty
end DL
set_option Elab.async false
set_option linter.all false
set_option maxRecDepth 100000
set_option maxHeartbeats 4000000
namespace DL.Ty
open PySem PySem.Spec PyProof.Rows L2 DL
/-! ### laws of the normal form, of substitutions, of renaming -/
theorem norm_norm (t : Ty) : norm (norm t) = norm t := by
  induction t using Ty.ind with
  | h1 => rfl
  | h2 => rfl
  | h3 => rfl
  | h4 a b ha hb => simp only [norm, ha, hb]
  | h5 fs e h =>
    rw [norm_rcd, norm_rcd]
    congr 1
    rw [← sortF_map, List.map_map, sortF_idem]
    congr 1
    refine List.map_congr_left fun f hf => ?_
    simp only [Function.comp_apply, h f hf]
theorem syms_norm (t : Ty) : syms (norm t) = syms t := by
  induction t using Ty.ind with
  | h1 => rfl
  | h2 => rfl
  | h3 => rfl
  | h4 a b ha hb => simp only [norm, syms, ha, hb]
  | h5 fs e h =>
    rw [norm_rcd]
    simp only [syms, symss_sum]
    congr 1
    rw [((sortF_perm (fs.map fun f => (f.1, norm f.2))).map fun f => 1 + syms f.2).sum_nat, List.map_map]
    congr 1
    refine List.map_congr_left fun f hf => ?_
    simp only [Function.comp_apply, h f hf]
theorem high_pos (t : Ty) : 1 ≤ high t := by cases t <;> simp [high]
theorem high_norm (t : Ty) : high (norm t) = high t := by
  induction t using Ty.ind with
  | h1 => rfl
  | h2 => rfl
  | h3 => rfl
  | h4 a b ha hb => simp only [norm, high, ha, hb]
  | h5 fs e h =>
    rw [norm_rcd]
    simp only [high]
    congr 1
    refine Nat.le_antisymm (highs_le.mpr fun f hf => ?_) (highs_le.mpr fun f hf => ?_)
    · obtain ⟨g, hg, rfl⟩ := List.mem_map.mp (sortF_mem.mp hf)
      rw [h g hg]
      exact highs_le.mp (Nat.le_refl _) g hg
    · have := highs_le.mp (Nat.le_refl (highs (sortF (fs.map fun f => (f.1, norm f.2))))) (f.1, norm f.2) (sortF_mem.mpr (List.mem_map.mpr ⟨f, hf, rfl⟩))
      rw [← h f hf]
      exact this
theorem occ_norm (t : Ty) : (occ (norm t)).Perm (occ t) := by
  induction t using Ty.ind with
  | h1 => exact List.Perm.refl _
  | h2 => exact List.Perm.refl _
  | h3 => exact List.Perm.refl _
  | h4 a b ha hb => simp only [norm, occ]; exact ha.append hb
  | h5 fs e h =>
    rw [norm_rcd]
    simp only [occ, occs_flat]
    refine List.Perm.append_right _ ?_
    refine ((sortF_perm (fs.map fun f => (f.1, norm f.2))).flatMap_right _).trans ?_
    rw [List.flatMap_map]
    clear e
    induction fs with
    | nil => exact List.Perm.refl _
    | cons f r ih =>
      simp only [List.flatMap_cons]
      exact (h f List.mem_cons_self).append (ih fun g hg => h g (List.mem_cons_of_mem _ hg))
/-- row variables have rows as images -/
def RowsOk (I : Str → Option Ty) (t : Ty) : Prop := ∀ x, (true, x) ∈ occ t → ∀ u, I x = some u → ∃ gs e, u = .rcd gs e
theorem rowsOk_l {I : Str → Option Ty} {a b : Ty} (h : RowsOk I (.fn a b)) : RowsOk I a := fun x hx => h x (by simp only [occ]; exact List.mem_append_left _ hx)
theorem rowsOk_r {I : Str → Option Ty} {a b : Ty} (h : RowsOk I (.fn a b)) : RowsOk I b := fun x hx => h x (by simp only [occ]; exact List.mem_append_right _ hx)
theorem rowsOk_f {I : Str → Option Ty} {fs : List (Str × Ty)} {e : Option Str} (h : RowsOk I (.rcd fs e)) {f : Str × Ty} (hf : f ∈ fs) : RowsOk I f.2 := fun x hx => h x (by
  simp only [occ, occs_flat]
  exact List.mem_append_left _ (List.mem_flatMap.mpr ⟨f, hf, hx⟩))
theorem rowsOk_e {I : Str → Option Ty} {fs : List (Str × Ty)} {e : Str} (h : RowsOk I (.rcd fs (some e))) : ∀ u, I e = some u → ∃ gs e', u = .rcd gs e' := h e (by simp [occ])
/-- images, into which others are put; others elsewhere -/
def comp (I J : Str → Option Ty) : Str → Option Ty := fun x => match I x with
  | some u => some (sub J u)
  | none => J x
theorem sub_sub {I J : Str → Option Ty} (t : Ty) (h1 : RowsOk I t) : sub J (sub I t) = sub (comp I J) t := by
  induction t using Ty.ind with
  | h1 => rfl
  | h2 => rfl
  | h3 a =>
    simp only [sub, comp]
    cases e : I a with
    | none => simp [sub]
    | some u => simp
  | h4 a b ha hb => simp only [sub, ha (rowsOk_l h1), hb (rowsOk_r h1)]
  | h5 fs e h =>
    have hm : subs J (subs I fs) = subs (comp I J) fs := by
      rw [subs_map, subs_map, subs_map, List.map_map]
      refine List.map_congr_left fun f hf => ?_
      simp only [Function.comp_apply, h f hf (rowsOk_f h1 hf)]
    have ha : ∀ a b : List (Str × Ty), subs J (a ++ b) = subs J a ++ subs J b := fun a b => by simp only [subs_map, List.map_append]
    cases e with
    | none => simp only [sub, Option.bind_none, hm]
    | some x =>
      cases q : I x with
      | none =>
        simp only [sub, Option.bind_some, q, comp]
        cases q2 : J x with
        | none => simp only [hm]
        | some u => cases u <;> simp only [hm]
      | some u =>
        obtain ⟨gs, e', rfl⟩ := rowsOk_e h1 u q
        simp only [sub, Option.bind_some, q, comp]
        cases e' with
        | none => simp only [Option.bind_none, ha, hm]
        | some y =>
          simp only [Option.bind_some]
          cases q2 : J y with
          | none => simp only [ha, hm]
          | some u => cases u <;> simp only [ha, hm, List.append_assoc]
/-- the normal form of what is put in hangs on that of the type alone -/
theorem norm_sub_norm (I : Str → Option Ty) (t : Ty) : norm (sub I (norm t)) = norm (sub I t) := by
  induction t using Ty.ind with
  | h1 => rfl
  | h2 => rfl
  | h3 => rfl
  | h4 a b ha hb => simp only [norm, sub, ha, hb]
  | h5 fs e h =>
    have key : ∀ gs : List (Str × Ty), sortF ((subs I (sortF (fs.map fun f => (f.1, norm f.2))) ++ gs).map fun f => (f.1, norm f.2)) = sortF ((subs I fs ++ gs).map fun f => (f.1, norm f.2)) := fun gs => by
      refine sortF_congr fun l => ?_
      simp only [List.map_append, fl_append, subs_map, fl_map]
      congr 1
      rw [sortF_fl, fl_map, List.map_map, List.map_map, List.map_map]
      refine List.map_congr_left fun f hf => ?_
      simp only [Function.comp_apply, h f (List.mem_filter.mp hf).1]
    have key0 := key []
    simp only [List.append_nil] at key0
    rw [norm_rcd]
    cases e with
    | none => simp only [sub, Option.bind_none, norm_rcd, key0]
    | some x =>
      simp only [sub, Option.bind_some]
      cases q : I x with
      | none => simp only [norm_rcd, key0]
      | some u => cases u <;> simp only [norm_rcd, key0, key]
theorem sub_none (t : Ty) : sub (fun _ => none) t = t := by
  induction t using Ty.ind with
  | h1 => rfl
  | h2 => rfl
  | h3 => rfl
  | h4 a b ha hb => simp only [sub, ha, hb]
  | h5 fs e h =>
    have : subs (fun _ => none) fs = fs := by
      rw [subs_map]
      conv => rhs; rw [← List.map_id fs]
      refine List.map_congr_left fun f hf => ?_
      simp only [h f hf, id_eq]
    cases e <;> simp only [sub, Option.bind, this]
/-! ### renaming -/
theorem norm_ren (g : Str → Str) (t : Ty) : norm (ren g t) = ren g (norm t) := by
  induction t using Ty.ind with
  | h1 => rfl
  | h2 => rfl
  | h3 => rfl
  | h4 a b ha hb => simp only [norm, ren, ha, hb]
  | h5 fs e h =>
    simp only [ren, norm_rcd, rens_map]
    congr 1
    rw [← sortF_map, List.map_map, List.map_map]
    congr 1
    refine List.map_congr_left fun f hf => ?_
    simp only [Function.comp_apply, h f hf]
theorem occ_ren (g : Str → Str) (t : Ty) : occ (ren g t) = (occ t).map fun p => (p.1, g p.2) := by
  induction t using Ty.ind with
  | h1 => rfl
  | h2 => rfl
  | h3 => rfl
  | h4 a b ha hb => simp only [ren, occ, ha, hb, List.map_append]
  | h5 fs e h =>
    simp only [ren, occ, occs_flat, rens_map, List.map_append, List.flatMap_map, List.map_flatMap]
    congr 1
    · rw [List.flatMap_def, List.flatMap_def]
      congr 1
      exact List.map_congr_left fun f hf => h f hf
    · cases e <;> rfl
theorem ren_ren (g h : Str → Str) (t : Ty) : ren h (ren g t) = ren (fun x => h (g x)) t := by
  induction t using Ty.ind with
  | h1 => rfl
  | h2 => rfl
  | h3 => rfl
  | h4 a b ha hb => simp only [ren, ha, hb]
  | h5 fs e k =>
    simp only [ren, rens_map, List.map_map, Option.map_map]
    congr 1
    refine List.map_congr_left fun f hf => ?_
    simp only [Function.comp_apply, k f hf]
theorem ren_congr {g h : Str → Str} {t : Ty} (k : ∀ p, p ∈ occ t → g p.2 = h p.2) : ren g t = ren h t := by
  induction t using Ty.ind with
  | h1 => rfl
  | h2 => rfl
  | h3 a => simp only [ren]; rw [k (false, a) (by simp [occ])]
  | h4 a b ha hb => simp only [ren]; rw [ha fun p hp => k p (by simp only [occ]; exact List.mem_append_left _ hp), hb fun p hp => k p (by simp only [occ]; exact List.mem_append_right _ hp)]
  | h5 fs e ih =>
    simp only [ren, rens_map]
    congr 1
    · refine List.map_congr_left fun f hf => ?_
      rw [ih f hf fun p hp => k p (by simp only [occ, occs_flat]; exact List.mem_append_left _ (List.mem_flatMap.mpr ⟨f, hf, hp⟩))]
    · cases e with
      | none => rfl
      | some x => simp only [Option.map_some]; rw [k (true, x) (by simp [occ])]
theorem ren_id {t : Ty} {g : Str → Str} (k : ∀ p, p ∈ occ t → g p.2 = p.2) : ren g t = t := by
  induction t using Ty.ind with
  | h1 => rfl
  | h2 => rfl
  | h3 a => simp only [ren]; rw [k (false, a) (by simp [occ])]
  | h4 a b ha hb => simp only [ren]; rw [ha fun p hp => k p (by simp only [occ]; exact List.mem_append_left _ hp), hb fun p hp => k p (by simp only [occ]; exact List.mem_append_right _ hp)]
  | h5 fs e ih =>
    simp only [ren, rens_map]
    congr 1
    · conv => rhs; rw [← List.map_id fs]
      refine List.map_congr_left fun f hf => ?_
      rw [ih f hf fun p hp => k p (by simp only [occ, occs_flat]; exact List.mem_append_left _ (List.mem_flatMap.mpr ⟨f, hf, hp⟩))]
      rfl
    · cases e with
      | none => rfl
      | some x => simp only [Option.map_some]; rw [k (true, x) (by simp [occ])]
/-- a substitution that gives other names alone -/
theorem sub_ren {I : Str → Option Ty} {g : Str → Str} {t : Ty} (hv : ∀ a, (false, a) ∈ occ t → I a = some (.var (g a))) (hr : ∀ a, (true, a) ∈ occ t → I a = some (.rcd [] (some (g a)))) : sub I t = ren g t := by
  induction t using Ty.ind with
  | h1 => rfl
  | h2 => rfl
  | h3 a => simp only [sub, ren]; rw [hv a (by simp [occ])]; rfl
  | h4 a b ha hb =>
    simp only [sub, ren]
    rw [ha (fun a h => hv a (by simp only [occ]; exact List.mem_append_left _ h)) (fun a h => hr a (by simp only [occ]; exact List.mem_append_left _ h)),
      hb (fun a h => hv a (by simp only [occ]; exact List.mem_append_right _ h)) (fun a h => hr a (by simp only [occ]; exact List.mem_append_right _ h))]
  | h5 fs e ih =>
    have hs : subs I fs = rens g fs := by
      rw [subs_map, rens_map]
      refine List.map_congr_left fun f hf => ?_
      have q : ∀ p, p ∈ occ f.2 → p ∈ occ (.rcd fs e) := fun p hp => by
        simp only [occ, occs_flat]
        exact List.mem_append_left _ (List.mem_flatMap.mpr ⟨f, hf, hp⟩)
      rw [ih f hf (fun a h => hv a (q _ h)) (fun a h => hr a (q _ h))]
    cases e with
    | none => simp only [sub, ren, Option.bind_none, hs, Option.map_none]
    | some x =>
      simp only [sub, ren, Option.bind_some, hr x (by simp [occ]), hs, List.append_nil, Option.map_some]
end DL.Ty
set_option Elab.async false
set_option linter.all false
set_option maxRecDepth 100000
set_option maxHeartbeats 4000000
namespace DL.Ty
open PySem PySem.Spec PyProof.Rows L2 DL
/-! ### names by numbers -/
def nameL (n : Nat) : List Nat := if n < 26 then [97 + n] else nameL (n / 26 - 1) ++ [97 + n % 26]
termination_by n
decreasing_by omega
def nameS (n : Nat) : Str := ⟨(nameL n).toArray⟩
def valL (l : List Nat) : Nat := l.foldl (fun a c => a * 26 + (c - 97) + 1) 0
theorem valL_nameL (n : Nat) : valL (nameL n) = n + 1 := by
  induction n using Nat.strongRecOn with
  | ind n ih =>
    rw [nameL]
    by_cases h : n < 26
    · rw [if_pos h]; simp [valL]
    · rw [if_neg h]
      have := ih (n / 26 - 1) (by omega)
      unfold valL at this ⊢
      rw [List.foldl_append, this]
      simp only [List.foldl_cons, List.foldl_nil]
      omega
theorem nameS_inj {m n : Nat} (h : nameS m = nameS n) : m = n := by
  have h1 : nameL m = nameL n := by
    have := congrArg (fun s : Str => s.cps.toList) h
    simpa [nameS] using this
  have h2 := congrArg valL h1
  rw [valL_nameL, valL_nameL] at h2
  omega
/-! ### each once, by the first occurrence -/
def addN : List Str → List Str → List Str
  | acc, [] => acc
  | acc, x :: r => addN (if x ∈ acc then acc else acc ++ [x]) r
theorem addN_append : ∀ (a b acc : List Str), addN acc (a ++ b) = addN (addN acc a) b
  | [], b, acc => rfl
  | x :: a, b, acc => by simp only [List.cons_append, addN]; exact addN_append a b _
theorem mem_addN : ∀ (l acc : List Str) (x : Str), x ∈ addN acc l ↔ x ∈ acc ∨ x ∈ l
  | [], acc, x => by simp [addN]
  | y :: l, acc, x => by
    simp only [addN]
    rw [mem_addN l]
    by_cases h : y ∈ acc
    · rw [if_pos h]
      constructor
      · rintro (h1 | h1)
        · exact .inl h1
        · exact .inr (List.mem_cons_of_mem _ h1)
      · rintro (h1 | h1)
        · exact .inl h1
        · rcases List.mem_cons.mp h1 with rfl | h1
          · exact .inl h
          · exact .inr h1
    · rw [if_neg h]; simp [or_assoc]
theorem nodup_addN : ∀ (l acc : List Str), acc.Nodup → (addN acc l).Nodup
  | [], acc, h => h
  | y :: l, acc, h => by
    simp only [addN]
    refine nodup_addN l _ ?_
    by_cases q : y ∈ acc
    · rw [if_pos q]; exact h
    · rw [if_neg q]
      exact List.nodup_append.mpr ⟨h, by simp, fun a ha b hb => by
        rw [List.mem_singleton.mp hb]
        exact fun e => q (e ▸ ha)⟩
theorem addN_map {f : Str → Str} : ∀ (l acc : List Str), (∀ x, x ∈ acc ∨ x ∈ l → ∀ y, y ∈ acc ∨ y ∈ l → f x = f y → x = y) → addN (acc.map f) (l.map f) = (addN acc l).map f
  | [], acc, _ => rfl
  | y :: l, acc, h => by
    simp only [List.map_cons, addN]
    have e : (f y ∈ acc.map f) = (y ∈ acc) := by
      apply propext
      constructor
      · intro hm
        obtain ⟨x, hx, e⟩ := List.mem_map.mp hm
        rw [← h x (.inl hx) y (.inr List.mem_cons_self) e]
        exact hx
      · intro hm
        exact List.mem_map.mpr ⟨y, hm, rfl⟩
    by_cases q : y ∈ acc
    · rw [if_pos (by rw [e]; exact q), if_pos q]
      exact addN_map l acc fun x hx z hz => h x (hx.imp id (List.mem_cons_of_mem _)) z (hz.imp id (List.mem_cons_of_mem _))
    · rw [if_neg (by rw [e]; exact q), if_neg q]
      have := addN_map (f := f) l (acc ++ [y]) fun x hx z hz => h x (by
        rcases hx with hx | hx
        · rcases List.mem_append.mp hx with hx | hx
          · exact .inl hx
          · exact .inr (by rw [List.mem_singleton.mp hx]; exact List.mem_cons_self)
        · exact .inr (List.mem_cons_of_mem _ hx)) z (by
        rcases hz with hx | hx
        · rcases List.mem_append.mp hx with hx | hx
          · exact .inl hx
          · exact .inr (by rw [List.mem_singleton.mp hx]; exact List.mem_cons_self)
        · exact .inr (List.mem_cons_of_mem _ hx))
      rw [← this, List.map_append]
      rfl
theorem idx_map {f : Str → Str} : ∀ {d : List Str} {x : Str}, x ∈ d → (∀ a, a ∈ d → ∀ b, b ∈ d → f a = f b → a = b) → (d.map f).idxOf (f x) = d.idxOf x
  | [], x, h, _ => by cases h
  | y :: d, x, h, inj => by
    rw [List.map_cons, List.idxOf_cons, List.idxOf_cons]
    by_cases q : y = x
    · subst q; simp
    · have q2 : ¬ f y = f x := fun e => q (inj y List.mem_cons_self x h e)
      have hx : x ∈ d := by
        rcases List.mem_cons.mp h with e | h
        · exact absurd e.symm q
        · exact h
      have e1 : (f y == f x) = false := beq_eq_false_iff_ne.mpr q2
      have e2 : (y == x) = false := beq_eq_false_iff_ne.mpr q
      rw [e1, e2]
      simp only [cond_false]
      rw [idx_map hx fun a ha b hb => inj a (List.mem_cons_of_mem _ ha) b (List.mem_cons_of_mem _ hb)]
/-! ### the told form -/
def names (t : Ty) : List Str := (occ t).map (·.2)
def namesL (ts : List Ty) : List Str := ts.flatMap names
def toldN (d : List Str) (x : Str) : Str := nameS (d.idxOf x)
def told (ts : List Ty) : List Ty := (ts.map norm).map (ren (toldN (addN [] (namesL (ts.map norm)))))
theorem names_ren (g : Str → Str) (t : Ty) : names (ren g t) = (names t).map g := by
  unfold names; rw [occ_ren, List.map_map, List.map_map]; rfl
theorem namesL_ren (g : Str → Str) (ts : List Ty) : namesL (ts.map (ren g)) = (namesL ts).map g := by
  induction ts with
  | nil => rfl
  | cons t r ih =>
    unfold namesL at ih ⊢
    rw [List.map_cons, List.flatMap_cons, List.flatMap_cons, List.map_append, ih, names_ren]
theorem mem_namesL {ts : List Ty} {x : Str} : x ∈ namesL ts ↔ ∃ t, t ∈ ts ∧ x ∈ names t := List.mem_flatMap
theorem names_norm {t : Ty} {x : Str} : x ∈ names (norm t) ↔ x ∈ names t := ((occ_norm t).map _).mem_iff
theorem namesL_norm {ts : List Ty} {x : Str} : x ∈ namesL (ts.map norm) ↔ x ∈ namesL ts := by
  rw [mem_namesL, mem_namesL]
  constructor
  · rintro ⟨t, ht, h⟩
    obtain ⟨u, hu, rfl⟩ := List.mem_map.mp ht
    exact ⟨u, hu, names_norm.mp h⟩
  · rintro ⟨t, ht, h⟩
    exact ⟨norm t, List.mem_map.mpr ⟨t, ht, rfl⟩, names_norm.mpr h⟩
/-- told hangs on no names -/
theorem told_ren {g : Str → Str} {ts : List Ty} (inj : ∀ a, a ∈ namesL ts → ∀ b, b ∈ namesL ts → g a = g b → a = b) : told (ts.map (ren g)) = told ts := by
  unfold told
  have e0 : (ts.map (ren g)).map norm = (ts.map norm).map (ren g) := by
    rw [List.map_map, List.map_map]
    exact List.map_congr_left fun t _ => norm_ren g t
  rw [e0, namesL_ren]
  have e1 : addN [] ((namesL (ts.map norm)).map g) = (addN [] (namesL (ts.map norm))).map g := by
    have := addN_map (f := g) (namesL (ts.map norm)) [] fun x hx y hy e => by
      simp only [List.mem_nil_iff, false_or] at hx hy
      exact inj x (namesL_norm.mp hx) y (namesL_norm.mp hy) e
    exact this
  rw [e1, List.map_map]
  refine List.map_congr_left fun t ht => ?_
  simp only [Function.comp_apply, ren_ren]
  refine ren_congr fun p hp => ?_
  unfold toldN
  have mem : p.2 ∈ addN [] (namesL (ts.map norm)) := (mem_addN _ _ _).mpr (.inr (mem_namesL.mpr ⟨t, ht, List.mem_map.mpr ⟨p, hp, rfl⟩⟩))
  rw [idx_map mem fun a ha b hb e => inj a (namesL_norm.mp (by simpa using (mem_addN _ _ _).mp ha)) b (namesL_norm.mp (by simpa using (mem_addN _ _ _).mp hb)) e]
theorem toldN_inj {d : List Str} {a b : Str} (ha : a ∈ d) (h : toldN d a = toldN d b) : a = b := by
  have e := nameS_inj h
  have l1 : d.idxOf a < d.length := List.idxOf_lt_length_iff.mpr ha
  have l2 : d.idxOf b < d.length := by rw [← e]; exact l1
  have h1 : d[d.idxOf a] = a := List.getElem_idxOf l1
  have h2 : d[d.idxOf b] = b := List.getElem_idxOf l2
  rw [← h1, ← h2]
  simp only [e]
theorem told_norm (ts : List Ty) : told (ts.map norm) = told ts := by
  unfold told
  have : (ts.map norm).map norm = ts.map norm := by
    rw [List.map_map]
    exact List.map_congr_left fun t _ => norm_norm t
  rw [this]
theorem told_told (ts : List Ty) : told (told ts) = told ts := by
  have h := told_ren (g := toldN (addN [] (namesL (ts.map norm)))) (ts := ts.map norm) fun a ha b hb e => toldN_inj ((mem_addN _ _ _).mpr (.inr ha)) e
  rw [told_norm] at h
  exact h
theorem told_len (ts : List Ty) : (told ts).length = ts.length := by simp [told]
/-! ### the variables -/
def tvs (t : Ty) : List Str := (occ t).filterMap fun p => if p.1 = false then some p.2 else none
def rvs (t : Ty) : List Str := (occ t).filterMap fun p => if p.1 = true then some p.2 else none
def sortS (l : List Str) : List Str := l.mergeSort leS
theorem sortS_perm {a b : List Str} (h : a.Perm b) : sortS a = sortS b := by
  have h1 : (sortS a).Perm (sortS b) := (List.mergeSort_perm a leS).trans (h.trans (List.mergeSort_perm b leS).symm)
  exact h1.eq_of_pairwise (fun x y _ _ h1 h2 => leS_anti h1 h2) (List.pairwise_mergeSort leS_trans leS_total a) (List.pairwise_mergeSort leS_trans leS_total b)
theorem addN_perm {a b : List Str} (h : a.Perm b) : (addN [] a).Perm (addN [] b) :=
  (List.perm_ext_iff_of_nodup (nodup_addN a [] List.nodup_nil) (nodup_addN b [] List.nodup_nil)).mpr fun x => by simp [mem_addN, h.mem_iff]
theorem tvs_norm (t : Ty) : sortS (addN [] (tvs (norm t))) = sortS (addN [] (tvs t)) := sortS_perm (addN_perm ((occ_norm t).filterMap _))
theorem rvs_norm (t : Ty) : sortS (addN [] (rvs (norm t))) = sortS (addN [] (rvs t)) := sortS_perm (addN_perm ((occ_norm t).filterMap _))
end DL.Ty
set_option Elab.async false
set_option linter.all false
set_option maxRecDepth 100000
set_option maxHeartbeats 4000000
namespace DL.Ty
open PySem PySem.Spec PyProof.Rows L2 DL
theorem le_sum_mem : ∀ {l : List Nat} {x : Nat}, x ∈ l → x ≤ l.sum
  | a :: l, x, h => by
    rw [List.sum_cons]
    rcases List.mem_cons.mp h with rfl | h
    · omega
    · have := le_sum_mem h; omega
theorem fs_syms {fs : List (Str × Ty)} {e : Option Str} {f : Str × Ty} (hf : f ∈ fs) : syms f.2 + 1 ≤ syms (.rcd fs e) := by
  simp only [syms, symss_sum]
  have : 1 + syms f.2 ≤ (fs.map fun f => 1 + syms f.2).sum := le_sum_mem (List.mem_map.mpr ⟨f, hf, rfl⟩)
  split <;> omega
theorem fs_len {fs : List (Str × Ty)} {e : Option Str} : fs.length + 1 ≤ syms (.rcd fs e) := by
  simp only [syms, symss_sum]
  have : ∀ l : List (Str × Ty), l.length ≤ (l.map fun f => 1 + syms f.2).sum := fun l => by
    induction l with
    | nil => exact Nat.zero_le _
    | cons a r ih => simp only [List.map_cons, List.sum_cons, List.length_cons]; omega
  have := this fs
  split <;> omega
theorem fs_high {fs : List (Str × Ty)} {e : Option Str} {k : Nat} (h : high (.rcd fs e) ≤ k + 1) {f : Str × Ty} (hf : f ∈ fs) : high f.2 ≤ k := by
  simp only [high] at h
  exact highs_le.mp (Nat.le_of_succ_le_succ h) f hf
/-- the item of a row, as a value -/
def itD (f : Str × Ty) : D := .tup [.str f.1, enc f.2]
theorem enc_rcd (fs : List (Str × Ty)) (e : Option Str) : enc (.rcd fs e) = .tup [.str "record", .tup (fs.map itD), endD e] := by rw [enc, encs_map]; rfl
theorem sort_it (fs : List (Str × Ty)) : (fs.map itD).mergeSort leK = (sortF fs).map itD := by
  unfold sortF
  exact (List.map_mergeSort (r := leF) (s := leK) (f := itD) (fun a _ b _ => rfl)).symm
end DL.Ty
namespace DL.Ty
open PySem PySem.Spec PyProof.Rows L2 DL
theorem tvs_fn (a b : Ty) : tvs (.fn a b) = tvs a ++ tvs b := by simp [tvs, occ]
theorem rvs_fn (a b : Ty) : rvs (.fn a b) = rvs a ++ rvs b := by simp [rvs, occ]
theorem tvs_rcd (fs : List (Str × Ty)) (e : Option Str) : tvs (.rcd fs e) = fs.flatMap fun f => tvs f.2 := by
  simp only [tvs, occ, occs_flat, List.filterMap_append, List.filterMap_flatMap]
  cases e <;> simp
theorem rvs_rcd (fs : List (Str × Ty)) (e : Option Str) : rvs (.rcd fs e) = (fs.flatMap fun f => rvs f.2) ++ e.toList := by
  simp only [rvs, occ, occs_flat, List.filterMap_append, List.filterMap_flatMap]
  cases e <;> simp
theorem names_fn (a b : Ty) : names (.fn a b) = names a ++ names b := by simp [names, occ]
theorem names_rcd (fs : List (Str × Ty)) (e : Option Str) : names (.rcd fs e) = (fs.flatMap fun f => names f.2) ++ e.toList := by
  simp only [names, occ, occs_flat, List.map_append, List.map_flatMap]
  cases e <;> simp
theorem tvs_len (t : Ty) : (tvs t).length ≤ syms t := by
  induction t using Ty.ind with
  | h1 => simp [tvs, occ, syms]
  | h2 => simp [tvs, occ, syms]
  | h3 => simp [tvs, occ, syms]
  | h4 a b ha hb => rw [tvs_fn, List.length_append]; simp only [syms]; omega
  | h5 fs e ih =>
    rw [tvs_rcd]
    simp only [syms, symss_sum]
    have : ∀ l : List (Str × Ty), (∀ f, f ∈ l → (tvs f.2).length ≤ syms f.2) → (l.flatMap fun f => tvs f.2).length ≤ (l.map fun f => 1 + syms f.2).sum := fun l => by
      induction l with
      | nil => intro _; exact Nat.le_refl _
      | cons a r ihr =>
        intro h
        have h1 := h a List.mem_cons_self
        have h2 := ihr fun f hf => h f (List.mem_cons_of_mem _ hf)
        simp only [List.flatMap_cons, List.length_append, List.map_cons, List.sum_cons]; omega
    have := this fs ih
    split <;> omega
theorem names_len (t : Ty) : (names t).length ≤ syms t := by
  induction t using Ty.ind with
  | h1 => simp [names, occ, syms]
  | h2 => simp [names, occ, syms]
  | h3 => simp [names, occ, syms]
  | h4 a b ha hb => rw [names_fn, List.length_append]; simp only [syms]; omega
  | h5 fs e ih =>
    rw [names_rcd]
    simp only [syms, symss_sum, List.length_append]
    have : ∀ l : List (Str × Ty), (∀ f, f ∈ l → (names f.2).length ≤ syms f.2) → (l.flatMap fun f => names f.2).length ≤ (l.map fun f => 1 + syms f.2).sum := fun l => by
      induction l with
      | nil => intro _; exact Nat.le_refl _
      | cons a r ihr =>
        intro h
        have h1 := h a List.mem_cons_self
        have h2 := ihr fun f hf => h f (List.mem_cons_of_mem _ hf)
        simp only [List.flatMap_cons, List.length_append, List.map_cons, List.sum_cons]; omega
    have := this fs ih
    have e1 : e.toList.length + 1 ≤ (if e = none then 1 else 2) := by cases e <;> simp
    omega
theorem rvs_len (t : Ty) : (rvs t).length ≤ syms t := by
  have h := names_len t
  have : (rvs t).length ≤ (names t).length := by
    unfold rvs names
    rw [List.length_map]
    exact List.length_filterMap_le _ _
  omega
theorem addN_len : ∀ (l acc : List Str), (addN acc l).length ≤ acc.length + l.length
  | [], acc => by simp [addN]
  | x :: l, acc => by
    simp only [addN, List.length_cons]
    have := addN_len l (if x ∈ acc then acc else acc ++ [x])
    split at this
    · split <;> first | omega | (rename_i h1 h2; exact absurd h1 h2)
    · rw [List.length_append, List.length_singleton] at this
      split <;> first | omega | (rename_i h1 h2; exact absurd h2 h1)
theorem addN_one (acc : List Str) (x : Str) : addN acc [x] = if x ∈ acc then acc else acc ++ [x] := rfl
theorem addN_nil (acc : List Str) : addN acc [] = acc := rfl
/-- later names change no earlier one's number -/
theorem idx_addN : ∀ (l acc : List Str) {x : Str}, x ∈ acc → (addN acc l).idxOf x = acc.idxOf x
  | [], acc, x, _ => rfl
  | y :: l, acc, x, h => by
    simp only [addN]
    by_cases q : y ∈ acc
    · rw [if_pos q]; exact idx_addN l acc h
    · rw [if_neg q, idx_addN l (acc ++ [y]) (List.mem_append_left _ h), List.idxOf_append, if_pos h]
theorem toldN_addN {l acc : List Str} {x : Str} (h : x ∈ acc) : toldN (addN acc l) x = toldN acc x := by unfold toldN; rw [idx_addN l acc h]
/-! ### a substitution as a dict -/
def encI (l : List (Str × Ty)) : List (Key × D) := l.map fun p => (Sum.inr p.1, enc p.2)
abbrev lookI (l : List (Str × Ty)) (x : Str) : Option Ty := lookP l x
theorem valD_encI : ∀ (l : List (Str × Ty)) (x : Str), valD (encI l) (.inr x) = (lookI l x).map enc
  | [], x => rfl
  | p :: l, x => by
    have ih := valD_encI l x
    unfold valD lookI lookP encI at ih ⊢
    rw [List.map_cons, List.find?_cons, List.find?_cons]
    by_cases h : p.1 = x
    · simp [h]
    · have e : decide ((Sum.inr p.1 : Key) = .inr x) = false := decide_eq_false fun z => h (Sum.inr.inj z)
      simp only [e, decide_eq_false h]
      exact ih
/-! ### what the dict of the new names holds -/
def encN (i : Nat) : List Str → List (Key × D)
  | [] => []
  | x :: r => (.inr x, .str (nameS i)) :: encN (i + 1) r
theorem encN_len : ∀ (i : Nat) (d : List Str), (encN i d).length = d.length
  | i, [] => rfl
  | i, x :: r => by simp only [encN, List.length_cons, encN_len (i + 1) r]
theorem valD_encN : ∀ (i : Nat) (d : List Str) (x : Str), valD (encN i d) (.inr x) = if x ∈ d then some (.str (nameS (i + d.idxOf x))) else none
  | i, [], x => rfl
  | i, y :: r, x => by
    have ih := valD_encN (i + 1) r x
    unfold valD at ih ⊢
    rw [encN, List.find?_cons]
    by_cases h : y = x
    · subst h; simp
    · have e : decide ((Sum.inr y : Key) = .inr x) = false := decide_eq_false fun z => h (Sum.inr.inj z)
      simp only [e]
      rw [ih, List.idxOf_cons]
      have e2 : (y == x) = false := beq_eq_false_iff_ne.mpr h
      have e3 : (x ∈ y :: r) = (x ∈ r) := by simp [Ne.symm h]
      simp only [e2, cond_false, e3]
      split
      · rw [show i + 1 + r.idxOf x = i + (r.idxOf x + 1) by omega]
      · rfl
theorem encN_append : ∀ (i : Nat) (d : List Str) (x : Str), encN i (d ++ [x]) = encN i d ++ [(.inr x, .str (nameS (i + d.length)))]
  | i, [], x => by simp [encN]
  | i, y :: r, x => by
    simp only [List.cons_append, encN, encN_append (i + 1) r x, List.length_cons]
    rw [show i + 1 + r.length = i + (r.length + 1) by omega]
theorem putD_encN {d : List Str} {x : Str} (h : x ∉ d) : putD (encN 0 d) (.inr x) (.str (nameS d.length)) = encN 0 (d ++ [x]) := by
  have h1 : ((encN 0 d).any fun kv => decide (kv.1 = (Sum.inr x : Key))) = false := by
    have : ∀ (i : Nat) (d : List Str), x ∉ d → ((encN i d).any fun kv => decide (kv.1 = (Sum.inr x : Key))) = false := fun i d => by
      induction d generalizing i with
      | nil => intro _; rfl
      | cons y r ih =>
        intro h
        rw [encN, List.any_cons, ih (i + 1) fun z => h (List.mem_cons_of_mem _ z)]
        have e : decide ((Sum.inr y : Key) = .inr x) = false := decide_eq_false fun z => h (by rw [Sum.inr.inj z]; exact List.mem_cons_self)
        simp only [e, Bool.false_or]
    exact this 0 d h
  unfold putD
  rw [h1, encN_append]
  simp
end DL.Ty
set_option Elab.async false
set_option linter.all false
set_option maxRecDepth 100000
set_option maxHeartbeats 4000000
namespace DL.Ty
open PySem PySem.Spec PyProof.Rows L2 DL
/-! ### what holds of all words of a type -/
mutual
def All (pv pr pl : Str → Prop) : Ty → Prop
  | .num => True
  | .tru => True
  | .var a => pv a
  | .fn a b => All pv pr pl a ∧ All pv pr pl b
  | .rcd fs e => Alls pv pr pl fs ∧ ∀ x, e = some x → pr x
termination_by structural x => x
def Alls (pv pr pl : Str → Prop) : List (Str × Ty) → Prop
  | [] => True
  | f :: r => Allf pv pr pl f ∧ Alls pv pr pl r
termination_by structural x => x
def Allf (pv pr pl : Str → Prop) : Str × Ty → Prop
  | (l, t) => pl l ∧ All pv pr pl t
termination_by structural x => x
end
section
variable {pv pr pl qv qr ql : Str → Prop}
theorem alls_iff : ∀ {fs : List (Str × Ty)}, Alls pv pr pl fs ↔ ∀ f, f ∈ fs → pl f.1 ∧ All pv pr pl f.2
  | [] => by simp [Alls]
  | (l, t) :: r => by
    rw [Alls, Allf, alls_iff (fs := r)]
    constructor
    · rintro ⟨h, h2⟩ f hf
      rcases List.mem_cons.mp hf with rfl | hf
      · exact h
      · exact h2 f hf
    · intro h
      exact ⟨h _ List.mem_cons_self, fun f hf => h f (List.mem_cons_of_mem _ hf)⟩
theorem all_mono (h1 : ∀ x, pv x → qv x) (h2 : ∀ x, pr x → qr x) (h3 : ∀ x, pl x → ql x) : ∀ {t : Ty}, All pv pr pl t → All qv qr ql t := by
  intro t
  induction t using Ty.ind with
  | h1 => exact fun _ => trivial
  | h2 => exact fun _ => trivial
  | h3 a => exact h1 a
  | h4 a b ia ib => exact fun h => ⟨ia h.1, ib h.2⟩
  | h5 fs e ih => exact fun h => ⟨alls_iff.mpr fun f hf => ⟨h3 _ (alls_iff.mp h.1 f hf).1, ih f hf (alls_iff.mp h.1 f hf).2⟩, fun x hx => h2 x (h.2 x hx)⟩
theorem all_norm {t : Ty} (h : All pv pr pl t) : All pv pr pl (norm t) := by
  induction t using Ty.ind with
  | h1 => exact h
  | h2 => exact h
  | h3 a => exact h
  | h4 a b ia ib => exact ⟨ia h.1, ib h.2⟩
  | h5 fs e ih =>
    rw [norm_rcd]
    refine ⟨alls_iff.mpr fun f hf => ?_, h.2⟩
    obtain ⟨g, hg, rfl⟩ := List.mem_map.mp (sortF_mem.mp hf)
    exact ⟨(alls_iff.mp h.1 g hg).1, ih g hg (alls_iff.mp h.1 g hg).2⟩
theorem all_sub {I : Str → Option Ty} (hI : ∀ x u, I x = some u → All pv pr pl u) {t : Ty} (h : All pv pr pl t) : All pv pr pl (sub I t) := by
  induction t using Ty.ind with
  | h1 => exact h
  | h2 => exact h
  | h3 a =>
    simp only [sub]
    cases q : I a with
    | none => exact h
    | some u => exact hI a u q
  | h4 a b ia ib => exact ⟨ia h.1, ib h.2⟩
  | h5 fs e ih =>
    have hs : Alls pv pr pl (subs I fs) := by
      rw [subs_map]
      refine alls_iff.mpr fun f hf => ?_
      obtain ⟨g, hg, rfl⟩ := List.mem_map.mp hf
      exact ⟨(alls_iff.mp h.1 g hg).1, ih g hg (alls_iff.mp h.1 g hg).2⟩
    have base : All pv pr pl (.rcd (subs I fs) e) := ⟨hs, h.2⟩
    cases e with
    | none => exact base
    | some x =>
      simp only [sub, Option.bind_some]
      cases q : I x with
      | none => exact base
      | some u =>
        cases u with
        | rcd gs e' =>
          have hu := hI x _ q
          refine ⟨alls_iff.mpr fun f hf => ?_, hu.2⟩
          rcases List.mem_append.mp hf with hf | hf
          · exact alls_iff.mp hs f hf
          · exact alls_iff.mp hu.1 f hf
        | _ => exact base
theorem all_ren {g : Str → Str} (hv : ∀ x, pv x → qv (g x)) (hr : ∀ x, pr x → qr (g x)) {t : Ty} (h : All pv pr pl t) : All qv qr pl (ren g t) := by
  induction t using Ty.ind with
  | h1 => exact h
  | h2 => exact h
  | h3 a => exact hv a h
  | h4 a b ia ib => exact ⟨ia h.1, ib h.2⟩
  | h5 fs e ih =>
    refine ⟨?_, fun x hx => ?_⟩
    · rw [rens_map]
      refine alls_iff.mpr fun f hf => ?_
      obtain ⟨k, hk, rfl⟩ := List.mem_map.mp hf
      exact ⟨(alls_iff.mp h.1 k hk).1, ih k hk (alls_iff.mp h.1 k hk).2⟩
    · cases e with
      | none => cases hx
      | some y => cases hx; exact hr y (h.2 y rfl)
theorem all_occ {t : Ty} (h : All pv pr pl t) : ∀ p, p ∈ occ t → (p.1 = false → pv p.2) ∧ (p.1 = true → pr p.2) := by
  induction t using Ty.ind with
  | h1 => intro p hp; cases hp
  | h2 => intro p hp; cases hp
  | h3 a => intro p hp; rw [List.mem_singleton.mp hp]; exact ⟨fun _ => h, (fun z => by cases z)⟩
  | h4 a b ia ib =>
    intro p hp
    rcases List.mem_append.mp hp with hp | hp
    · exact ia h.1 p hp
    · exact ib h.2 p hp
  | h5 fs e ih =>
    intro p hp
    simp only [occ, occs_flat] at hp
    rcases List.mem_append.mp hp with hp | hp
    · obtain ⟨f, hf, hp⟩ := List.mem_flatMap.mp hp
      exact ih f hf (alls_iff.mp h.1 f hf).2 p hp
    · cases e with
      | none => cases hp
      | some x =>
        simp only [Option.toList_some, List.map_cons, List.map_nil, List.mem_singleton] at hp
        subst hp
        exact ⟨(fun z => by cases z), fun _ => h.2 x rfl⟩
theorem all_names {P : Str → Prop} {t : Ty} (h : All P P pl t) {x : Str} (hx : x ∈ names t) : P x := by
  obtain ⟨p, hp, rfl⟩ := List.mem_map.mp hx
  have := all_occ h p hp
  cases q : p.1 with
  | false => exact this.1 q
  | true => exact this.2 q
end
/-! ### a type as data -/
mutual
def pyT : Ty → PyData
  | .num => .tuple [.str "number"]
  | .tru => .tuple [.str "truth"]
  | .var a => .tuple [.str "var", .str a]
  | .fn a b => .tuple [.str "fun", pyT a, pyT b]
  | .rcd fs e => .tuple [.str "record", .tuple (pyTs fs), (match e with | none => .none | some x => .str x)]
termination_by structural x => x
def pyTs : List (Str × Ty) → List PyData
  | [] => []
  | f :: r => pyTf f :: pyTs r
termination_by structural x => x
def pyTf : Str × Ty → PyData
  | (l, t) => .tuple [.str l, pyT t]
termination_by structural x => x
end
theorem pyTs_map : ∀ fs : List (Str × Ty), pyTs fs = fs.map fun f => .tuple [.str f.1, pyT f.2]
  | [] => rfl
  | (l, t) :: r => by rw [pyTs, pyTs_map r, pyTf]; rfl
theorem toPys_map {α : Type} {f : α → D} {g : α → PyData} : ∀ {l : List α}, (∀ x, x ∈ l → toPy (f x) = some (g x)) → toPys (l.map f) = some (l.map g)
  | [], _ => rfl
  | x :: l, h => by
    simp only [List.map_cons, toPys, h x List.mem_cons_self, toPys_map fun y hy => h y (List.mem_cons_of_mem _ hy)]
theorem toPy_enc (t : Ty) : toPy (enc t) = some (pyT t) := by
  induction t using Ty.ind with
  | h1 => rfl
  | h2 => rfl
  | h3 a => rfl
  | h4 a b ia ib => simp only [enc, toPy, toPys, ia, ib, pyT, Option.map_some]
  | h5 fs e ih =>
    rw [enc_rcd]
    have h : toPys (fs.map itD) = some (fs.map fun f => .tuple [.str f.1, pyT f.2]) := toPys_map fun f hf => by
      simp only [itD, toPy, toPys, ih f hf, Option.map_some]
    cases e <;> simp only [toPy, toPys, h, endD, Option.map_some, pyT, pyTs_map]
theorem toPyS_tup (ds : List D) (st : Sto) : toPyS st (.tup ds) = toPy (.tup ds) := rfl
theorem enc_tup (t : Ty) : ∃ ds, enc t = .tup ds := by
  cases t with
  | rcd fs e => exact ⟨_, enc_rcd fs e⟩
  | _ => exact ⟨_, rfl⟩
theorem toPyS_enc (t : Ty) (st : Sto) : toPyS st (enc t) = some (pyT t) := by
  obtain ⟨ds, e⟩ := enc_tup t
  have := toPy_enc t
  rw [e] at this ⊢
  exact this
theorem eqS_enc (t u : Ty) : eqS (enc t) (enc u) = none := by
  obtain ⟨ds, e⟩ := enc_tup t
  obtain ⟨es, e2⟩ := enc_tup u
  rw [e, e2]; rfl
def sOk (x : Str) : Prop := PyData.strOk x = true
theorem lay_pyT {t : Ty} (h : All sOk sOk sOk t) : (pyT t).canLay0 = true := by
  induction t using Ty.ind with
  | h1 => decide +kernel
  | h2 => decide +kernel
  | h3 a => simp only [pyT, PyData.canLay0, PyData.canLayAll0, Bool.and_true, Bool.and_eq_true]; exact ⟨by decide +kernel, h⟩
  | h4 a b ia ib => simp only [pyT, PyData.canLay0, PyData.canLayAll0, Bool.and_true, Bool.and_eq_true]; exact ⟨by decide +kernel, ia h.1, ib h.2⟩
  | h5 fs e ih =>
    have hs : PyData.canLayAll0 (pyTs fs) = true := by
      rw [pyTs_map]
      have := alls_iff.mp h.1
      clear h
      induction fs with
      | nil => rfl
      | cons f r ihr =>
        simp only [List.map_cons, PyData.canLayAll0, PyData.canLay0, Bool.and_true, Bool.and_eq_true]
        exact ⟨⟨(this f List.mem_cons_self).1, ih f List.mem_cons_self (this f List.mem_cons_self).2⟩, ihr (fun g hg => ih g (List.mem_cons_of_mem _ hg)) fun g hg => this g (List.mem_cons_of_mem _ hg)⟩
    simp only [pyT, PyData.canLay0, PyData.canLayAll0, Bool.and_true, Bool.and_eq_true]
    refine ⟨by decide +kernel, hs, ?_⟩
    cases e with
    | none => rfl
    | some x => exact h.2 x rfl
theorem depthAll_le {n : Nat} : ∀ {l : List PyData}, (∀ x, x ∈ l → x.depth ≤ n) → PyData.depthAll l ≤ n
  | [], _ => Nat.zero_le _
  | x :: l, h => by
    simp only [PyData.depthAll]
    exact Nat.max_le.mpr ⟨h x List.mem_cons_self, depthAll_le fun y hy => h y (List.mem_cons_of_mem _ hy)⟩
theorem depth_pyT (t : Ty) : (pyT t).depth ≤ 3 * high t := by
  induction t using Ty.ind with
  | h1 => simp only [pyT, PyData.depth, PyData.depthAll, high]; omega
  | h2 => simp only [pyT, PyData.depth, PyData.depthAll, high]; omega
  | h3 a => simp only [pyT, PyData.depth, PyData.depthAll, high]; omega
  | h4 a b ia ib => simp only [pyT, PyData.depth, PyData.depthAll, high]; omega
  | h5 fs e ih =>
    have hs : PyData.depthAll (pyTs fs) ≤ 3 * highs fs + 1 := by
      rw [pyTs_map]
      refine depthAll_le fun x hx => ?_
      obtain ⟨f, hf, rfl⟩ := List.mem_map.mp hx
      have h1 := ih f hf
      have h2 := highs_le.mp (Nat.le_refl (highs fs)) f hf
      simp only [PyData.depth, PyData.depthAll]; omega
    cases e <;> simp only [pyT, PyData.depth, PyData.depthAll, high] <;> omega
theorem ne_ty {t : Ty} (h : All sOk sOk sOk t) (hh : high t ≤ 21) (st : Sto) : opNe (enc t) (enc t) st = .ok (.bl false) st :=
  opNe_same (toPyS_enc t st) (eqS_enc t t) (lay_pyT h) (by have := depth_pyT t; omega)
theorem eq_ty {t : Ty} (h : All sOk sOk sOk t) (hh : high t ≤ 21) (st : Sto) : opEq (enc t) (enc t) st = .ok (.bl true) st :=
  opEq_same (toPyS_enc t st) (eqS_enc t t) (lay_pyT h) (by have := depth_pyT t; omega)
theorem ne_tys {ts : List Ty} (h : ∀ t, t ∈ ts → All sOk sOk sOk t ∧ high t ≤ 20) (st : Sto) : opNe (.tup (ts.map enc)) (.tup (ts.map enc)) st = .ok (.bl false) st := by
  have e : toPyS st (.tup (ts.map enc)) = some (.tuple (ts.map pyT)) := by
    rw [toPyS_tup]
    simp only [toPy, toPys_map (f := enc) (g := pyT) fun x _ => toPy_enc x, Option.map_some]
  refine opNe_same e rfl ?_ ?_
  · simp only [PyData.canLay0]
    clear e
    induction ts with
    | nil => rfl
    | cons t r ih =>
      simp only [List.map_cons, PyData.canLayAll0, Bool.and_eq_true]
      exact ⟨lay_pyT (h t List.mem_cons_self).1, ih fun u hu => h u (List.mem_cons_of_mem _ hu)⟩
  · have : PyData.depthAll (ts.map pyT) ≤ 60 := depthAll_le fun x hx => by
      obtain ⟨t, ht, rfl⟩ := List.mem_map.mp hx
      have h1 := depth_pyT t
      have h2 := (h t ht).2
      omega
    simp only [PyData.depth]; omega
theorem nameL_lt (n : Nat) : ∀ c, c ∈ nameL n → 97 ≤ c ∧ c < 123 := by
  induction n using Nat.strongRecOn with
  | ind n ih =>
    intro c hc
    rw [nameL] at hc
    by_cases h : n < 26
    · rw [if_pos h] at hc
      rw [List.mem_singleton.mp hc]; omega
    · rw [if_neg h] at hc
      rcases List.mem_append.mp hc with hc | hc
      · exact ih _ (by omega) c hc
      · rw [List.mem_singleton.mp hc]; omega
theorem nameS_ok (n : Nat) : sOk (nameS n) := by
  unfold sOk PyData.strOk nameS
  rw [Array.all_eq_true]
  intro i hi
  have := nameL_lt n (nameL n).toArray[i] (by simp)
  refine decide_eq_true ?_
  show (nameL n).toArray[i] < 1114112
  omega
theorem high_sub {I : Str → Option Ty} {n : Nat} (hI : ∀ x u, I x = some u → high u ≤ n) (t : Ty) : high (sub I t) ≤ high t + n := by
  induction t using Ty.ind with
  | h1 => simp only [sub, high]; omega
  | h2 => simp only [sub, high]; omega
  | h3 a =>
    simp only [sub]
    cases q : I a with
    | none => simp only [Option.getD_none, high]; omega
    | some u => have := hI a u q; simp only [Option.getD_some, high]; omega
  | h4 a b ia ib => simp only [sub, high]; omega
  | h5 fs e ih =>
    have hs : highs (subs I fs) ≤ highs fs + n := by
      rw [subs_map]
      refine highs_le.mpr fun f hf => ?_
      obtain ⟨g, hg, rfl⟩ := List.mem_map.mp hf
      have h1 := ih g hg
      have h2 := highs_le.mp (Nat.le_refl (highs fs)) g hg
      simp only
      omega
    have base : high (.rcd (subs I fs) e) ≤ high (.rcd fs e) + n := by simp only [high]; omega
    cases e with
    | none => exact base
    | some x =>
      simp only [sub, Option.bind_some]
      cases q : I x with
      | none => exact base
      | some u =>
        cases u with
        | rcd gs e' =>
          have hu := hI x _ q
          simp only [high] at hu ⊢
          have : highs (subs I fs ++ gs) ≤ highs fs + n := by
            refine highs_le.mpr fun f hf => ?_
            rcases List.mem_append.mp hf with hf | hf
            · exact Nat.le_trans (highs_le.mp (Nat.le_refl _) f hf) hs
            · have := highs_le.mp (Nat.le_refl (highs gs)) f hf; omega
          omega
        | _ => exact base
theorem syms_sub {I : Str → Option Ty} {n : Nat} (hI : ∀ x u, I x = some u → syms u ≤ n) (t : Ty) : syms (sub I t) ≤ syms t * (n + 1) := by
  induction t using Ty.ind with
  | h1 => simp only [sub, syms]; omega
  | h2 => simp only [sub, syms]; omega
  | h3 a =>
    simp only [sub]
    cases q : I a with
    | none => simp only [Option.getD_none, syms]; omega
    | some u => have := hI a u q; simp only [Option.getD_some, syms]; omega
  | h4 a b ia ib =>
    simp only [sub, syms]
    have e : (1 + syms a + syms b) * (n + 1) = (n + 1) + syms a * (n + 1) + syms b * (n + 1) := by rw [Nat.add_mul, Nat.add_mul, Nat.one_mul]
    omega
  | h5 fs e ih =>
    have hs : symss (subs I fs) ≤ symss fs * (n + 1) := by
      rw [subs_map, symss_sum, symss_sum, List.map_map]
      clear e
      induction fs with
      | nil => simp
      | cons f r ihr =>
        have h1 := ih f List.mem_cons_self
        have h2 := ihr fun g hg => ih g (List.mem_cons_of_mem _ hg)
        simp only [List.map_cons, List.sum_cons, Function.comp_apply] at h2 ⊢
        have e : (1 + syms f.2 + (r.map fun f => 1 + syms f.2).sum) * (n + 1) = (n + 1) + syms f.2 * (n + 1) + (r.map fun f => 1 + syms f.2).sum * (n + 1) := by rw [Nat.add_mul, Nat.add_mul, Nat.one_mul]
        omega
    have base : syms (.rcd (subs I fs) e) ≤ syms (.rcd fs e) * (n + 1) := by
      simp only [syms]
      rw [Nat.add_mul]
      split <;> omega
    cases e with
    | none => exact base
    | some x =>
      simp only [sub, Option.bind_some]
      cases q : I x with
      | none => exact base
      | some u =>
        cases u with
        | rcd gs e' =>
          have hu := hI x _ q
          have ea : symss (subs I fs ++ gs) = symss (subs I fs) + symss gs := by simp only [symss_sum, List.map_append, List.sum_append]
          simp only [syms, ea] at hu ⊢
          rw [Nat.add_mul]
          have e2 : (if (some x : Option Str) = none then 1 else 2) = 2 := rfl
          rw [e2]
          split at hu <;> split <;> first | omega | (rename_i h1 h2; exact absurd h1 h2) | (rename_i h1 h2; exact absurd h2 h1)
        | _ => exact base
end DL.Ty
namespace DL.Ty
open PySem PySem.Spec PyProof.Rows L2 DL
theorem high_ren (g : Str → Str) (t : Ty) : high (ren g t) = high t := by
  induction t using Ty.ind with
  | h1 => rfl
  | h2 => rfl
  | h3 => rfl
  | h4 a b ia ib => simp only [ren, high, ia, ib]
  | h5 fs e ih =>
    simp only [ren, high]
    congr 1
    rw [rens_map]
    refine Nat.le_antisymm (highs_le.mpr fun f hf => ?_) (highs_le.mpr fun f hf => ?_)
    · obtain ⟨k, hk, rfl⟩ := List.mem_map.mp hf
      simp only
      rw [ih k hk]
      exact highs_le.mp (Nat.le_refl _) k hk
    · have := highs_le.mp (Nat.le_refl (highs (fs.map fun f => (f.1, ren g f.2)))) (f.1, ren g f.2) (List.mem_map.mpr ⟨f, hf, rfl⟩)
      rw [← ih f hf]
      exact this
theorem syms_ren (g : Str → Str) (t : Ty) : syms (ren g t) = syms t := by
  induction t using Ty.ind with
  | h1 => rfl
  | h2 => rfl
  | h3 => rfl
  | h4 a b ia ib => simp only [ren, syms, ia, ib]
  | h5 fs e ih =>
    simp only [ren, syms, rens_map, symss_sum, List.map_map]
    congr 1
    · cases e <;> simp
    · congr 1
      refine List.map_congr_left fun f hf => ?_
      simp only [Function.comp_apply, ih f hf]
theorem told_mem {ts : List Ty} {t : Ty} (h : t ∈ told ts) : ∃ u, u ∈ ts ∧ t = ren (toldN (addN [] (namesL (ts.map norm)))) (norm u) := by
  unfold told at h
  obtain ⟨v, hv, rfl⟩ := List.mem_map.mp h
  obtain ⟨u, hu, rfl⟩ := List.mem_map.mp hv
  exact ⟨u, hu, rfl⟩
theorem told_high {ts : List Ty} {n : Nat} (h : ∀ t, t ∈ ts → high t ≤ n) : ∀ t, t ∈ told ts → high t ≤ n := fun t ht => by
  obtain ⟨u, hu, rfl⟩ := told_mem ht
  rw [high_ren, high_norm]; exact h u hu
theorem told_syms (ts : List Ty) : ((told ts).map syms).sum = (ts.map syms).sum := by
  unfold told
  rw [List.map_map, List.map_map]
  congr 1
  refine List.map_congr_left fun t _ => ?_
  simp only [Function.comp_apply, syms_ren, syms_norm]
theorem told_all {pl : Str → Prop} {pv pr : Str → Prop} {ts : List Ty} (h : ∀ t, t ∈ ts → All pv pr pl t) : ∀ t, t ∈ told ts → All sOk sOk pl t := fun t ht => by
  obtain ⟨u, hu, rfl⟩ := told_mem ht
  exact all_ren (fun _ _ => nameS_ok _) (fun _ _ => nameS_ok _) (all_norm (h u hu))
theorem toPy_strs (xs : List Str) : toPy (.lv (xs.map D.str)) = some (.list (xs.map PyData.str)) := by
  simp only [toPy, DL.toPys_strs, Option.map_some]
theorem ne_strs {xs : List Str} (h : ∀ x, x ∈ xs → sOk x) (st : Sto) : opNe (.lv (xs.map D.str)) (.lv (xs.map D.str)) st = .ok (.bl false) st := by
  refine opNe_same (p := .list (xs.map PyData.str)) (toPy_strs xs) rfl ?_ ?_
  · simp only [PyData.canLay0]
    induction xs with
    | nil => rfl
    | cons x r ih =>
      simp only [List.map_cons, PyData.canLayAll0, PyData.canLay0, Bool.and_eq_true]
      exact ⟨h x List.mem_cons_self, ih fun y hy => h y (List.mem_cons_of_mem _ hy)⟩
  · have : PyData.depthAll (xs.map PyData.str) ≤ 0 := depthAll_le fun x hx => by
      obtain ⟨t, ht, rfl⟩ := List.mem_map.mp hx
      simp only [PyData.depth]; exact Nat.le_refl _
    simp only [PyData.depth]; omega
end DL.Ty
set_option Elab.async false
set_option linter.all false
set_option maxRecDepth 100000
set_option maxHeartbeats 0
namespace K28
open PySem PySem.Spec PyProof.Rows L2 LamX DL
/-! the walk of law_k28_substitutions: printed by gen.py -/
def top (i : Nat) : Stmt := PySem.Challenge.pw_rowtypes_k28_substitutions.main.body.getD i (.Pass ⟨0, 0, 0, 0⟩)
def u_normal (F I : Nat → Fn) : FS :=
  (sSeq (sIf (bOf (fOp opEq (fOp opIx (fV 0) (fC (.int 0))) (fC (.str "fun"))))
  (sRet (fTup (aCons (fC (.str "fun")) (aCons (fCallN 1 (F 0) (aCons (fOp opIx (fV 0) (fC (.int 1))) aNil)) (aCons (fCallN 1 (F 0) (aCons (fOp opIx (fV 0) (fC (.int 2))) aNil)) aNil)))))
  sNil)
  (sSeq (sIf (bOf (fOp opEq (fOp opIx (fV 0) (fC (.int 0))) (fC (.str "record"))))
  (sSeq (sSet 1 (fLcG finLv (iV (fOp opIx (fV 0) (fC (.int 1)))) (gTupD 2 (gConsD (gN 2) (gConsD (gN 3) gNilD))) [2, 3] bYes (fTup (aCons (fV 2) (aCons (fCallN 1 (F 0) (aCons (fV 3) aNil)) aNil)))))
  (sRet (fTup (aCons (fC (.str "record")) (aCons (fTupOf (fSortK (fV 1))) (aCons (fOp opIx (fV 0) (fC (.int 2))) aNil))))))
  sNil)
  (sRet (fV 0))))
def u_symbols (F I : Nat → Fn) : FS :=
  (sSeq (sIf (bOf (fOp opEq (fOp opIx (fV 0) (fC (.int 0))) (fC (.str "fun"))))
  (sRet (fOp opAddA (fOp opAddA (fC (.int 1)) (fCallN 1 (F 1) (aCons (fOp opIx (fV 0) (fC (.int 1))) aNil))) (fCallN 1 (F 1) (aCons (fOp opIx (fV 0) (fC (.int 2))) aNil))))
  sNil)
  (sSeq (sIf (bOf (fOp opEq (fOp opIx (fV 0) (fC (.int 0))) (fC (.str "record"))))
  (sSeq (sSet 1 (fIf (bOf (fOp opIs (fOp opIx (fV 0) (fC (.int 2))) (fC .non))) (fC (.int 1)) (fC (.int 2))))
  (sRet (fOp opAddA (fV 1) (fB oSum (aCons (fLcG finLv (iV (fOp opIx (fV 0) (fC (.int 1)))) (gTupD 2 (gConsD (gN 2) (gConsD (gN 3) gNilD))) [2, 3] bYes (fOp opAddA (fC (.int 1)) (fCallN 1 (F 1) (aCons (fV 3) aNil)))) aNil)))))
  sNil)
  (sRet (fC (.int 1)))))
def u_gather (F I : Nat → Fn) : FS :=
  (sSeq (sIf (bAnd (bOf (fOp opEq (fOp opIx (fV 0) (fC (.int 0))) (fC (.str "var")))) (bOf (fOp opNotIn (fOp opIx (fV 0) (fC (.int 1))) (fV 1))))
  (sExp (fMt oAppend (fV 1) (aCons (fOp opIx (fV 0) (fC (.int 1))) aNil)))
  sNil)
  (sSeq (sIf (bOf (fOp opEq (fOp opIx (fV 0) (fC (.int 0))) (fC (.str "fun"))))
  (sSeq (sExp (fCallN 3 (F 2) (aCons (fOp opIx (fV 0) (fC (.int 1))) (aCons (fV 1) (aCons (fV 2) aNil)))))
  (sExp (fCallN 3 (F 2) (aCons (fOp opIx (fV 0) (fC (.int 2))) (aCons (fV 1) (aCons (fV 2) aNil))))))
  sNil)
  (sIf (bOf (fOp opEq (fOp opIx (fV 0) (fC (.int 0))) (fC (.str "record"))))
  (sSeq (sForV (fOp opIx (fV 0) (fC (.int 1))) (gTupD 2 (gConsD (gN 3) (gConsD (gN 4) gNilD)))
  (sExp (fCallN 3 (F 2) (aCons (fV 4) (aCons (fV 1) (aCons (fV 2) aNil))))))
  (sIf (bAnd (bOf (fOp opIsNot (fOp opIx (fV 0) (fC (.int 2))) (fC .non))) (bOf (fOp opNotIn (fOp opIx (fV 0) (fC (.int 2))) (fV 2))))
  (sExp (fMt oAppend (fV 2) (aCons (fOp opIx (fV 0) (fC (.int 2))) aNil)))
  sNil))
  sNil)))
def u_variables (F I : Nat → Fn) : FS :=
  (sSeq (sSet 1 (fLst aNil))
  (sSeq (sSet 2 (fLst aNil))
  (sSeq (sExp (fCallN 3 (F 2) (aCons (fV 0) (aCons (fV 1) (aCons (fV 2) aNil)))))
  (sRet (fTup (aCons (fV 1) (aCons (fV 2) aNil)))))))
def u_substitute (F I : Nat → Fn) : FS :=
  (sSeq (sIf (bOf (fOp opEq (fOp opIx (fV 0) (fC (.int 0))) (fC (.str "var"))))
  (sRet (fDget (fV 1) (fOp opIx (fV 0) (fC (.int 1))) (fV 0)))
  sNil)
  (sSeq (sIf (bOf (fOp opEq (fOp opIx (fV 0) (fC (.int 0))) (fC (.str "fun"))))
  (sRet (fTup (aCons (fC (.str "fun")) (aCons (fCallN 2 (F 4) (aCons (fOp opIx (fV 0) (fC (.int 1))) (aCons (fV 1) aNil))) (aCons (fCallN 2 (F 4) (aCons (fOp opIx (fV 0) (fC (.int 2))) (aCons (fV 1) aNil))) aNil)))))
  sNil)
  (sSeq (sIf (bOf (fOp opEq (fOp opIx (fV 0) (fC (.int 0))) (fC (.str "record"))))
  (sSeq (sSet 2 (fTupOf (fLcG finLv (iV (fOp opIx (fV 0) (fC (.int 1)))) (gTupD 2 (gConsD (gN 6) (gConsD (gN 7) gNilD))) [6, 7] bYes (fTup (aCons (fV 6) (aCons (fCallN 2 (F 4) (aCons (fV 7) (aCons (fV 1) aNil))) aNil))))))
  (sSeq (sIf (bOf (fOp opNotInN (fOp opIx (fV 0) (fC (.int 2))) (fV 1)))
  (sRet (fTup (aCons (fC (.str "record")) (aCons (fV 2) (aCons (fOp opIx (fV 0) (fC (.int 2))) aNil)))))
  sNil)
  (sSeq (sAsg (fOp opIx (fV 1) (fOp opIx (fV 0) (fC (.int 2)))) (gTupD 3 (gConsD (gN 3) (gConsD (gN 4) (gConsD (gN 5) gNilD)))))
  (sRet (fTup (aCons (fC (.str "record")) (aCons (fOp opAddA (fV 2) (fV 4)) (aCons (fV 5) aNil))))))))
  sNil)
  (sRet (fV 0)))))
def u_name_of (F I : Nat → Fn) : FS :=
  (sSeq (sSet 1 (fC (.str "")))
  (sSeq (sAug 0 (· + ·) (fC (.int 1)))
  (sSeq (whileD (bOf (fOp opGt (fV 0) (fC (.int 0))))
  (sSeq (sAug 0 (· - ·) (fC (.int 1)))
  (sSeq (sSet 1 (fOp opAddA (fOp opIx (fC (.str "abcdefghijklmnopqrstuvwxyz")) (fOp opMod (fV 0) (fC (.int 26)))) (fV 1)))
  (sSet 0 (fOp opDiv (fV 0) (fC (.int 26)))))) forMost)
  (sRet (fV 1)))))
def u_Renaming____init__ (F I : Nat → Fn) : FS :=
  (sFldD "Renaming" "names" (fV 0) fDnewK)
def u_Renaming__new_name (F I : Nat → Fn) : FS :=
  (sSeq (sIf (bOf (fOp opNotIn (fV 1) (fFld "Renaming" "names" (fV 0))))
  (sAsg (fCallN 1 (F 5) (aCons (fB oLen (aCons (fFld "Renaming" "names" (fV 0)) aNil)) aNil)) (gSubD (fFld "Renaming" "names" (fV 0)) (fV 1)))
  sNil)
  (sRet (fOp opIx (fFld "Renaming" "names" (fV 0)) (fV 1))))
def u_Renaming__renamed (F I : Nat → Fn) : FS :=
  (sSeq (sIf (bOf (fOp opEq (fOp opIx (fV 1) (fC (.int 0))) (fC (.str "var"))))
  (sRet (fTup (aCons (fC (.str "var")) (aCons (fMethN "Renaming" "new_name" 2 (F 7) (fV 0) (aCons (fOp opIx (fV 1) (fC (.int 1))) aNil)) aNil))))
  sNil)
  (sSeq (sIf (bOf (fOp opEq (fOp opIx (fV 1) (fC (.int 0))) (fC (.str "fun"))))
  (sSeq (sSet 2 (fMethN "Renaming" "renamed" 2 (F 8) (fV 0) (aCons (fOp opIx (fV 1) (fC (.int 1))) aNil)))
  (sRet (fTup (aCons (fC (.str "fun")) (aCons (fV 2) (aCons (fMethN "Renaming" "renamed" 2 (F 8) (fV 0) (aCons (fOp opIx (fV 1) (fC (.int 2))) aNil)) aNil))))))
  sNil)
  (sSeq (sIf (bOf (fOp opEq (fOp opIx (fV 1) (fC (.int 0))) (fC (.str "record"))))
  (sSeq (sSet 3 (fTupOf (fLcG finLv (iV (fOp opIx (fV 1) (fC (.int 1)))) (gTupD 2 (gConsD (gN 4) (gConsD (gN 5) gNilD))) [4, 5] bYes (fTup (aCons (fV 4) (aCons (fMethN "Renaming" "renamed" 2 (F 8) (fV 0) (aCons (fV 5) aNil)) aNil))))))
  (sRet (fTup (aCons (fC (.str "record")) (aCons (fV 3) (aCons (fIf (bOf (fOp opIs (fOp opIx (fV 1) (fC (.int 2))) (fC .non))) (fC .non) (fMethN "Renaming" "new_name" 2 (F 7) (fV 0) (aCons (fOp opIx (fV 1) (fC (.int 2))) aNil))) aNil))))))
  sNil)
  (sRet (fV 1)))))
def u_told (F I : Nat → Fn) : FS :=
  (sSeq (sSet 1 (fMakeN "Renaming" 1 (I 6) aNil))
  (sRet (fTupOf (fLcG finLv (iV (fV 0)) (gN 2) [2] bYes (fMethN "Renaming" "renamed" 2 (F 8) (fV 1) (aCons (fCallN 1 (F 0) (aCons (fV 2) aNil)) aNil))))))
def u__law_cell (F I : Nat → Fn) : FS :=
  (sSeq (sIf (bOf (fOp opLt (fV 1) (fB oLen (aCons (fV 0) aNil))))
  (sRet (fOp opIx (fV 0) (fV 1)))
  sNil)
  (sRet (fC (.int 0))))
def u__law_digits (F I : Nat → Fn) : FS :=
  (sSeq (sSet 3 (fLst aNil))
  (sSeq (sFor (iRng2D (fV 1) (fV 2)) (gN 4)
  (sSeq (sSet 5 (fCallN 2 (F 10) (aCons (fV 0) (aCons (fV 4) aNil))))
  (sSeq (sIf (bOf (fOp opLt (fV 5) (fC (.int 0))))
  (sSet 5 (fOp opSub (fC (.int 1)) (fOp opMul (fC (.int 2)) (fV 5))))
  sNil)
  (sIf (bOf (fOp opGe (fV 5) (fOp opPow (fC (.int 10)) (fC (.int 18)))))
  (sFor (iRng1D (fC (.int 60))) (gN 6)
  (sIf (bOf (fOp opGt (fV 5) (fC (.int 0))))
  (sSeq (sExp (fMt oAppend (fV 3) (aCons (fOp opMod (fB oInt (aCons (fV 5) aNil)) (fC (.int 1000))) aNil)))
  (sSet 5 (fOp opDiv (fV 5) (fC (.int 1000)))))
  sNil))
  (sSeq (sSet 7 (fOp opMod (fB oInt (aCons (fOp opAddA (fOp opAddA (fOp opMul (fV 5) (fC (.int 48271))) (fOp opMul (fV 4) (fC (.int 69621)))) (fC (.int 11))) aNil)) (fC (.int 2147483647))))
  (sFor (iRng1D (fC (.int 12))) (gN 6)
  (sSeq (sSet 7 (fOp opMod (fB oInt (aCons (fOp opAddA (fOp opAddA (fOp opMul (fV 7) (fC (.int 16807))) (fOp opMul (fC (.int 7)) (fV 6))) (fC (.int 1))) aNil)) (fC (.int 2147483647))))
  (sExp (fMt oAppend (fV 3) (aCons (fOp opMod (fB oInt (aCons (fOp opDiv (fV 7) (fC (.int 997))) aNil)) (fC (.int 1000))) aNil))))))))))
  (sRet (fV 3))))
def u__law_draw (F I : Nat → Fn) : FS :=
  (sSeq (sSet 2 (fOp opIx (fV 0) (fC (.int 1))))
  (sSeq (sAsg (fOp opAddA (fV 2) (fC (.int 1))) (gSubD (fV 0) (fC (.int 1))))
  (sSeq (sIf (bOf (fOp opLt (fV 2) (fB oLen (aCons (fOp opIx (fV 0) (fC (.int 0))) aNil))))
  (sRet (fOp opMod (fB oInt (aCons (fOp opIx (fOp opIx (fV 0) (fC (.int 0))) (fV 2)) aNil)) (fV 1)))
  sNil)
  (sRet (fOp opMod (fB oInt (aCons (fOp opAddA (fOp opMul (fV 2) (fC (.int 7))) (fC (.int 3))) aNil)) (fV 1))))))
def u__law_type (F I : Nat → Fn) : FS :=
  (sSeq (sSet 2 (fCallN 2 (F 12) (aCons (fV 0) (aCons (fC (.int 8)) aNil))))
  (sSeq (sIf (bOr (bOf (fOp opEq (fV 1) (fC (.int 0)))) (bOf (fOp opLt (fV 2) (fC (.int 3)))))
  (sRet (fOp opIx (fLv (aCons (fTup (aCons (fC (.str "number")) aNil)) (aCons (fTup (aCons (fC (.str "truth")) aNil)) (aCons (fTup (aCons (fC (.str "var")) (aCons (fC (.str "a")) aNil))) (aCons (fTup (aCons (fC (.str "var")) (aCons (fC (.str "b")) aNil))) (aCons (fTup (aCons (fC (.str "var")) (aCons (fC (.str "zz")) aNil))) (aCons (fTup (aCons (fC (.str "var")) (aCons (fC (.str "c")) aNil))) aNil))))))) (fCallN 2 (F 12) (aCons (fV 0) (aCons (fC (.int 6)) aNil)))))
  sNil)
  (sSeq (sIf (bOf (fOp opLt (fV 2) (fC (.int 5))))
  (sRet (fTup (aCons (fC (.str "fun")) (aCons (fCallN 2 (F 13) (aCons (fV 0) (aCons (fOp opSub (fV 1) (fC (.int 1))) aNil))) (aCons (fCallN 2 (F 13) (aCons (fV 0) (aCons (fOp opSub (fV 1) (fC (.int 1))) aNil))) aNil)))))
  sNil)
  (sRet (fCallN 2 (F 14) (aCons (fV 0) (aCons (fV 1) aNil)))))))
def u__law_record (F I : Nat → Fn) : FS :=
  (sSeq (sSet 2 (fTupOf (fLcG finLv (iRng1D (fCallN 2 (F 12) (aCons (fV 0) (aCons (fC (.int 4)) aNil)))) (gN 3) [3] bYes (fTup (aCons (fOp opIx (fLv (aCons (fC (.str "x")) (aCons (fC (.str "y")) (aCons (fC (.str "z")) (aCons (fC (.str "number")) aNil))))) (fCallN 2 (F 12) (aCons (fV 0) (aCons (fC (.int 4)) aNil)))) (aCons (fCallN 2 (F 13) (aCons (fV 0) (aCons (fOp opSub (fV 1) (fC (.int 1))) aNil))) aNil))))))
  (sRet (fTup (aCons (fC (.str "record")) (aCons (fV 2) (aCons (fOp opIx (fLv (aCons (fC .non) (aCons (fC (.str "r")) (aCons (fC (.str "s")) (aCons (fC (.str "q")) aNil))))) (fCallN 2 (F 12) (aCons (fV 0) (aCons (fC (.int 4)) aNil)))) aNil))))))
def u__law_drawn_images (F I : Nat → Fn) : FS :=
  (sSeq (sSet 2 fDnewK)
  (sSeq (sForV (fLv (aCons (fC (.str "a")) (aCons (fC (.str "b")) (aCons (fC (.str "c")) (aCons (fC (.str "zz")) aNil))))) (gN 3)
  (sIf (bOf (fOp opGt (fCallN 2 (F 12) (aCons (fV 0) (aCons (fC (.int 3)) aNil))) (fC (.int 0))))
  (sAsg (fCallN 2 (F 13) (aCons (fV 0) (aCons (fV 1) aNil))) (gSubD (fV 2) (fV 3)))
  sNil))
  (sSeq (sForV (fLv (aCons (fC (.str "q")) (aCons (fC (.str "r")) (aCons (fC (.str "s")) aNil)))) (gN 3)
  (sIf (bOf (fOp opGt (fCallN 2 (F 12) (aCons (fV 0) (aCons (fC (.int 3)) aNil))) (fC (.int 0))))
  (sAsg (fCallN 2 (F 14) (aCons (fV 0) (aCons (fV 1) aNil))) (gSubD (fV 2) (fV 3)))
  sNil))
  (sRet (fV 2)))))
def u__law_other_names (F I : Nat → Fn) : FS :=
  (sSeq (sSet 1 (fDisp (pCons (fC (.str "a")) (fTup (aCons (fC (.str "var")) (aCons (fC (.str "m")) aNil))) (pCons (fC (.str "b")) (fTup (aCons (fC (.str "var")) (aCons (fC (.str "a")) aNil))) (pCons (fC (.str "c")) (fTup (aCons (fC (.str "var")) (aCons (fC (.str "zz")) aNil))) (pCons (fC (.str "zz")) (fTup (aCons (fC (.str "var")) (aCons (fC (.str "k")) aNil))) pNil))))))
  (sSeq (sAsg (fTup (aCons (fC (.str "record")) (aCons (fTup aNil) (aCons (fC (.str "s")) aNil)))) (gSubD (fV 1) (fC (.str "q"))))
  (sSeq (sAsg (fTup (aCons (fC (.str "record")) (aCons (fTup aNil) (aCons (fC (.str "u")) aNil)))) (gSubD (fV 1) (fC (.str "r"))))
  (sSeq (sAsg (fTup (aCons (fC (.str "record")) (aCons (fTup aNil) (aCons (fC (.str "q")) aNil)))) (gSubD (fV 1) (fC (.str "s"))))
  (sRet (fCallN 2 (F 4) (aCons (fV 0) (aCons (fV 1) aNil))))))))
def q_law_0 (F I : Nat → Fn) : FS :=
  (sSet 1 (fLst (aCons (fCallN 3 (F 11) (aCons (fV 0) (aCons (fC (.int 0)) (aCons (fC (.int 50)) aNil)))) (aCons (fC (.int 0)) aNil))))
def q_law_1 (F I : Nat → Fn) : FS :=
  (sSet 3 (fCallN 2 (F 13) (aCons (fV 1) (aCons (fC (.int 2)) aNil))))
def q_law_2 (F I : Nat → Fn) : FS :=
  (sSet 4 (fCallN 2 (F 15) (aCons (fV 1) (aCons (fC (.int 1)) aNil))))
def q_law_3 (F I : Nat → Fn) : FS :=
  (sSet 5 (fCallN 2 (F 15) (aCons (fV 1) (aCons (fC (.int 1)) aNil))))
def q_law_4 (F I : Nat → Fn) : FS :=
  (sSet 6 (fB oDictOf (aCons (fV 5) aNil)))
def q_law_5 (F I : Nat → Fn) : FS :=
  (sAsg (fCallN 2 (F 4) (aCons (fOp opIx (fV 4) (fV 7)) (aCons (fV 5) aNil))) (gSubD (fV 6) (fV 7)))
def q_law_6 (F I : Nat → Fn) : FS :=
  (sForV (fV 4) (gN 7)
  (q_law_5 F I))
def q_law_7 (F I : Nat → Fn) : FS :=
  (sRet (fC (.bl false)))
def q_law_8 (F I : Nat → Fn) : FS :=
  (sIf (bOf (fOp opNe (fCallN 1 (F 0) (aCons (fCallN 2 (F 4) (aCons (fCallN 2 (F 4) (aCons (fV 3) (aCons (fV 4) aNil))) (aCons (fV 5) aNil))) aNil)) (fCallN 1 (F 0) (aCons (fCallN 2 (F 4) (aCons (fV 3) (aCons (fV 6) aNil))) aNil))))
  (q_law_7 F I)
  sNil)
def q_law_9 (F I : Nat → Fn) : FS :=
  (sRet (fC (.bl false)))
def q_law_10 (F I : Nat → Fn) : FS :=
  (sIf (bOr (bOf (fOp opNe (fCallN 1 (F 0) (aCons (fCallN 2 (F 4) (aCons (fCallN 1 (F 0) (aCons (fV 3) aNil)) (aCons (fV 4) aNil))) aNil)) (fCallN 1 (F 0) (aCons (fCallN 2 (F 4) (aCons (fV 3) (aCons (fV 4) aNil))) aNil)))) (bOf (fOp opNe (fCallN 2 (F 4) (aCons (fV 3) (aCons fDnewK aNil))) (fV 3))))
  (q_law_9 F I)
  sNil)
def q_law_11 (F I : Nat → Fn) : FS :=
  (sRet (fC (.bl false)))
def q_law_12 (F I : Nat → Fn) : FS :=
  (sIf (bOf (fOp opNe (fCallN 1 (F 0) (aCons (fCallN 1 (F 0) (aCons (fV 3) aNil)) aNil)) (fCallN 1 (F 0) (aCons (fV 3) aNil))))
  (q_law_11 F I)
  sNil)
def q_law_13 (F I : Nat → Fn) : FS :=
  (sSet 8 (fTup (aCons (fV 3) (aCons (fCallN 2 (F 4) (aCons (fV 3) (aCons (fV 4) aNil))) aNil))))
def q_law_14 (F I : Nat → Fn) : FS :=
  (sRet (fC (.bl false)))
def q_law_15 (F I : Nat → Fn) : FS :=
  (sIf (bOr (bOf (fOp opNe (fCallN 1 (F 9) (aCons (fCallN 1 (F 9) (aCons (fV 8) aNil)) aNil)) (fCallN 1 (F 9) (aCons (fV 8) aNil)))) (bOf (fOp opNe (fCallN 1 (F 9) (aCons (fTupOf (fLcG finLv (iV (fV 8)) (gN 11) [11] bYes (fCallN 1 (F 16) (aCons (fV 11) aNil)))) aNil)) (fCallN 1 (F 9) (aCons (fV 8) aNil)))))
  (q_law_14 F I)
  sNil)
def q_law_16 (F I : Nat → Fn) : FS :=
  (sSet 9 (fCallN 1 (F 3) (aCons (fV 3) aNil)))
def q_law_17 (F I : Nat → Fn) : FS :=
  (sSet 10 (fCallN 1 (F 3) (aCons (fCallN 1 (F 0) (aCons (fV 3) aNil)) aNil)))
def q_law_18 (F I : Nat → Fn) : FS :=
  (sRet (fC (.bl false)))
def q_law_19 (F I : Nat → Fn) : FS :=
  (sIf (bOr (bOf (fOp opNe (fCallN 1 (F 1) (aCons (fCallN 1 (F 0) (aCons (fV 3) aNil)) aNil)) (fCallN 1 (F 1) (aCons (fV 3) aNil)))) (bOr (bOf (fOp opNe (fB oSortS (aCons (fOp opIx (fV 10) (fC (.int 0))) aNil)) (fB oSortS (aCons (fOp opIx (fV 9) (fC (.int 0))) aNil)))) (bOf (fOp opNe (fB oSortS (aCons (fOp opIx (fV 10) (fC (.int 1))) aNil)) (fB oSortS (aCons (fOp opIx (fV 9) (fC (.int 1))) aNil))))))
  (q_law_18 F I)
  sNil)
def q_law_20 (F I : Nat → Fn) : FS :=
  (sFor (iRng1D (fC (.int 6))) (gN 2)
  (sSeq (q_law_1 F I)
  (sSeq (q_law_2 F I)
  (sSeq (q_law_3 F I)
  (sSeq (q_law_4 F I)
  (sSeq (q_law_6 F I)
  (sSeq (q_law_8 F I)
  (sSeq (q_law_10 F I)
  (sSeq (q_law_12 F I)
  (sSeq (q_law_13 F I)
  (sSeq (q_law_15 F I)
  (sSeq (q_law_16 F I)
  (sSeq (q_law_17 F I)
  (q_law_19 F I))))))))))))))
def q_law_21 (F I : Nat → Fn) : FS :=
  (sRet (fC (.bl true)))
def u_law (F I : Nat → Fn) : FS :=
  (sSeq (q_law_0 F I)
  (sSeq (q_law_20 F I)
  (q_law_21 F I)))
def table (F I : Nat → Fn) : Nat → Fn
  | 0 => runB (u_normal F I) 4
  | 1 => runB (u_symbols F I) 4
  | 2 => runB (u_gather F I) 5
  | 3 => runB (u_variables F I) 3
  | 4 => runB (u_substitute F I) 8
  | 5 => runB (u_name_of F I) 2
  | 6 => runB (u_Renaming____init__ F I) 1
  | 7 => runB (u_Renaming__new_name F I) 2
  | 8 => runB (u_Renaming__renamed F I) 6
  | 9 => runB (u_told F I) 3
  | 10 => runB (u__law_cell F I) 2
  | 11 => runB (u__law_digits F I) 8
  | 12 => runB (u__law_draw F I) 3
  | 13 => runB (u__law_type F I) 3
  | 14 => runB (u__law_record F I) 4
  | 15 => runB (u__law_drawn_images F I) 4
  | 16 => runB (u__law_other_names F I) 2
  | 17 => runB (u_law F I) 12
  | _ => fun _ _ => .bad
/-- the inits: they call nothing of their own -/
def ini : Nat → Fn := table (fun _ _ _ => .bad) (fun _ _ _ => .bad)
def den : Nat → Nat → Fn
  | 0 => fun _ _ _ => .bad
  | k + 1 => table (den k) ini
structure Gl0 (K : PySem.W.Frag) (w : World) (mg : Str → Option Value) (cf : CF) : Prop where
  f_dict : mg "dict" = none
  f_int : mg "int" = none
  f_len : mg "len" = none
  f_range : mg "range" = none
  f_sorted : mg "sorted" = none
  f_sum : mg "sum" = none
  f_tuple : mg "tuple" = none
  k_LETTERS : ConstD K mg cf "LETTERS" (.str "abcdefghijklmnopqrstuvwxyz")
  a_Renaming__names : AttrOk K cf "Renaming" "names"
structure Fns (K : PySem.W.Frag) (mg : Str → Option Value) (cf : CF) : Prop where
  d_normal : DefOk K mg "normal" (top 2)
  d_symbols : DefOk K mg "symbols" (top 3)
  d_gather : DefOk K mg "gather" (top 4)
  d_variables : DefOk K mg "variables" (top 5)
  d_substitute : DefOk K mg "substitute" (top 6)
  d_name_of : DefOk K mg "name_of" (top 7)
  d_Renaming____init__ : IniOk K mg cf "Renaming" "Renaming.__init__" (inClass (top 8) 0)
  d_Renaming__new_name : MthOk K cf "Renaming" "new_name" "Renaming.new_name" (inClass (top 8) 1)
  d_Renaming__renamed : MthOk K cf "Renaming" "renamed" "Renaming.renamed" (inClass (top 8) 2)
  d_told : DefOk K mg "told" (top 9)
  d__law_cell : DefOk K mg "_law_cell" (top 11)
  d__law_digits : DefOk K mg "_law_digits" (top 12)
  d__law_draw : DefOk K mg "_law_draw" (top 13)
  d__law_type : DefOk K mg "_law_type" (top 14)
  d__law_record : DefOk K mg "_law_record" (top 15)
  d__law_drawn_images : DefOk K mg "_law_drawn_images" (top 16)
  d__law_other_names : DefOk K mg "_law_other_names" (top 17)
  d_law : DefOk K mg "law" (top 18)
/-- the defs that make a lambda: their tables of code objects -/
def tf : List He.Defn := [("normal", none)]
structure Tbs (K : PySem.W.Frag) (mg : Str → Option Value) (base : Heap) (cf : CF) : Prop where
  t_normal : TabB base mg (He.cT K ("normal", none)).1 (He.cT K ("normal", none)).2
  eq_ : cf.tb = ([((He.cT K ("normal", none)).2, "normal.<locals>.<lambda>")] : List (Addr × Str))
structure Calls (P : Program) (w : World) (K : PySem.W.Frag) (mg : Str → Option Value) (base : Heap) (cf : CF) (k : Nat) (F I : Nat → Fn) : Prop where
  c_normal : CalG P w K mg base cf k "normal" 1 (F 0)
  c_symbols : CalG P w K mg base cf k "symbols" 1 (F 1)
  c_gather : CalG P w K mg base cf k "gather" 3 (F 2)
  c_variables : CalG P w K mg base cf k "variables" 1 (F 3)
  c_substitute : CalG P w K mg base cf k "substitute" 2 (F 4)
  c_name_of : CalG P w K mg base cf k "name_of" 1 (F 5)
  c_Renaming__new_name : MetG P w K mg base cf k "Renaming" "new_name" 2 (F 7)
  c_Renaming__renamed : MetG P w K mg base cf k "Renaming" "renamed" 2 (F 8)
  c_told : CalG P w K mg base cf k "told" 1 (F 9)
  c__law_cell : CalG P w K mg base cf k "_law_cell" 2 (F 10)
  c__law_digits : CalG P w K mg base cf k "_law_digits" 3 (F 11)
  c__law_draw : CalG P w K mg base cf k "_law_draw" 2 (F 12)
  c__law_type : CalG P w K mg base cf k "_law_type" 2 (F 13)
  c__law_record : CalG P w K mg base cf k "_law_record" 2 (F 14)
  c__law_drawn_images : CalG P w K mg base cf k "_law_drawn_images" 2 (F 15)
  c__law_other_names : CalG P w K mg base cf k "_law_other_names" 1 (F 16)
  c_law : CalG P w K mg base cf k "law" 1 (F 17)
  m_Renaming : MakG P w K mg base cf 1 "Renaming" 1 (I 6)
theorem S_normal : FnScope ["given", "fields", "label", "inner"] ["given"] (defScope (top 2)) := ⟨rfl, rfl, rfl, by decide +kernel, rfl, by decide +kernel, by decide +kernel⟩
theorem S_symbols : FnScope ["given", "many", "_", "inner"] ["given"] (defScope (top 3)) := ⟨rfl, rfl, rfl, by decide +kernel, rfl, by decide +kernel, by decide +kernel⟩
theorem S_gather : FnScope ["given", "type_variables", "row_variables", "_", "inner"] ["given", "type_variables", "row_variables"] (defScope (top 4)) := ⟨rfl, rfl, rfl, by decide +kernel, rfl, by decide +kernel, by decide +kernel⟩
theorem S_variables : FnScope ["given", "type_variables", "row_variables"] ["given"] (defScope (top 5)) := ⟨rfl, rfl, rfl, by decide +kernel, rfl, by decide +kernel, by decide +kernel⟩
theorem S_substitute : FnScope ["given", "images", "fields", "_", "more", "end", "label", "inner"] ["given", "images"] (defScope (top 6)) := ⟨rfl, rfl, rfl, by decide +kernel, rfl, by decide +kernel, by decide +kernel⟩
theorem S_name_of : FnScope ["number", "name"] ["number"] (defScope (top 7)) := ⟨rfl, rfl, rfl, by decide +kernel, rfl, by decide +kernel, by decide +kernel⟩
theorem S_Renaming____init__ : FnScope ["self"] ["self"] (defScope (inClass (top 8) 0)) := ⟨rfl, rfl, rfl, by decide +kernel, rfl, by decide +kernel, by decide +kernel⟩
theorem S_Renaming__new_name : FnScope ["self", "old"] ["self", "old"] (defScope (inClass (top 8) 1)) := ⟨rfl, rfl, rfl, by decide +kernel, rfl, by decide +kernel, by decide +kernel⟩
theorem S_Renaming__renamed : FnScope ["self", "given", "first", "fields", "label", "inner"] ["self", "given"] (defScope (inClass (top 8) 2)) := ⟨rfl, rfl, rfl, by decide +kernel, rfl, by decide +kernel, by decide +kernel⟩
theorem S_told : FnScope ["types", "renaming", "given"] ["types"] (defScope (top 9)) := ⟨rfl, rfl, rfl, by decide +kernel, rfl, by decide +kernel, by decide +kernel⟩
theorem S__law_cell : FnScope ["_law_script", "_law_k"] ["_law_script", "_law_k"] (defScope (top 11)) := ⟨rfl, rfl, rfl, by decide +kernel, rfl, by decide +kernel, by decide +kernel⟩
theorem S__law_digits : FnScope ["_law_script", "_law_first", "_law_last", "_law_digits_here", "_law_k", "_law_cell_here", "_law_turn", "_law_seed"] ["_law_script", "_law_first", "_law_last"] (defScope (top 12)) := ⟨rfl, rfl, rfl, by decide +kernel, rfl, by decide +kernel, by decide +kernel⟩
theorem S__law_draw : FnScope ["_law_box", "_law_many", "_law_at"] ["_law_box", "_law_many"] (defScope (top 13)) := ⟨rfl, rfl, rfl, by decide +kernel, rfl, by decide +kernel, by decide +kernel⟩
theorem S__law_type : FnScope ["_law_box", "_law_depth", "_law_kind"] ["_law_box", "_law_depth"] (defScope (top 14)) := ⟨rfl, rfl, rfl, by decide +kernel, rfl, by decide +kernel, by decide +kernel⟩
theorem S__law_record : FnScope ["_law_box", "_law_depth", "_law_fields", "_law_k"] ["_law_box", "_law_depth"] (defScope (top 15)) := ⟨rfl, rfl, rfl, by decide +kernel, rfl, by decide +kernel, by decide +kernel⟩
theorem S__law_drawn_images : FnScope ["_law_box", "_law_depth", "_law_table", "_law_name"] ["_law_box", "_law_depth"] (defScope (top 16)) := ⟨rfl, rfl, rfl, by decide +kernel, rfl, by decide +kernel, by decide +kernel⟩
theorem S__law_other_names : FnScope ["_law_given", "_law_images"] ["_law_given"] (defScope (top 17)) := ⟨rfl, rfl, rfl, by decide +kernel, rfl, by decide +kernel, by decide +kernel⟩
theorem S_law : FnScope ["_law_script", "_law_box", "_law_turn", "_law_given", "_law_first", "_law_second", "_law_composed", "_law_name", "_law_row", "_law_names", "_law_same", "_law_kind"] ["_law_script"] (defScope (top 18)) := ⟨rfl, rfl, rfl, by decide +kernel, rfl, by decide +kernel, by decide +kernel⟩
section
variable {P : Program} {w : World} {K : PySem.W.Frag} {mg : Str → Option Value} {base : Heap} {cf : CF} {F I : Nat → Fn} {k : Nat} {f : Addr} {fd : FuncData}
theorem b_normal (g : Gl0 K w mg cf) (c : Calls P w K mg base cf k F I) (t : Tbs K mg base cf) (hf : f = He.fAd K ("normal", none)) (D : FunD K "normal" "normal" (defArgs (top 2)) (defBody (top 2)) (defScope (top 2)) [] [] f fd) : FnG P w K mg base (k + 1) f fd ["given"] (spD K cf 1 (runB (u_normal F I) 4)) :=
  fnG_of D S_normal fun cdv cdi A outer s H E rv z po =>
  (jss_cons (js_if (jb_eq z.deep (je_ix z.deep (je_var 0) je_int) je_str)
  (jss_one (js_ret (je_tup (ja_cons je_str (ja_cons (je_call c.c_normal z.hr (Nat.le_refl _) z.hg z.tk rfl (ja_cons (je_ix z.deep (je_var 0) je_int) ja_nil)) (ja_cons (je_call c.c_normal z.hr (Nat.le_refl _) z.hg z.tk rfl (ja_cons (je_ix z.deep (je_var 0) je_int) ja_nil)) ja_nil))))))
  jss_nil)
  (jss_cons (js_if (jb_eq z.deep (je_ix z.deep (je_var 0) je_int) je_str)
  (jss_cons (js_setLc 1 (own := [("label", 2), ("inner", 3)]) finLv_ok z.hc S_normal.nd (ji_val (je_ix z.deep (je_var 0) je_int)) (blkOk_by (by kernel_rfl)) (fun _ _ _ _ _ => (jgw_tup (Cz.blk z).hc (jgws_cons (jgw_name 2 (by decide) S_normal.nd) (jgws_cons (jgw_name 3 (by decide) S_normal.nd) jgws_nil)))) jts_nil (fun _ _ _ _ _ _ => (je_tup (ja_cons (je_var 2) (ja_cons (je_call c.c_normal (Cz.blk z).hr (Nat.le_refl _) (Cz.blk z).hg (Cz.blk z).tk rfl (ja_cons (je_var 3) ja_nil)) ja_nil)))))
  (jss_one (js_ret (je_tup (ja_cons je_str (ja_cons (je_tupleOf rfl g.f_tuple (je_sortK z.hr (lamT_of hf cdi t.t_normal t.eq_ rfl) ⟨rfl, rfl, rfl, rfl⟩ rfl g.f_sorted (je_var 1) rfl (fun _ _ _ _ _ => rfl))) (ja_cons (je_ix z.deep (je_var 0) je_int) ja_nil)))))))
  jss_nil)
  (jss_one (js_ret (je_var 0)))))
theorem b_symbols (g : Gl0 K w mg cf) (c : Calls P w K mg base cf k F I) (t : Tbs K mg base cf) (hf : f = He.fAd K ("symbols", none)) (D : FunD K "symbols" "symbols" (defArgs (top 3)) (defBody (top 3)) (defScope (top 3)) [] [] f fd) : FnG P w K mg base (k + 1) f fd ["given"] (spD K cf 1 (runB (u_symbols F I) 4)) :=
  fnG_of D S_symbols fun cdv cdi A outer s H E rv z po =>
  (jss_cons (js_if (jb_eq z.deep (je_ix z.deep (je_var 0) je_int) je_str)
  (jss_one (js_ret (je_addA (je_addA je_int (je_call c.c_symbols z.hr (Nat.le_refl _) z.hg z.tk rfl (ja_cons (je_ix z.deep (je_var 0) je_int) ja_nil))) (je_call c.c_symbols z.hr (Nat.le_refl _) z.hg z.tk rfl (ja_cons (je_ix z.deep (je_var 0) je_int) ja_nil)))))
  jss_nil)
  (jss_cons (js_if (jb_eq z.deep (je_ix z.deep (je_var 0) je_int) je_str)
  (jss_cons (js_set 1 S_symbols.nd (je_if (jb_is (je_ix z.deep (je_var 0) je_int) je_non) je_int je_int))
  (jss_one (js_ret (je_addA (je_var 1) (je_callB (cr_sumD z.hc) oSum_nox rfl g.f_sum boot_sum (ja_cons (je_lc (own := [("_", 2), ("inner", 3)]) finLv_ok z.hc S_symbols.nd (ji_val (je_ix z.deep (je_var 0) je_int)) (blkOk_by (by kernel_rfl)) (fun _ _ _ _ _ => (jgw_tup (Cz.blk z).hc (jgws_cons (jgw_name 2 (by decide) S_symbols.nd) (jgws_cons (jgw_name 3 (by decide) S_symbols.nd) jgws_nil)))) jts_nil (fun _ _ _ _ _ _ => (je_addA je_int (je_call c.c_symbols (Cz.blk z).hr (Nat.le_refl _) (Cz.blk z).hg (Cz.blk z).tk rfl (ja_cons (je_var 3) ja_nil))))) ja_nil))))))
  jss_nil)
  (jss_one (js_ret je_int))))
theorem b_gather (g : Gl0 K w mg cf) (c : Calls P w K mg base cf k F I) (t : Tbs K mg base cf) (hf : f = He.fAd K ("gather", none)) (D : FunD K "gather" "gather" (defArgs (top 4)) (defBody (top 4)) (defScope (top 4)) [] [] f fd) : FnG P w K mg base (k + 1) f fd ["given", "type_variables", "row_variables"] (spD K cf 3 (runB (u_gather F I) 5)) :=
  fnG_of D S_gather fun cdv cdi A outer s H E rv z po =>
  (jss_cons (js_if (JW.jb (jw_and (jb_eq z.deep (je_ix z.deep (je_var 0) je_int) je_str) (jw_one (jb_notin z.deep (je_ix z.deep (je_var 0) je_int) (je_var 1)))))
  (jss_one (js_expr (je_append (je_var 1) (je_ix z.deep (je_var 0) je_int))))
  jss_nil)
  (jss_cons (js_if (jb_eq z.deep (je_ix z.deep (je_var 0) je_int) je_str)
  (jss_cons (js_expr (je_call c.c_gather z.hr (Nat.le_refl _) z.hg z.tk rfl (ja_cons (je_ix z.deep (je_var 0) je_int) (ja_cons (je_var 1) (ja_cons (je_var 2) ja_nil)))))
  (jss_one (js_expr (je_call c.c_gather z.hr (Nat.le_refl _) z.hg z.tk rfl (ja_cons (je_ix z.deep (je_var 0) je_int) (ja_cons (je_var 1) (ja_cons (je_var 2) ja_nil)))))))
  jss_nil)
  (jss_one (js_if (jb_eq z.deep (je_ix z.deep (je_var 0) je_int) je_str)
  (jss_cons (js_forV po z.hc (je_ix z.deep (je_var 0) je_int) (jg_tup z.hc (jgs_cons (jg_name 3 S_gather.nd) (jgs_cons (jg_name 4 S_gather.nd) jgs_nil)))
  (jss_one (js_expr (je_call c.c_gather z.hr (Nat.le_refl _) z.hg z.tk rfl (ja_cons (je_var 4) (ja_cons (je_var 1) (ja_cons (je_var 2) ja_nil)))))))
  (jss_one (js_if (JW.jb (jw_and (jb_isnot (je_ix z.deep (je_var 0) je_int) je_non) (jw_one (jb_notin z.deep (je_ix z.deep (je_var 0) je_int) (je_var 2)))))
  (jss_one (js_expr (je_append (je_var 2) (je_ix z.deep (je_var 0) je_int))))
  jss_nil)))
  jss_nil))))
theorem b_variables (g : Gl0 K w mg cf) (c : Calls P w K mg base cf k F I) (t : Tbs K mg base cf) (hf : f = He.fAd K ("variables", none)) (D : FunD K "variables" "variables" (defArgs (top 5)) (defBody (top 5)) (defScope (top 5)) [] [] f fd) : FnG P w K mg base (k + 1) f fd ["given"] (spD K cf 1 (runB (u_variables F I) 3)) :=
  fnG_of D S_variables fun cdv cdi A outer s H E rv z po =>
  (jss_cons (js_set 1 S_variables.nd (je_lst ja_nil))
  (jss_cons (js_set 2 S_variables.nd (je_lst ja_nil))
  (jss_cons (js_expr (je_call c.c_gather z.hr (Nat.le_refl _) z.hg z.tk rfl (ja_cons (je_var 0) (ja_cons (je_var 1) (ja_cons (je_var 2) ja_nil)))))
  (jss_one (js_ret (je_tup (ja_cons (je_var 1) (ja_cons (je_var 2) ja_nil))))))))
theorem b_substitute (g : Gl0 K w mg cf) (c : Calls P w K mg base cf k F I) (t : Tbs K mg base cf) (hf : f = He.fAd K ("substitute", none)) (D : FunD K "substitute" "substitute" (defArgs (top 6)) (defBody (top 6)) (defScope (top 6)) [] [] f fd) : FnG P w K mg base (k + 1) f fd ["given", "images"] (spD K cf 2 (runB (u_substitute F I) 8)) :=
  fnG_of D S_substitute fun cdv cdi A outer s H E rv z po =>
  (jss_cons (js_if (jb_eq z.deep (je_ix z.deep (je_var 0) je_int) je_str)
  (jss_one (js_ret (je_dget2 z.deep (je_var 1) (je_ix z.deep (je_var 0) je_int) (je_var 0))))
  jss_nil)
  (jss_cons (js_if (jb_eq z.deep (je_ix z.deep (je_var 0) je_int) je_str)
  (jss_one (js_ret (je_tup (ja_cons je_str (ja_cons (je_call c.c_substitute z.hr (Nat.le_refl _) z.hg z.tk rfl (ja_cons (je_ix z.deep (je_var 0) je_int) (ja_cons (je_var 1) ja_nil))) (ja_cons (je_call c.c_substitute z.hr (Nat.le_refl _) z.hg z.tk rfl (ja_cons (je_ix z.deep (je_var 0) je_int) (ja_cons (je_var 1) ja_nil))) ja_nil))))))
  jss_nil)
  (jss_cons (js_if (jb_eq z.deep (je_ix z.deep (je_var 0) je_int) je_str)
  (jss_cons (js_set 2 S_substitute.nd (je_tupleOf rfl g.f_tuple (je_lc (own := [("label", 6), ("inner", 7)]) finLv_ok z.hc S_substitute.nd (ji_val (je_ix z.deep (je_var 0) je_int)) (blkOk_by (by kernel_rfl)) (fun _ _ _ _ _ => (jgw_tup (Cz.blk z).hc (jgws_cons (jgw_name 6 (by decide) S_substitute.nd) (jgws_cons (jgw_name 7 (by decide) S_substitute.nd) jgws_nil)))) jts_nil (fun _ _ _ _ _ _ => (je_tup (ja_cons (je_var 6) (ja_cons (je_call c.c_substitute (Cz.blk z).hr (Nat.le_refl _) (Cz.blk z).hg (Cz.blk z).tk rfl (ja_cons (je_var 7) (ja_cons (je_var 1) ja_nil))) ja_nil)))))))
  (jss_cons (js_if (jb_notinN z.deep (je_ix z.deep (je_var 0) je_int) (je_var 1))
  (jss_one (js_ret (je_tup (ja_cons je_str (ja_cons (je_var 2) (ja_cons (je_ix z.deep (je_var 0) je_int) ja_nil))))))
  jss_nil)
  (jss_cons (js_asg (je_ix z.deep (je_var 1) (je_ix z.deep (je_var 0) je_int)) (jg_tup z.hc (jgs_cons (jg_name 3 S_substitute.nd) (jgs_cons (jg_name 4 S_substitute.nd) (jgs_cons (jg_name 5 S_substitute.nd) jgs_nil)))))
  (jss_one (js_ret (je_tup (ja_cons je_str (ja_cons (je_addA (je_var 2) (je_var 4)) (ja_cons (je_var 5) ja_nil)))))))))
  jss_nil)
  (jss_one (js_ret (je_var 0))))))
theorem b_name_of (g : Gl0 K w mg cf) (c : Calls P w K mg base cf k F I) (t : Tbs K mg base cf) (hf : f = He.fAd K ("name_of", none)) (D : FunD K "name_of" "name_of" (defArgs (top 7)) (defBody (top 7)) (defScope (top 7)) [] [] f fd) : FnG P w K mg base (k + 1) f fd ["number"] (spD K cf 1 (runB (u_name_of F I) 2)) :=
  fnG_of D S_name_of fun cdv cdi A outer s H E rv z po =>
  (jss_cons (js_set 1 S_name_of.nd je_str)
  (jss_cons (js_aug 0 ip_add S_name_of.nd je_int)
  (jss_cons (js_while forMost po (jb_gt (je_var 0) je_int)
  (jss_cons (js_aug 0 ip_sub S_name_of.nd je_int)
  (jss_cons (js_set 1 S_name_of.nd (je_addA (je_ix z.deep (je_gconst (d := (.str "abcdefghijklmnopqrstuvwxyz")) g.k_LETTERS rfl) (je_mod (je_var 0) je_int)) (je_var 1)))
  (jss_one (js_set 0 S_name_of.nd (je_div (je_var 0) je_int))))))
  (jss_one (js_ret (je_var 1))))))
theorem b_Renaming____init__ (g : Gl0 K w mg cf) (c : Calls P w K mg base cf k F I) (t : Tbs K mg base cf) (D : FunD K "__init__" "Renaming.__init__" (defArgs (inClass (top 8) 0)) (defBody (inClass (top 8) 0)) (defScope (inClass (top 8) 0)) [] [] f fd) : FnG P w K mg base (k + 1) f fd ["self"] (spD K cf 1 (runB (u_Renaming____init__ F I) 1)) :=
  fnG_of D S_Renaming____init__ fun cdv cdi A outer s H E rv z po =>
  (jss_one (js_fld g.a_Renaming__names (je_var 0) je_dnewK))
theorem b_Renaming__new_name (g : Gl0 K w mg cf) (c : Calls P w K mg base cf k F I) (t : Tbs K mg base cf) (D : FunD K "new_name" "Renaming.new_name" (defArgs (inClass (top 8) 1)) (defBody (inClass (top 8) 1)) (defScope (inClass (top 8) 1)) [] [] f fd) : FnG P w K mg base (k + 1) f fd ["self", "old"] (spD K cf 2 (runB (u_Renaming__new_name F I) 2)) :=
  fnG_of D S_Renaming__new_name fun cdv cdi A outer s H E rv z po =>
  (jss_cons (js_if (jb_notin z.deep (je_var 1) (je_fld g.a_Renaming__names (je_var 0)))
  (jss_one (js_asg (je_call c.c_name_of z.hr (Nat.le_refl _) z.hg z.tk rfl (ja_cons (je_callB cr_len oLen_nox rfl g.f_len boot_len (ja_cons (je_fld g.a_Renaming__names (je_var 0)) ja_nil)) ja_nil)) (jg_sub (Nat.lt_of_le_of_lt (by omega) z.deep) (je_fld g.a_Renaming__names (je_var 0)) (je_var 1))))
  jss_nil)
  (jss_one (js_ret (je_ix z.deep (je_fld g.a_Renaming__names (je_var 0)) (je_var 1)))))
theorem b_Renaming__renamed (g : Gl0 K w mg cf) (c : Calls P w K mg base cf k F I) (t : Tbs K mg base cf) (D : FunD K "renamed" "Renaming.renamed" (defArgs (inClass (top 8) 2)) (defBody (inClass (top 8) 2)) (defScope (inClass (top 8) 2)) [] [] f fd) : FnG P w K mg base (k + 1) f fd ["self", "given"] (spD K cf 2 (runB (u_Renaming__renamed F I) 6)) :=
  fnG_of D S_Renaming__renamed fun cdv cdi A outer s H E rv z po =>
  (jss_cons (js_if (jb_eq z.deep (je_ix z.deep (je_var 1) je_int) je_str)
  (jss_one (js_ret (je_tup (ja_cons je_str (ja_cons (je_meth (pl := _) c.c_Renaming__new_name z.hr (Nat.le_refl _) z.hg z.tk (je_var 0) (ja_cons (je_ix z.deep (je_var 1) je_int) ja_nil)) ja_nil)))))
  jss_nil)
  (jss_cons (js_if (jb_eq z.deep (je_ix z.deep (je_var 1) je_int) je_str)
  (jss_cons (js_set 2 S_Renaming__renamed.nd (je_meth (pl := _) c.c_Renaming__renamed z.hr (Nat.le_refl _) z.hg z.tk (je_var 0) (ja_cons (je_ix z.deep (je_var 1) je_int) ja_nil)))
  (jss_one (js_ret (je_tup (ja_cons je_str (ja_cons (je_var 2) (ja_cons (je_meth (pl := _) c.c_Renaming__renamed z.hr (Nat.le_refl _) z.hg z.tk (je_var 0) (ja_cons (je_ix z.deep (je_var 1) je_int) ja_nil)) ja_nil)))))))
  jss_nil)
  (jss_cons (js_if (jb_eq z.deep (je_ix z.deep (je_var 1) je_int) je_str)
  (jss_cons (js_set 3 S_Renaming__renamed.nd (je_tupleOf rfl g.f_tuple (je_lc (own := [("label", 4), ("inner", 5)]) finLv_ok z.hc S_Renaming__renamed.nd (ji_val (je_ix z.deep (je_var 1) je_int)) (blkOk_by (by kernel_rfl)) (fun _ _ _ _ _ => (jgw_tup (Cz.blk z).hc (jgws_cons (jgw_name 4 (by decide) S_Renaming__renamed.nd) (jgws_cons (jgw_name 5 (by decide) S_Renaming__renamed.nd) jgws_nil)))) jts_nil (fun _ _ _ _ _ _ => (je_tup (ja_cons (je_var 4) (ja_cons (je_meth (pl := _) c.c_Renaming__renamed (Cz.blk z).hr (Nat.le_refl _) (Cz.blk z).hg (Cz.blk z).tk (je_var 0) (ja_cons (je_var 5) ja_nil)) ja_nil)))))))
  (jss_one (js_ret (je_tup (ja_cons je_str (ja_cons (je_var 3) (ja_cons (je_if (jb_is (je_ix z.deep (je_var 1) je_int) je_non) je_non (je_meth (pl := _) c.c_Renaming__new_name z.hr (Nat.le_refl _) z.hg z.tk (je_var 0) (ja_cons (je_ix z.deep (je_var 1) je_int) ja_nil))) ja_nil)))))))
  jss_nil)
  (jss_one (js_ret (je_var 1))))))
theorem b_told (g : Gl0 K w mg cf) (c : Calls P w K mg base cf k F I) (t : Tbs K mg base cf) (hf : f = He.fAd K ("told", none)) (hk : 2 ≤ k) (D : FunD K "told" "told" (defArgs (top 9)) (defBody (top 9)) (defScope (top 9)) [] [] f fd) : FnG P w K mg base (k + 1) f fd ["types"] (spD K cf 1 (runB (u_told F I) 3)) :=
  fnG_of D S_told fun cdv cdi A outer s H E rv z po =>
  (jss_cons (js_set 1 S_told.nd (je_make0 c.m_Renaming z.hr hk z.hg z.tk rfl))
  (jss_one (js_ret (je_tupleOf rfl g.f_tuple (je_lc (own := [("given", 2)]) finLv_ok z.hc S_told.nd (ji_val (je_var 0)) (blkOk_by (by kernel_rfl)) (fun _ _ _ _ _ => (jgw_name 2 (by decide) S_told.nd)) jts_nil (fun _ _ _ _ _ _ => (je_meth (pl := _) c.c_Renaming__renamed (Cz.blk z).hr (Nat.le_refl _) (Cz.blk z).hg (Cz.blk z).tk (je_var 1) (ja_cons (je_call c.c_normal (Cz.blk z).hr (Nat.le_refl _) (Cz.blk z).hg (Cz.blk z).tk rfl (ja_cons (je_var 2) ja_nil)) ja_nil))))))))
theorem b__law_cell (g : Gl0 K w mg cf) (c : Calls P w K mg base cf k F I) (t : Tbs K mg base cf) (hf : f = He.fAd K ("_law_cell", none)) (D : FunD K "_law_cell" "_law_cell" (defArgs (top 11)) (defBody (top 11)) (defScope (top 11)) [] [] f fd) : FnG P w K mg base (k + 1) f fd ["_law_script", "_law_k"] (spD K cf 2 (runB (u__law_cell F I) 2)) :=
  fnG_of D S__law_cell fun cdv cdi A outer s H E rv z po =>
  (jss_cons (js_if (jb_lt (je_var 1) (je_callB cr_len oLen_nox rfl g.f_len boot_len (ja_cons (je_var 0) ja_nil)))
  (jss_one (js_ret (je_ix z.deep (je_var 0) (je_var 1))))
  jss_nil)
  (jss_one (js_ret je_int)))
theorem b__law_digits (g : Gl0 K w mg cf) (c : Calls P w K mg base cf k F I) (t : Tbs K mg base cf) (hf : f = He.fAd K ("_law_digits", none)) (D : FunD K "_law_digits" "_law_digits" (defArgs (top 12)) (defBody (top 12)) (defScope (top 12)) [] [] f fd) : FnG P w K mg base (k + 1) f fd ["_law_script", "_law_first", "_law_last"] (spD K cf 3 (runB (u__law_digits F I) 8)) :=
  fnG_of D S__law_digits fun cdv cdi A outer s H E rv z po =>
  (jss_cons (js_set 3 S__law_digits.nd (je_lst ja_nil))
  (jss_cons (js_for po z.hc (ji_range2 rfl g.f_range (je_var 1) (je_var 2)) (jg_name 4 S__law_digits.nd)
  (jss_cons (js_set 5 S__law_digits.nd (je_call c.c__law_cell z.hr (Nat.le_refl _) z.hg z.tk rfl (ja_cons (je_var 0) (ja_cons (je_var 4) ja_nil))))
  (jss_cons (js_if (jb_lt (je_var 5) je_int)
  (jss_one (js_set 5 S__law_digits.nd (je_sub je_int (je_mul je_int (je_var 5)))))
  jss_nil)
  (jss_one (js_if (jb_ge (je_var 5) (je_pow je_int je_int))
  (jss_one (js_for po z.hc (ji_range1 rfl g.f_range je_int) (jg_name 6 S__law_digits.nd)
  (jss_one (js_if (jb_gt (je_var 5) je_int)
  (jss_cons (js_expr (je_append (je_var 3) (je_mod (je_callTy cr_int oInt_nox rfl g.f_int boot_int (ja_cons (je_var 5) ja_nil)) je_int)))
  (jss_one (js_set 5 S__law_digits.nd (je_div (je_var 5) je_int))))
  jss_nil))))
  (jss_cons (js_set 7 S__law_digits.nd (je_mod (je_callTy cr_int oInt_nox rfl g.f_int boot_int (ja_cons (je_addA (je_addA (je_mul (je_var 5) je_int) (je_mul (je_var 4) je_int)) je_int) ja_nil)) je_int))
  (jss_one (js_for po z.hc (ji_range1 rfl g.f_range je_int) (jg_name 6 S__law_digits.nd)
  (jss_cons (js_set 7 S__law_digits.nd (je_mod (je_callTy cr_int oInt_nox rfl g.f_int boot_int (ja_cons (je_addA (je_addA (je_mul (je_var 7) je_int) (je_mul je_int (je_var 6))) je_int) ja_nil)) je_int))
  (jss_one (js_expr (je_append (je_var 3) (je_mod (je_callTy cr_int oInt_nox rfl g.f_int boot_int (ja_cons (je_div (je_var 7) je_int) ja_nil)) je_int)))))))))))))
  (jss_one (js_ret (je_var 3)))))
theorem b__law_draw (g : Gl0 K w mg cf) (c : Calls P w K mg base cf k F I) (t : Tbs K mg base cf) (hf : f = He.fAd K ("_law_draw", none)) (D : FunD K "_law_draw" "_law_draw" (defArgs (top 13)) (defBody (top 13)) (defScope (top 13)) [] [] f fd) : FnG P w K mg base (k + 1) f fd ["_law_box", "_law_many"] (spD K cf 2 (runB (u__law_draw F I) 3)) :=
  fnG_of D S__law_draw fun cdv cdi A outer s H E rv z po =>
  (jss_cons (js_set 2 S__law_draw.nd (je_ix z.deep (je_var 0) je_int))
  (jss_cons (js_asg (je_addA (je_var 2) je_int) (jg_sub (Nat.lt_of_le_of_lt (by omega) z.deep) (je_var 0) je_int))
  (jss_cons (js_if (jb_lt (je_var 2) (je_callB cr_len oLen_nox rfl g.f_len boot_len (ja_cons (je_ix z.deep (je_var 0) je_int) ja_nil)))
  (jss_one (js_ret (je_mod (je_callTy cr_int oInt_nox rfl g.f_int boot_int (ja_cons (je_ix z.deep (je_ix z.deep (je_var 0) je_int) (je_var 2)) ja_nil)) (je_var 1))))
  jss_nil)
  (jss_one (js_ret (je_mod (je_callTy cr_int oInt_nox rfl g.f_int boot_int (ja_cons (je_addA (je_mul (je_var 2) je_int) je_int) ja_nil)) (je_var 1)))))))
theorem b__law_type (g : Gl0 K w mg cf) (c : Calls P w K mg base cf k F I) (t : Tbs K mg base cf) (hf : f = He.fAd K ("_law_type", none)) (D : FunD K "_law_type" "_law_type" (defArgs (top 14)) (defBody (top 14)) (defScope (top 14)) [] [] f fd) : FnG P w K mg base (k + 1) f fd ["_law_box", "_law_depth"] (spD K cf 2 (runB (u__law_type F I) 3)) :=
  fnG_of D S__law_type fun cdv cdi A outer s H E rv z po =>
  (jss_cons (js_set 2 S__law_type.nd (je_call c.c__law_draw z.hr (Nat.le_refl _) z.hg z.tk rfl (ja_cons (je_var 0) (ja_cons je_int ja_nil))))
  (jss_cons (js_if (JW.jb (jw_or (jb_eq z.deep (je_var 1) je_int) (jw_one (jb_lt (je_var 2) je_int))))
  (jss_one (js_ret (je_ix z.deep (je_lv (ja_cons (je_tup (ja_cons je_str ja_nil)) (ja_cons (je_tup (ja_cons je_str ja_nil)) (ja_cons (je_tup (ja_cons je_str (ja_cons je_str ja_nil))) (ja_cons (je_tup (ja_cons je_str (ja_cons je_str ja_nil))) (ja_cons (je_tup (ja_cons je_str (ja_cons je_str ja_nil))) (ja_cons (je_tup (ja_cons je_str (ja_cons je_str ja_nil))) ja_nil))))))) (je_call c.c__law_draw z.hr (Nat.le_refl _) z.hg z.tk rfl (ja_cons (je_var 0) (ja_cons je_int ja_nil))))))
  jss_nil)
  (jss_cons (js_if (jb_lt (je_var 2) je_int)
  (jss_one (js_ret (je_tup (ja_cons je_str (ja_cons (je_call c.c__law_type z.hr (Nat.le_refl _) z.hg z.tk rfl (ja_cons (je_var 0) (ja_cons (je_sub (je_var 1) je_int) ja_nil))) (ja_cons (je_call c.c__law_type z.hr (Nat.le_refl _) z.hg z.tk rfl (ja_cons (je_var 0) (ja_cons (je_sub (je_var 1) je_int) ja_nil))) ja_nil))))))
  jss_nil)
  (jss_one (js_ret (je_call c.c__law_record z.hr (Nat.le_refl _) z.hg z.tk rfl (ja_cons (je_var 0) (ja_cons (je_var 1) ja_nil))))))))
theorem b__law_record (g : Gl0 K w mg cf) (c : Calls P w K mg base cf k F I) (t : Tbs K mg base cf) (hf : f = He.fAd K ("_law_record", none)) (D : FunD K "_law_record" "_law_record" (defArgs (top 15)) (defBody (top 15)) (defScope (top 15)) [] [] f fd) : FnG P w K mg base (k + 1) f fd ["_law_box", "_law_depth"] (spD K cf 2 (runB (u__law_record F I) 4)) :=
  fnG_of D S__law_record fun cdv cdi A outer s H E rv z po =>
  (jss_cons (js_set 2 S__law_record.nd (je_tupleOf rfl g.f_tuple (je_lc (own := [("_law_k", 3)]) finLv_ok z.hc S__law_record.nd (ji_range1 rfl g.f_range (je_call c.c__law_draw z.hr (Nat.le_refl _) z.hg z.tk rfl (ja_cons (je_var 0) (ja_cons je_int ja_nil)))) (blkOk_by (by kernel_rfl)) (fun _ _ _ _ _ => (jgw_name 3 (by decide) S__law_record.nd)) jts_nil (fun _ _ _ _ _ _ => (je_tup (ja_cons (je_ix (Cz.blk z).deep (je_lv (ja_cons je_str (ja_cons je_str (ja_cons je_str (ja_cons je_str ja_nil))))) (je_call c.c__law_draw (Cz.blk z).hr (Nat.le_refl _) (Cz.blk z).hg (Cz.blk z).tk rfl (ja_cons (je_var 0) (ja_cons je_int ja_nil)))) (ja_cons (je_call c.c__law_type (Cz.blk z).hr (Nat.le_refl _) (Cz.blk z).hg (Cz.blk z).tk rfl (ja_cons (je_var 0) (ja_cons (je_sub (je_var 1) je_int) ja_nil))) ja_nil)))))))
  (jss_one (js_ret (je_tup (ja_cons je_str (ja_cons (je_var 2) (ja_cons (je_ix z.deep (je_lv (ja_cons je_non (ja_cons je_str (ja_cons je_str (ja_cons je_str ja_nil))))) (je_call c.c__law_draw z.hr (Nat.le_refl _) z.hg z.tk rfl (ja_cons (je_var 0) (ja_cons je_int ja_nil)))) ja_nil)))))))
theorem b__law_drawn_images (g : Gl0 K w mg cf) (c : Calls P w K mg base cf k F I) (t : Tbs K mg base cf) (hf : f = He.fAd K ("_law_drawn_images", none)) (D : FunD K "_law_drawn_images" "_law_drawn_images" (defArgs (top 16)) (defBody (top 16)) (defScope (top 16)) [] [] f fd) : FnG P w K mg base (k + 1) f fd ["_law_box", "_law_depth"] (spD K cf 2 (runB (u__law_drawn_images F I) 4)) :=
  fnG_of D S__law_drawn_images fun cdv cdi A outer s H E rv z po =>
  (jss_cons (js_set 2 S__law_drawn_images.nd je_dnewK)
  (jss_cons (js_forV po z.hc (je_lv (ja_cons je_str (ja_cons je_str (ja_cons je_str (ja_cons je_str ja_nil))))) (jg_name 3 S__law_drawn_images.nd)
  (jss_one (js_if (jb_gt (je_call c.c__law_draw z.hr (Nat.le_refl _) z.hg z.tk rfl (ja_cons (je_var 0) (ja_cons je_int ja_nil))) je_int)
  (jss_one (js_asg (je_call c.c__law_type z.hr (Nat.le_refl _) z.hg z.tk rfl (ja_cons (je_var 0) (ja_cons (je_var 1) ja_nil))) (jg_sub (Nat.lt_of_le_of_lt (by omega) z.deep) (je_var 2) (je_var 3))))
  jss_nil)))
  (jss_cons (js_forV po z.hc (je_lv (ja_cons je_str (ja_cons je_str (ja_cons je_str ja_nil)))) (jg_name 3 S__law_drawn_images.nd)
  (jss_one (js_if (jb_gt (je_call c.c__law_draw z.hr (Nat.le_refl _) z.hg z.tk rfl (ja_cons (je_var 0) (ja_cons je_int ja_nil))) je_int)
  (jss_one (js_asg (je_call c.c__law_record z.hr (Nat.le_refl _) z.hg z.tk rfl (ja_cons (je_var 0) (ja_cons (je_var 1) ja_nil))) (jg_sub (Nat.lt_of_le_of_lt (by omega) z.deep) (je_var 2) (je_var 3))))
  jss_nil)))
  (jss_one (js_ret (je_var 2))))))
theorem b__law_other_names (g : Gl0 K w mg cf) (c : Calls P w K mg base cf k F I) (t : Tbs K mg base cf) (hf : f = He.fAd K ("_law_other_names", none)) (D : FunD K "_law_other_names" "_law_other_names" (defArgs (top 17)) (defBody (top 17)) (defScope (top 17)) [] [] f fd) : FnG P w K mg base (k + 1) f fd ["_law_given"] (spD K cf 1 (runB (u__law_other_names F I) 2)) :=
  fnG_of D S__law_other_names fun cdv cdi A outer s H E rv z po =>
  (jss_cons (js_set 1 S__law_other_names.nd (je_disp (jp_cons je_str (je_tup (ja_cons je_str (ja_cons je_str ja_nil))) (jp_cons je_str (je_tup (ja_cons je_str (ja_cons je_str ja_nil))) (jp_cons je_str (je_tup (ja_cons je_str (ja_cons je_str ja_nil))) (jp_cons je_str (je_tup (ja_cons je_str (ja_cons je_str ja_nil))) jp_nil))))))
  (jss_cons (js_asg (je_tup (ja_cons je_str (ja_cons (je_tup ja_nil) (ja_cons je_str ja_nil)))) (jg_sub (Nat.lt_of_le_of_lt (by omega) z.deep) (je_var 1) je_str))
  (jss_cons (js_asg (je_tup (ja_cons je_str (ja_cons (je_tup ja_nil) (ja_cons je_str ja_nil)))) (jg_sub (Nat.lt_of_le_of_lt (by omega) z.deep) (je_var 1) je_str))
  (jss_cons (js_asg (je_tup (ja_cons je_str (ja_cons (je_tup ja_nil) (ja_cons je_str ja_nil)))) (jg_sub (Nat.lt_of_le_of_lt (by omega) z.deep) (je_var 1) je_str))
  (jss_one (js_ret (je_call c.c_substitute z.hr (Nat.le_refl _) z.hg z.tk rfl (ja_cons (je_var 0) (ja_cons (je_var 1) ja_nil)))))))))
theorem b_law (g : Gl0 K w mg cf) (c : Calls P w K mg base cf k F I) (t : Tbs K mg base cf) (hf : f = He.fAd K ("law", none)) (D : FunD K "law" "law" (defArgs (top 18)) (defBody (top 18)) (defScope (top 18)) [] [] f fd) : FnG P w K mg base (k + 1) f fd ["_law_script"] (spD K cf 1 (runB (u_law F I) 12)) :=
  fnG_of D S_law fun cdv cdi A outer s H E rv z po =>
  (jss_cons (js_set 1 S_law.nd (je_lst (ja_cons (je_call c.c__law_digits z.hr (Nat.le_refl _) z.hg z.tk rfl (ja_cons (je_var 0) (ja_cons je_int (ja_cons je_int ja_nil)))) (ja_cons je_int ja_nil))))
  (jss_cons (js_for po z.hc (ji_range1 rfl g.f_range je_int) (jg_name 2 S_law.nd)
  (jss_cons (js_set 3 S_law.nd (je_call c.c__law_type z.hr (Nat.le_refl _) z.hg z.tk rfl (ja_cons (je_var 1) (ja_cons je_int ja_nil))))
  (jss_cons (js_set 4 S_law.nd (je_call c.c__law_drawn_images z.hr (Nat.le_refl _) z.hg z.tk rfl (ja_cons (je_var 1) (ja_cons je_int ja_nil))))
  (jss_cons (js_set 5 S_law.nd (je_call c.c__law_drawn_images z.hr (Nat.le_refl _) z.hg z.tk rfl (ja_cons (je_var 1) (ja_cons je_int ja_nil))))
  (jss_cons (js_set 6 S_law.nd (je_callTy cr_dictOf oDictOf_nox rfl g.f_dict boot_dict (ja_cons (je_var 5) ja_nil)))
  (jss_cons (js_forV po z.hc (je_var 4) (jg_name 7 S_law.nd)
  (jss_one (js_asg (je_call c.c_substitute z.hr (Nat.le_refl _) z.hg z.tk rfl (ja_cons (je_ix z.deep (je_var 4) (je_var 7)) (ja_cons (je_var 5) ja_nil))) (jg_sub (Nat.lt_of_le_of_lt (by omega) z.deep) (je_var 6) (je_var 7)))))
  (jss_cons (js_if (jb_ne z.deep (je_call c.c_normal z.hr (Nat.le_refl _) z.hg z.tk rfl (ja_cons (je_call c.c_substitute z.hr (Nat.le_refl _) z.hg z.tk rfl (ja_cons (je_call c.c_substitute z.hr (Nat.le_refl _) z.hg z.tk rfl (ja_cons (je_var 3) (ja_cons (je_var 4) ja_nil))) (ja_cons (je_var 5) ja_nil))) ja_nil)) (je_call c.c_normal z.hr (Nat.le_refl _) z.hg z.tk rfl (ja_cons (je_call c.c_substitute z.hr (Nat.le_refl _) z.hg z.tk rfl (ja_cons (je_var 3) (ja_cons (je_var 6) ja_nil))) ja_nil)))
  (jss_one (js_ret je_bl))
  jss_nil)
  (jss_cons (js_if (JW.jb (jw_or (jb_ne z.deep (je_call c.c_normal z.hr (Nat.le_refl _) z.hg z.tk rfl (ja_cons (je_call c.c_substitute z.hr (Nat.le_refl _) z.hg z.tk rfl (ja_cons (je_call c.c_normal z.hr (Nat.le_refl _) z.hg z.tk rfl (ja_cons (je_var 3) ja_nil)) (ja_cons (je_var 4) ja_nil))) ja_nil)) (je_call c.c_normal z.hr (Nat.le_refl _) z.hg z.tk rfl (ja_cons (je_call c.c_substitute z.hr (Nat.le_refl _) z.hg z.tk rfl (ja_cons (je_var 3) (ja_cons (je_var 4) ja_nil))) ja_nil))) (jw_one (jb_ne z.deep (je_call c.c_substitute z.hr (Nat.le_refl _) z.hg z.tk rfl (ja_cons (je_var 3) (ja_cons je_dnewK ja_nil))) (je_var 3)))))
  (jss_one (js_ret je_bl))
  jss_nil)
  (jss_cons (js_if (jb_ne z.deep (je_call c.c_normal z.hr (Nat.le_refl _) z.hg z.tk rfl (ja_cons (je_call c.c_normal z.hr (Nat.le_refl _) z.hg z.tk rfl (ja_cons (je_var 3) ja_nil)) ja_nil)) (je_call c.c_normal z.hr (Nat.le_refl _) z.hg z.tk rfl (ja_cons (je_var 3) ja_nil)))
  (jss_one (js_ret je_bl))
  jss_nil)
  (jss_cons (js_set 8 S_law.nd (je_tup (ja_cons (je_var 3) (ja_cons (je_call c.c_substitute z.hr (Nat.le_refl _) z.hg z.tk rfl (ja_cons (je_var 3) (ja_cons (je_var 4) ja_nil))) ja_nil))))
  (jss_cons (js_if (JW.jb (jw_or (jb_ne z.deep (je_call c.c_told z.hr (Nat.le_refl _) z.hg z.tk rfl (ja_cons (je_call c.c_told z.hr (Nat.le_refl _) z.hg z.tk rfl (ja_cons (je_var 8) ja_nil)) ja_nil)) (je_call c.c_told z.hr (Nat.le_refl _) z.hg z.tk rfl (ja_cons (je_var 8) ja_nil))) (jw_one (jb_ne z.deep (je_call c.c_told z.hr (Nat.le_refl _) z.hg z.tk rfl (ja_cons (je_tupleOf rfl g.f_tuple (je_lc (own := [("_law_kind", 11)]) finLv_ok z.hc S_law.nd (ji_val (je_var 8)) (blkOk_by (by kernel_rfl)) (fun _ _ _ _ _ => (jgw_name 11 (by decide) S_law.nd)) jts_nil (fun _ _ _ _ _ _ => (je_call c.c__law_other_names (Cz.blk z).hr (Nat.le_refl _) (Cz.blk z).hg (Cz.blk z).tk rfl (ja_cons (je_var 11) ja_nil))))) ja_nil)) (je_call c.c_told z.hr (Nat.le_refl _) z.hg z.tk rfl (ja_cons (je_var 8) ja_nil))))))
  (jss_one (js_ret je_bl))
  jss_nil)
  (jss_cons (js_set 9 S_law.nd (je_call c.c_variables z.hr (Nat.le_refl _) z.hg z.tk rfl (ja_cons (je_var 3) ja_nil)))
  (jss_cons (js_set 10 S_law.nd (je_call c.c_variables z.hr (Nat.le_refl _) z.hg z.tk rfl (ja_cons (je_call c.c_normal z.hr (Nat.le_refl _) z.hg z.tk rfl (ja_cons (je_var 3) ja_nil)) ja_nil)))
  (jss_one (js_if (JW.jb (jw_or (jb_ne z.deep (je_call c.c_symbols z.hr (Nat.le_refl _) z.hg z.tk rfl (ja_cons (je_call c.c_normal z.hr (Nat.le_refl _) z.hg z.tk rfl (ja_cons (je_var 3) ja_nil)) ja_nil)) (je_call c.c_symbols z.hr (Nat.le_refl _) z.hg z.tk rfl (ja_cons (je_var 3) ja_nil))) (jw_or (jb_ne z.deep (je_callB (cr_sortS z.deep) oSortS_nox rfl g.f_sorted boot_sorted (ja_cons (je_ix z.deep (je_var 10) je_int) ja_nil)) (je_callB (cr_sortS z.deep) oSortS_nox rfl g.f_sorted boot_sorted (ja_cons (je_ix z.deep (je_var 9) je_int) ja_nil))) (jw_one (jb_ne z.deep (je_callB (cr_sortS z.deep) oSortS_nox rfl g.f_sorted boot_sorted (ja_cons (je_ix z.deep (je_var 10) je_int) ja_nil)) (je_callB (cr_sortS z.deep) oSortS_nox rfl g.f_sorted boot_sorted (ja_cons (je_ix z.deep (je_var 9) je_int) ja_nil)))))))
  (jss_one (js_ret je_bl))
  jss_nil)))))))))))))))
  (jss_one (js_ret je_bl))))
end
section
variable {P : Program} {w : World} {K : PySem.W.Frag} {mg : Str → Option Value} {base : Heap} {cf : CF}
def bads : Nat → Fn := fun _ _ _ => .bad
theorem calls0 (d : Fns K mg cf) : Calls P w K mg base cf 0 bads bads where
  c_normal := (d.d_normal).cal (ps := ["given"]) rfl (fun _ _ => fnG_bad rfl) (fun _ _ _ _ _ _ us hl => match us, hl with | [_], _ => rfl)
  c_symbols := (d.d_symbols).cal (ps := ["given"]) rfl (fun _ _ => fnG_bad rfl) (fun _ _ _ _ _ _ us hl => match us, hl with | [_], _ => rfl)
  c_gather := (d.d_gather).cal (ps := ["given", "type_variables", "row_variables"]) rfl (fun _ _ => fnG_bad rfl) (fun _ _ _ _ _ _ us hl => match us, hl with | [_, _, _], _ => rfl)
  c_variables := (d.d_variables).cal (ps := ["given"]) rfl (fun _ _ => fnG_bad rfl) (fun _ _ _ _ _ _ us hl => match us, hl with | [_], _ => rfl)
  c_substitute := (d.d_substitute).cal (ps := ["given", "images"]) rfl (fun _ _ => fnG_bad rfl) (fun _ _ _ _ _ _ us hl => match us, hl with | [_, _], _ => rfl)
  c_name_of := (d.d_name_of).cal (ps := ["number"]) rfl (fun _ _ => fnG_bad rfl) (fun _ _ _ _ _ _ us hl => match us, hl with | [_], _ => rfl)
  c_Renaming__new_name := (d.d_Renaming__new_name).met (ps := ["self", "old"]) (fun _ => fnG_bad rfl) (fun _ _ _ _ _ _ us hl => match us, hl with | [_, _], _ => rfl)
  c_Renaming__renamed := (d.d_Renaming__renamed).met (ps := ["self", "given"]) (fun _ => fnG_bad rfl) (fun _ _ _ _ _ _ us hl => match us, hl with | [_, _], _ => rfl)
  c_told := (d.d_told).cal (ps := ["types"]) rfl (fun _ _ => fnG_bad rfl) (fun _ _ _ _ _ _ us hl => match us, hl with | [_], _ => rfl)
  c__law_cell := (d.d__law_cell).cal (ps := ["_law_script", "_law_k"]) rfl (fun _ _ => fnG_bad rfl) (fun _ _ _ _ _ _ us hl => match us, hl with | [_, _], _ => rfl)
  c__law_digits := (d.d__law_digits).cal (ps := ["_law_script", "_law_first", "_law_last"]) rfl (fun _ _ => fnG_bad rfl) (fun _ _ _ _ _ _ us hl => match us, hl with | [_, _, _], _ => rfl)
  c__law_draw := (d.d__law_draw).cal (ps := ["_law_box", "_law_many"]) rfl (fun _ _ => fnG_bad rfl) (fun _ _ _ _ _ _ us hl => match us, hl with | [_, _], _ => rfl)
  c__law_type := (d.d__law_type).cal (ps := ["_law_box", "_law_depth"]) rfl (fun _ _ => fnG_bad rfl) (fun _ _ _ _ _ _ us hl => match us, hl with | [_, _], _ => rfl)
  c__law_record := (d.d__law_record).cal (ps := ["_law_box", "_law_depth"]) rfl (fun _ _ => fnG_bad rfl) (fun _ _ _ _ _ _ us hl => match us, hl with | [_, _], _ => rfl)
  c__law_drawn_images := (d.d__law_drawn_images).cal (ps := ["_law_box", "_law_depth"]) rfl (fun _ _ => fnG_bad rfl) (fun _ _ _ _ _ _ us hl => match us, hl with | [_, _], _ => rfl)
  c__law_other_names := (d.d__law_other_names).cal (ps := ["_law_given"]) rfl (fun _ _ => fnG_bad rfl) (fun _ _ _ _ _ _ us hl => match us, hl with | [_], _ => rfl)
  c_law := (d.d_law).cal (ps := ["_law_script"]) rfl (fun _ _ => fnG_bad rfl) (fun _ _ _ _ _ _ us hl => match us, hl with | [_], _ => rfl)
  m_Renaming := (d.d_Renaming____init__).mak (ps := ["self"]) (fun _ => fnG_bad rfl) (fun _ _ _ _ _ _ us hl => match us, hl with | [_], _ => rfl)
theorem calls (g : Gl0 K w mg cf) (d : Fns K mg cf) (t : Tbs K mg base cf) : ∀ k, Calls P w K mg base cf (k + 2) (den k) ini
  | 0 => by
    have c0 : Calls P w K mg base cf 0 bads bads := calls0 d
    exact ⟨(d.d_normal).cal (ps := ["given"]) rfl (fun _ _ => fnG_bad rfl) (fun _ _ _ _ _ _ us hl => match us, hl with | [_], _ => rfl),
      (d.d_symbols).cal (ps := ["given"]) rfl (fun _ _ => fnG_bad rfl) (fun _ _ _ _ _ _ us hl => match us, hl with | [_], _ => rfl),
      (d.d_gather).cal (ps := ["given", "type_variables", "row_variables"]) rfl (fun _ _ => fnG_bad rfl) (fun _ _ _ _ _ _ us hl => match us, hl with | [_, _, _], _ => rfl),
      (d.d_variables).cal (ps := ["given"]) rfl (fun _ _ => fnG_bad rfl) (fun _ _ _ _ _ _ us hl => match us, hl with | [_], _ => rfl),
      (d.d_substitute).cal (ps := ["given", "images"]) rfl (fun _ _ => fnG_bad rfl) (fun _ _ _ _ _ _ us hl => match us, hl with | [_, _], _ => rfl),
      (d.d_name_of).cal (ps := ["number"]) rfl (fun _ _ => fnG_bad rfl) (fun _ _ _ _ _ _ us hl => match us, hl with | [_], _ => rfl),
      (d.d_Renaming__new_name).met (ps := ["self", "old"]) (fun _ => fnG_bad rfl) (fun _ _ _ _ _ _ us hl => match us, hl with | [_, _], _ => rfl),
      (d.d_Renaming__renamed).met (ps := ["self", "given"]) (fun _ => fnG_bad rfl) (fun _ _ _ _ _ _ us hl => match us, hl with | [_, _], _ => rfl),
      (d.d_told).cal (ps := ["types"]) rfl (fun _ _ => fnG_bad rfl) (fun _ _ _ _ _ _ us hl => match us, hl with | [_], _ => rfl),
      (d.d__law_cell).cal (ps := ["_law_script", "_law_k"]) rfl (fun _ _ => fnG_bad rfl) (fun _ _ _ _ _ _ us hl => match us, hl with | [_, _], _ => rfl),
      (d.d__law_digits).cal (ps := ["_law_script", "_law_first", "_law_last"]) rfl (fun _ _ => fnG_bad rfl) (fun _ _ _ _ _ _ us hl => match us, hl with | [_, _, _], _ => rfl),
      (d.d__law_draw).cal (ps := ["_law_box", "_law_many"]) rfl (fun _ _ => fnG_bad rfl) (fun _ _ _ _ _ _ us hl => match us, hl with | [_, _], _ => rfl),
      (d.d__law_type).cal (ps := ["_law_box", "_law_depth"]) rfl (fun _ _ => fnG_bad rfl) (fun _ _ _ _ _ _ us hl => match us, hl with | [_, _], _ => rfl),
      (d.d__law_record).cal (ps := ["_law_box", "_law_depth"]) rfl (fun _ _ => fnG_bad rfl) (fun _ _ _ _ _ _ us hl => match us, hl with | [_, _], _ => rfl),
      (d.d__law_drawn_images).cal (ps := ["_law_box", "_law_depth"]) rfl (fun _ _ => fnG_bad rfl) (fun _ _ _ _ _ _ us hl => match us, hl with | [_, _], _ => rfl),
      (d.d__law_other_names).cal (ps := ["_law_given"]) rfl (fun _ _ => fnG_bad rfl) (fun _ _ _ _ _ _ us hl => match us, hl with | [_], _ => rfl),
      (d.d_law).cal (ps := ["_law_script"]) rfl (fun _ _ => fnG_bad rfl) (fun _ _ _ _ _ _ us hl => match us, hl with | [_], _ => rfl),
      (d.d_Renaming____init__).mak (ps := ["self"]) (fun D => b_Renaming____init__ g c0 t D) (fun _ _ _ _ _ _ us hl => match us, hl with | [_], _ => rfl)⟩
  | k + 1 => by
    have ih := calls g d t k
    have c0 : Calls P w K mg base cf 0 bads bads := calls0 d
    exact ⟨(d.d_normal).cal (ps := ["given"]) rfl (fun hf D => b_normal g ih t hf D) (fun _ _ _ _ _ _ us hl => match us, hl with | [_], _ => rfl),
      (d.d_symbols).cal (ps := ["given"]) rfl (fun hf D => b_symbols g ih t hf D) (fun _ _ _ _ _ _ us hl => match us, hl with | [_], _ => rfl),
      (d.d_gather).cal (ps := ["given", "type_variables", "row_variables"]) rfl (fun hf D => b_gather g ih t hf D) (fun _ _ _ _ _ _ us hl => match us, hl with | [_, _, _], _ => rfl),
      (d.d_variables).cal (ps := ["given"]) rfl (fun hf D => b_variables g ih t hf D) (fun _ _ _ _ _ _ us hl => match us, hl with | [_], _ => rfl),
      (d.d_substitute).cal (ps := ["given", "images"]) rfl (fun hf D => b_substitute g ih t hf D) (fun _ _ _ _ _ _ us hl => match us, hl with | [_, _], _ => rfl),
      (d.d_name_of).cal (ps := ["number"]) rfl (fun hf D => b_name_of g ih t hf D) (fun _ _ _ _ _ _ us hl => match us, hl with | [_], _ => rfl),
      (d.d_Renaming__new_name).met (ps := ["self", "old"]) (fun D => b_Renaming__new_name g ih t D) (fun _ _ _ _ _ _ us hl => match us, hl with | [_, _], _ => rfl),
      (d.d_Renaming__renamed).met (ps := ["self", "given"]) (fun D => b_Renaming__renamed g ih t D) (fun _ _ _ _ _ _ us hl => match us, hl with | [_, _], _ => rfl),
      (d.d_told).cal (ps := ["types"]) rfl (fun hf D => b_told g ih t hf (by omega) D) (fun _ _ _ _ _ _ us hl => match us, hl with | [_], _ => rfl),
      (d.d__law_cell).cal (ps := ["_law_script", "_law_k"]) rfl (fun hf D => b__law_cell g ih t hf D) (fun _ _ _ _ _ _ us hl => match us, hl with | [_, _], _ => rfl),
      (d.d__law_digits).cal (ps := ["_law_script", "_law_first", "_law_last"]) rfl (fun hf D => b__law_digits g ih t hf D) (fun _ _ _ _ _ _ us hl => match us, hl with | [_, _, _], _ => rfl),
      (d.d__law_draw).cal (ps := ["_law_box", "_law_many"]) rfl (fun hf D => b__law_draw g ih t hf D) (fun _ _ _ _ _ _ us hl => match us, hl with | [_, _], _ => rfl),
      (d.d__law_type).cal (ps := ["_law_box", "_law_depth"]) rfl (fun hf D => b__law_type g ih t hf D) (fun _ _ _ _ _ _ us hl => match us, hl with | [_, _], _ => rfl),
      (d.d__law_record).cal (ps := ["_law_box", "_law_depth"]) rfl (fun hf D => b__law_record g ih t hf D) (fun _ _ _ _ _ _ us hl => match us, hl with | [_, _], _ => rfl),
      (d.d__law_drawn_images).cal (ps := ["_law_box", "_law_depth"]) rfl (fun hf D => b__law_drawn_images g ih t hf D) (fun _ _ _ _ _ _ us hl => match us, hl with | [_, _], _ => rfl),
      (d.d__law_other_names).cal (ps := ["_law_given"]) rfl (fun hf D => b__law_other_names g ih t hf D) (fun _ _ _ _ _ _ us hl => match us, hl with | [_], _ => rfl),
      (d.d_law).cal (ps := ["_law_script"]) rfl (fun hf D => b_law g ih t hf D) (fun _ _ _ _ _ _ us hl => match us, hl with | [_], _ => rfl),
      (d.d_Renaming____init__).mak (ps := ["self"]) (fun D => b_Renaming____init__ g c0 t D) (fun _ _ _ _ _ _ us hl => match us, hl with | [_], _ => rfl)⟩
end
/-! ### the head -/
def fn : List He.DefD := [⟨("normal", none), "normal", "normal", defArgs (top 2), defBody (top 2), defScope (top 2), [], []⟩,
  ⟨("symbols", none), "symbols", "symbols", defArgs (top 3), defBody (top 3), defScope (top 3), [], []⟩,
  ⟨("gather", none), "gather", "gather", defArgs (top 4), defBody (top 4), defScope (top 4), [], []⟩,
  ⟨("variables", none), "variables", "variables", defArgs (top 5), defBody (top 5), defScope (top 5), [], []⟩,
  ⟨("substitute", none), "substitute", "substitute", defArgs (top 6), defBody (top 6), defScope (top 6), [], []⟩,
  ⟨("name_of", none), "name_of", "name_of", defArgs (top 7), defBody (top 7), defScope (top 7), [], []⟩,
  ⟨("Renaming", some "__init__"), "__init__", "Renaming.__init__", defArgs (inClass (top 8) 0), defBody (inClass (top 8) 0), defScope (inClass (top 8) 0), [], []⟩,
  ⟨("Renaming", some "new_name"), "new_name", "Renaming.new_name", defArgs (inClass (top 8) 1), defBody (inClass (top 8) 1), defScope (inClass (top 8) 1), [], []⟩,
  ⟨("Renaming", some "renamed"), "renamed", "Renaming.renamed", defArgs (inClass (top 8) 2), defBody (inClass (top 8) 2), defScope (inClass (top 8) 2), [], []⟩,
  ⟨("told", none), "told", "told", defArgs (top 9), defBody (top 9), defScope (top 9), [], []⟩,
  ⟨("_law_cell", none), "_law_cell", "_law_cell", defArgs (top 11), defBody (top 11), defScope (top 11), [], []⟩,
  ⟨("_law_digits", none), "_law_digits", "_law_digits", defArgs (top 12), defBody (top 12), defScope (top 12), [], []⟩,
  ⟨("_law_draw", none), "_law_draw", "_law_draw", defArgs (top 13), defBody (top 13), defScope (top 13), [], []⟩,
  ⟨("_law_type", none), "_law_type", "_law_type", defArgs (top 14), defBody (top 14), defScope (top 14), [], []⟩,
  ⟨("_law_record", none), "_law_record", "_law_record", defArgs (top 15), defBody (top 15), defScope (top 15), [], []⟩,
  ⟨("_law_drawn_images", none), "_law_drawn_images", "_law_drawn_images", defArgs (top 16), defBody (top 16), defScope (top 16), [], []⟩,
  ⟨("_law_other_names", none), "_law_other_names", "_law_other_names", defArgs (top 17), defBody (top 17), defScope (top 17), [], []⟩,
  ⟨("law", none), "law", "law", defArgs (top 18), defBody (top 18), defScope (top 18), [], []⟩]
def fa : List He.Fa := [.glo "normal", .glo "symbols", .glo "gather", .glo "variables", .glo "substitute", .glo "name_of", .glo "Renaming", .cls "Renaming", .mkr "Renaming", .meth "Renaming" "new_name", .meth "Renaming" "renamed", .glo "told", .glo "_law_cell", .glo "_law_digits", .glo "_law_draw", .glo "_law_type", .glo "_law_record", .glo "_law_drawn_images", .glo "_law_other_names", .glo "law", .free "dict", .free "int", .free "len", .free "range", .free "sorted", .free "sum", .free "tuple", .noat "Renaming" "names", .str "LETTERS" "abcdefghijklmnopqrstuvwxyz"]
def ts : List He.Tab := []
def ex (K : PySem.W.Frag) : Bool := true
abbrev R : PySem.W.OpenRow := PySem.W.OpenLaw.row PySem.Challenge.rw_rowtypes_k28_substitutions
abbrev hk : PySem.W.Hook := He.hookX 6 fa fn ts tf ex
def ob (s : PySem.W.SharedT) : He.AlX := He.obsX 6 fa fn ts tf ex (HandSHeadRun.getT s)
theorem ob_eq (s : PySem.W.SharedT) : ob s = hk.obs s.abs := He.obsX_eq (HandSHeadRun.getT_eq s)
def loose0 : List Str := ["LETTERS", "normal", "symbols", "gather", "variables", "substitute", "name_of", "Renaming", "told", "_law_cell", "_law_digits", "_law_draw", "_law_type", "_law_record", "_law_drawn_images", "_law_other_names"]
def loose : List Str := loose0
theorem runF (w : World) : HandSHeadRun.RunEq R (PySem.W.view R.prog [18]) hk ob 20000 loose (w.withFollow "special-get-raises" false) := by
  intro os
  kernel_rfl
theorem runT (w : World) : HandSHeadRun.RunEq R (PySem.W.view R.prog [18]) hk ob 20000 loose (w.withFollow "special-get-raises" true) := by
  intro os
  kernel_rfl
theorem run (w : World) : HandSHeadRun.RunEq R (PySem.W.view R.prog [18]) hk ob 20000 loose w := PySem.W.byRow2 "special-get-raises" (P := fun w => HandSHeadRun.RunEq R (PySem.W.view R.prog [18]) hk ob 20000 loose w) runF runT w
section
variable {w : World} {K : PySem.W.Frag} {mg : Str → Option Value} {h : Heap}
theorem gl0 (X : K.In h) (G : h.Ns mainGlobals mg) (c : He.SaysX fa fn ts tf ex w h K) : Gl0 K w mg (cfOf K [((He.cT K ("normal", none)).2, "normal.<locals>.<lambda>")]) := by
  have hx := c.more
  simp only [ex, Bool.and_eq_true] at hx
  exact ⟨He.free_ok X G (c.t.d.fact 20 rfl),
    He.free_ok X G (c.t.d.fact 21 rfl),
    He.free_ok X G (c.t.d.fact 22 rfl),
    He.free_ok X G (c.t.d.fact 23 rfl),
    He.free_ok X G (c.t.d.fact 24 rfl),
    He.free_ok X G (c.t.d.fact 25 rfl),
    He.free_ok X G (c.t.d.fact 26 rfl),
    constD_str X G (c.t.d.fact 28 rfl),
    ⟨_, rfl, He.cls_ok (c.t.d.fact 7 rfl), He.noat_ok (c.t.d.fact 27 rfl)⟩⟩
theorem fns (X : K.In h) (G : h.Ns mainGlobals mg) (c : He.SaysX fa fn ts tf ex w h K) : Fns K mg (cfOf K [((He.cT K ("normal", none)).2, "normal.<locals>.<lambda>")]) where
  d_normal := defOk_of X G (c.t.d.fact 0 rfl) (c.t.d.def_ 0 rfl)
  d_symbols := defOk_of X G (c.t.d.fact 1 rfl) (c.t.d.def_ 1 rfl)
  d_gather := defOk_of X G (c.t.d.fact 2 rfl) (c.t.d.def_ 2 rfl)
  d_variables := defOk_of X G (c.t.d.fact 3 rfl) (c.t.d.def_ 3 rfl)
  d_substitute := defOk_of X G (c.t.d.fact 4 rfl) (c.t.d.def_ 4 rfl)
  d_name_of := defOk_of X G (c.t.d.fact 5 rfl) (c.t.d.def_ 5 rfl)
  d_Renaming____init__ := iniOk_of X G (c.t.d.fact 6 rfl) (c.t.d.fact 8 rfl) (c.t.d.def_ 6 rfl)
  d_Renaming__new_name := mthOk_of (c.t.d.fact 7 rfl) (c.t.d.fact 9 rfl) (c.t.d.def_ 7 rfl)
  d_Renaming__renamed := mthOk_of (c.t.d.fact 7 rfl) (c.t.d.fact 10 rfl) (c.t.d.def_ 8 rfl)
  d_told := defOk_of X G (c.t.d.fact 11 rfl) (c.t.d.def_ 9 rfl)
  d__law_cell := defOk_of X G (c.t.d.fact 12 rfl) (c.t.d.def_ 10 rfl)
  d__law_digits := defOk_of X G (c.t.d.fact 13 rfl) (c.t.d.def_ 11 rfl)
  d__law_draw := defOk_of X G (c.t.d.fact 14 rfl) (c.t.d.def_ 12 rfl)
  d__law_type := defOk_of X G (c.t.d.fact 15 rfl) (c.t.d.def_ 13 rfl)
  d__law_record := defOk_of X G (c.t.d.fact 16 rfl) (c.t.d.def_ 14 rfl)
  d__law_drawn_images := defOk_of X G (c.t.d.fact 17 rfl) (c.t.d.def_ 15 rfl)
  d__law_other_names := defOk_of X G (c.t.d.fact 18 rfl) (c.t.d.def_ 16 rfl)
  d_law := defOk_of X G (c.t.d.fact 19 rfl) (c.t.d.def_ 17 rfl)
end
theorem law_G (goal : ∀ ns : List Int, ns.length ≤ 63 → (∀ z ∈ ns, Builtin.Int.intBits z ≤ 1048576) → ∃ st, den 218 17 [.kl (ns.map D.int)] [] = .ok (.bl true) st) (w : World) (mg : Str → Option Value) (fa0 : Addr) (h : Heap)
    (Y : hk.says w h) (G : h.Ns mainGlobals mg) (hm : mg "law" = some (.ref fa0)) : LawG PySem.Challenge.rw_rowtypes_k28_substitutions w 220 63 "_law_script" mg fa0 h := by
  obtain ⟨K, X, c⟩ := Y
  obtain ⟨fd, D⟩ := c.t.d.def_ 17 rfl
  have e := hm.symm.trans (He.glo_ok X G (c.t.d.fact 19 rfl))
  cases e
  exact ⟨K, fd, tf.map (He.cT K), cfOf K [((He.cT K ("normal", none)).2, "normal.<locals>.<lambda>")], den 218 17, X,
    (fun p hp => by
      obtain ⟨q, hq, rfl⟩ := List.mem_map.mp hp
      exact c.empty q hq),
    (fun p hp => by
      obtain ⟨q, hq, rfl⟩ := List.mem_map.mp hp
      exact c.out q hq),
    (fun p hp => by
      obtain ⟨q, hq, rfl⟩ := List.mem_map.mp hp
      exact PySem.W.codeHd_of_K X (c.hd q hq)), by simp [cfOf, tf],
    fun s v => FunD.bindsA (ps := ["_law_script"]) D (fun _ _ _ _ _ _ us hl => match us, hl with | [_], _ => rfl) s [v] rfl, goal, fun base KI ns tb => b_law (gl0 X G c) (calls (gl0 X G c) (fns X G c) ⟨tb _ (by simp [tf]), rfl⟩ 217) ⟨tb _ (by simp [tf]), rfl⟩ rfl D⟩
end K28
set_option Elab.async false
set_option linter.all false
set_option maxHeartbeats 4000000
set_option maxRecDepth 100000
namespace K28
open PySem PySem.Spec PyProof.Rows L2 LamX DL DL.Ty
/-! ### the defs of types, mirrored -/
theorem den_normal (k : Nat) (ds : List D) (st : Sto) : den (k + 1) 0 ds st = runB (u_normal (den k) ini) 4 ds st := rfl
theorem normal_ok : ∀ (t : Ty) (k : Nat) (st : Sto), high t ≤ k → syms t ≤ 1000000 → den k 0 [enc t] st = .ok (enc (norm t)) st := by
  intro t
  induction t using Ty.ind with
  | h1 =>
    intro k st h hs
    obtain ⟨k, rfl⟩ : ∃ j, k = j + 1 := ⟨k - 1, by simp only [high] at h; omega⟩
    rw [den_normal]
    simp (decide := true) -implicitDefEqProofs [runB_eq, u_normal, List.replicate, enc, norm]
  | h2 =>
    intro k st h hs
    obtain ⟨k, rfl⟩ : ∃ j, k = j + 1 := ⟨k - 1, by simp only [high] at h; omega⟩
    rw [den_normal]
    simp (decide := true) -implicitDefEqProofs [runB_eq, u_normal, List.replicate, enc, norm]
  | h3 a =>
    intro k st h hs
    obtain ⟨k, rfl⟩ : ∃ j, k = j + 1 := ⟨k - 1, by simp only [high] at h; omega⟩
    rw [den_normal]
    simp (decide := true) -implicitDefEqProofs [runB_eq, u_normal, List.replicate, enc, norm]
  | h4 a b ia ib =>
    intro k st h hs
    obtain ⟨k, rfl⟩ : ∃ j, k = j + 1 := ⟨k - 1, by simp only [high] at h; omega⟩
    simp only [high] at h
    simp only [syms] at hs
    have h1 := ia k st (by omega) (by omega)
    have h2 := ib k st (by omega) (by omega)
    rw [den_normal]
    simp (decide := true) -implicitDefEqProofs [runB_eq, u_normal, List.replicate, enc, norm, h1, h2]
  | h5 fs e ih =>
    intro k st h hs
    obtain ⟨k, rfl⟩ : ∃ j, k = j + 1 := ⟨k - 1, by simp only [high] at h; omega⟩
    have hl := fs_len (fs := fs) (e := e)
    rw [den_normal]
    have lc := lcD_on (g := gTupD 2 (gConsD (gN 2) (gConsD (gN 3) gNilD))) (t := bYes) (e := fTup (aCons (fV 2) (aCons (fCallN 1 (den k 0) (aCons (fV 3) aNil)) aNil))) (τ := [some (.tup [.str "record", .tup (fs.map itD), endD e]), none, none, none]) (st := st)
      itD (fun f => itD (f.1, norm f.2)) fs (fun f hf => by
        have h1 := ih f hf k st (fs_high h hf) (by have := fs_syms (e := e) hf; omega)
        simp -implicitDefEqProofs [lcOne, itD, h1]) (by omega)
    have sk : kSortK (.lv (fs.map fun f => itD (f.1, norm f.2))) st = .ok (.lv ((sortF (fs.map fun f => (f.1, norm f.2))).map itD)) st := by
      have e : (fs.map fun f => itD (f.1, norm f.2)) = (fs.map fun f => (f.1, norm f.2)).map itD := by rw [List.map_map]; rfl
      rw [e, kSortK_lv (fun d hd => ?_) (by rw [sizeLine_eq, List.length_map, List.length_map]; omega), sort_it]
      obtain ⟨f, _, rfl⟩ := List.mem_map.mp hd
      rfl
    rw [norm_rcd, enc_rcd, enc_rcd]
    simp (decide := true) -implicitDefEqProofs [runB_eq, u_normal, List.replicate, wipeT, lc, sk]
theorem den_symbols (k : Nat) (ds : List D) (st : Sto) : den (k + 1) 1 ds st = runB (u_symbols (den k) ini) 4 ds st := rfl
theorem symbols_ok : ∀ (t : Ty) (k : Nat) (st : Sto), high t ≤ k → syms t ≤ 1000000 → den k 1 [enc t] st = .ok (.int (syms t : Nat)) st := by
  intro t
  induction t using Ty.ind with
  | h1 =>
    intro k st h hs
    obtain ⟨k, rfl⟩ : ∃ j, k = j + 1 := ⟨k - 1, by simp only [high] at h; omega⟩
    rw [den_symbols]
    simp (decide := true) -implicitDefEqProofs [runB_eq, u_symbols, List.replicate, enc, syms]
  | h2 =>
    intro k st h hs
    obtain ⟨k, rfl⟩ : ∃ j, k = j + 1 := ⟨k - 1, by simp only [high] at h; omega⟩
    rw [den_symbols]
    simp (decide := true) -implicitDefEqProofs [runB_eq, u_symbols, List.replicate, enc, syms]
  | h3 a =>
    intro k st h hs
    obtain ⟨k, rfl⟩ : ∃ j, k = j + 1 := ⟨k - 1, by simp only [high] at h; omega⟩
    rw [den_symbols]
    simp (decide := true) -implicitDefEqProofs [runB_eq, u_symbols, List.replicate, enc, syms]
  | h4 a b ia ib =>
    intro k st h hs
    obtain ⟨k, rfl⟩ : ∃ j, k = j + 1 := ⟨k - 1, by simp only [high] at h; omega⟩
    simp only [high] at h
    simp only [syms] at hs
    have h1 := ia k st (by omega) (by omega)
    have h2 := ib k st (by omega) (by omega)
    rw [den_symbols]
    simp (decide := true) -implicitDefEqProofs [runB_eq, u_symbols, List.replicate, enc, syms, h1, h2]
  | h5 fs e ih =>
    intro k st h hs
    obtain ⟨k, rfl⟩ : ∃ j, k = j + 1 := ⟨k - 1, by simp only [high] at h; omega⟩
    have hl := fs_len (fs := fs) (e := e)
    rw [den_symbols]
    have lc : ∀ m : D, _ := fun m => lcD_on (g := gTupD 2 (gConsD (gN 2) (gConsD (gN 3) gNilD))) (t := bYes) (e := fOp opAddA (fC (.int 1)) (fCallN 1 (den k 1) (aCons (fV 3) aNil))) (τ := [some (.tup [.str "record", .tup (fs.map itD), endD e]), some m, none, none]) (st := st)
      itD (fun f => D.int (1 + (syms f.2 : Nat) : Int)) fs (fun f hf => by
        have h1 := ih f hf k st (fs_high h hf) (by have := fs_syms (e := e) hf; omega)
        simp -implicitDefEqProofs [lcOne, itD, h1]) (by omega)
    have hsum : (fs.map fun f => (1 + (syms f.2 : Nat) : Int)).sum = ((fs.map fun f => 1 + syms f.2).sum : Nat) := by
      clear lc hl hs h ih
      induction fs with
      | nil => rfl
      | cons a r ih => simp only [List.map_cons, List.sum_cons, ih]; omega
    have os : oSum [.lv (fs.map fun f => D.int (1 + (syms f.2 : Nat) : Int))] st = .ok (.int ((fs.map fun f => 1 + syms f.2).sum : Nat)) st := by
      have := oSum_lv (fs.map fun f => (1 + (syms f.2 : Nat) : Int)) st
      rw [List.map_map, hsum] at this
      exact this
    rw [enc_rcd]
    cases e with
    | none =>
      simp only [endD] at lc
      simp (decide := true) -implicitDefEqProofs [runB_eq, u_symbols, List.replicate, syms, symss_sum, wipeT, lc, os, endD, -List.map_map]
    | some x =>
      simp only [endD] at lc
      simp (decide := true) -implicitDefEqProofs [runB_eq, u_symbols, List.replicate, syms, symss_sum, wipeT, lc, os, endD, -List.map_map]
end K28
set_option Elab.async false
set_option linter.all false
set_option maxHeartbeats 4000000
set_option maxRecDepth 100000
namespace K28
open PySem PySem.Spec PyProof.Rows L2 LamX DL DL.Ty
/-! ### gather, variables -/
def vst (st : Sto) (a b : List Str) : Sto := st ++ [.lst (a.map D.str), .lst (b.map D.str)]
theorem vst_0 (st : Sto) (a b : List Str) : (vst st a b)[st.length]? = some (.lst (a.map D.str)) := by simp [vst]
theorem vst_1 (st : Sto) (a b : List Str) : (vst st a b)[st.length + 1]? = some (.lst (b.map D.str)) := by simp [vst]
theorem vst_s0 (st : Sto) (a b a' : List Str) : (vst st a b).set st.length (.lst (a'.map D.str)) = vst st a' b := by simp [vst]
theorem vst_s1 (st : Sto) (a b b' : List Str) : (vst st a b).set (st.length + 1) (.lst (b'.map D.str)) = vst st a b' := by
  unfold vst
  rw [List.set_append, if_neg (by omega)]
  simp
theorem den_gather (k : Nat) (ds : List D) (st : Sto) : den (k + 1) 2 ds st = runB (u_gather (den k) ini) 5 ds st := rfl
theorem notin0 (st : Sto) (a b : List Str) (x : Str) : opNotIn (.str x) (.obj st.length) (vst st a b) = .ok (.bl (!decide (x ∈ a))) (vst st a b) := opNotIn_strs (by simp only [seqOf, DL.listOf, vst_0]) (by intro z h; cases h) x
theorem notin1 (st : Sto) (a b : List Str) (x : Str) : opNotIn (.str x) (.obj (st.length + 1)) (vst st a b) = .ok (.bl (!decide (x ∈ b))) (vst st a b) := opNotIn_strs (by simp only [seqOf, DL.listOf, vst_1]) (by intro z h; cases h) x
theorem app0 (st : Sto) (a b : List Str) (x : Str) (h : a.length < 16777216) : oAppend (.obj st.length) [.str x] (vst st a b) = .ok .non (vst st (a ++ [x]) b) := by
  have e := vst_s0 st a b (a ++ [x])
  rw [List.map_append] at e
  rw [oAppend_at (vst_0 st a b) (by rw [sizeLine_eq, List.length_map]; exact h)]
  exact congrArg (R.ok D.non) e
theorem app1 (st : Sto) (a b : List Str) (x : Str) (h : b.length < 16777216) : oAppend (.obj (st.length + 1)) [.str x] (vst st a b) = .ok .non (vst st a (b ++ [x])) := by
  have e := vst_s1 st a b (b ++ [x])
  rw [List.map_append] at e
  rw [oAppend_at (vst_1 st a b) (by rw [sizeLine_eq, List.length_map]; exact h)]
  exact congrArg (R.ok D.non) e
theorem gather_ok (st : Sto) : ∀ (t : Ty) (k : Nat) (a b : List Str), high t ≤ k → a.length + syms t ≤ 1000000 → b.length + syms t ≤ 1000000 →
    den k 2 [enc t, .obj st.length, .obj (st.length + 1)] (vst st a b) = .ok .non (vst st (addN a (tvs t)) (addN b (rvs t))) := by
  intro t
  induction t using Ty.ind with
  | h1 =>
    intro k a b h h1 h2
    obtain ⟨k, rfl⟩ : ∃ j, k = j + 1 := ⟨k - 1, by simp only [high] at h; omega⟩
    rw [den_gather]
    simp (decide := true) -implicitDefEqProofs [runB_eq, u_gather, List.replicate, enc, tvs, rvs, occ, addN]
  | h2 =>
    intro k a b h h1 h2
    obtain ⟨k, rfl⟩ : ∃ j, k = j + 1 := ⟨k - 1, by simp only [high] at h; omega⟩
    rw [den_gather]
    simp (decide := true) -implicitDefEqProofs [runB_eq, u_gather, List.replicate, enc, tvs, rvs, occ, addN]
  | h3 x =>
    intro k a b h h1 h2
    obtain ⟨k, rfl⟩ : ∃ j, k = j + 1 := ⟨k - 1, by simp only [high] at h; omega⟩
    simp only [syms] at h1 h2
    rw [den_gather]
    by_cases q : x ∈ a
    · simp (decide := true) -implicitDefEqProofs [runB_eq, u_gather, List.replicate, enc, tvs, rvs, occ, addN, notin0, q]
    · simp (decide := true) -implicitDefEqProofs [runB_eq, u_gather, List.replicate, enc, tvs, rvs, occ, addN, notin0, q, kMt1_eq (vst_0 st a b), app0 st a b x (by omega)]
  | h4 c d ic id =>
    intro k a b h h1 h2
    obtain ⟨k, rfl⟩ : ∃ j, k = j + 1 := ⟨k - 1, by simp only [high] at h; omega⟩
    simp only [high] at h
    simp only [syms] at h1 h2
    have lc := tvs_len c
    have lr := rvs_len c
    have l1 := addN_len (tvs c) a
    have l2 := addN_len (rvs c) b
    have e1 := ic k a b (by omega) (by omega) (by omega)
    have e2 := id k (addN a (tvs c)) (addN b (rvs c)) (by omega) (by omega) (by omega)
    rw [den_gather, tvs_fn, rvs_fn, addN_append, addN_append]
    simp (decide := true) -implicitDefEqProofs [runB_eq, u_gather, List.replicate, enc, e1, e2]
  | h5 fs e ih =>
    intro k a b h h1 h2
    obtain ⟨k, rfl⟩ : ∃ j, k = j + 1 := ⟨k - 1, by simp only [high] at h; omega⟩
    have loop : ∀ (gs : List (Str × Ty)) (c d : List Str) (o3 o4 : Option D), (∀ f, f ∈ gs → f ∈ fs) → c.length + (gs.map fun f => 1 + syms f.2).sum ≤ 1000000 → d.length + (gs.map fun f => 1 + syms f.2).sum ≤ 1000000 →
        ∃ o3' o4', forD (gTupD 2 (gConsD (gN 3) (gConsD (gN 4) gNilD))) (sExp (fCallN 3 (den k 2) (aCons (fV 4) (aCons (fV 1) (aCons (fV 2) aNil))))) (gs.map itD) [some (enc (.rcd fs e)), some (.obj st.length), some (.obj (st.length + 1)), o3, o4] (vst st c d)
          = .ok (.nx [some (enc (.rcd fs e)), some (.obj st.length), some (.obj (st.length + 1)), o3', o4']) (vst st (addN c (gs.flatMap fun f => tvs f.2)) (addN d (gs.flatMap fun f => rvs f.2))) := by
      intro gs
      induction gs with
      | nil => intro c d o3 o4 _ _ _; exact ⟨o3, o4, rfl⟩
      | cons f gs ihg =>
        intro c d o3 o4 hm hc hd
        simp only [List.map_cons, List.sum_cons] at hc hd
        have hf := hm f List.mem_cons_self
        have e1 := ih f hf k c d (fs_high h hf) (by omega) (by omega)
        have lc := tvs_len f.2
        have lr := rvs_len f.2
        have l1 := addN_len (tvs f.2) c
        have l2 := addN_len (rvs f.2) d
        obtain ⟨o3', o4', e2⟩ := ihg (addN c (tvs f.2)) (addN d (rvs f.2)) (some (.str f.1)) (some (enc f.2)) (fun g hg => hm g (List.mem_cons_of_mem _ hg)) (by omega) (by omega)
        refine ⟨o3', o4', ?_⟩
        rw [List.map_cons, forD_cons, List.flatMap_cons, List.flatMap_cons, addN_append, addN_append, ← e2]
        simp -implicitDefEqProofs [itD, e1]
    have ls : (fs.map fun f => 1 + syms f.2).sum + 1 ≤ syms (.rcd fs e) := by
      simp only [syms, symss_sum]; split <;> omega
    obtain ⟨o3', o4', el⟩ := loop fs a b none none (fun f hf => hf) (by omega) (by omega)
    rw [den_gather, tvs_rcd, rvs_rcd]
    rw [enc_rcd] at el ⊢
    cases e with
    | none =>
      simp only [endD] at el
      simp (decide := true) -implicitDefEqProofs [runB_eq, u_gather, List.replicate, sForV_eq, el, endD]
    | some x =>
      simp only [endD] at el
      rw [Option.toList, addN_append, addN_one]
      by_cases q : x ∈ addN b (fs.flatMap fun f => rvs f.2)
      · simp (decide := true) -implicitDefEqProofs [runB_eq, u_gather, List.replicate, sForV_eq, el, endD, notin1, q]
      · have lr : (fs.flatMap fun f => rvs f.2).length + 1 ≤ syms (.rcd fs (some x)) := by
          have := rvs_len (.rcd fs (some x))
          rw [rvs_rcd, List.length_append] at this
          exact this
        have l2 := addN_len (fs.flatMap fun f => rvs f.2) b
        simp (decide := true) -implicitDefEqProofs [runB_eq, u_gather, List.replicate, sForV_eq, el, endD, notin1, q, kMt1_eq (vst_1 st _ _), app1 st (addN a (fs.flatMap fun f => tvs f.2)) (addN b (fs.flatMap fun f => rvs f.2)) x (by omega)]
theorem den_variables (k : Nat) (ds : List D) (st : Sto) : den (k + 1) 3 ds st = runB (u_variables (den k) ini) 3 ds st := rfl
theorem variables_ok (t : Ty) (k : Nat) (st : Sto) (h : high t ≤ k) (hs : syms t ≤ 1000000) :
    den (k + 1) 3 [enc t] st = .ok (.tup [.obj st.length, .obj (st.length + 1)]) (vst st (addN [] (tvs t)) (addN [] (rvs t))) := by
  have e := gather_ok st t k [] [] h (by simpa using hs) (by simpa using hs)
  have e0 : st ++ [MO.lst []] ++ [MO.lst []] = vst st [] [] := by simp [vst]
  have l0 : (st ++ [MO.lst []]).length = st.length + 1 := by simp
  rw [den_variables]
  simp (decide := true) -implicitDefEqProofs [runB_eq, u_variables, List.replicate, -List.append_assoc, -List.length_append, l0, e0, e]
/-! ### substitute -/
theorem den_substitute (k : Nat) (ds : List D) (st : Sto) : den (k + 1) 4 ds st = runB (u_substitute (den k) ini) 8 ds st := rfl
/-- the dict of a substitution stands at i -/
structure IAt (st : Sto) (i : Nat) (l : List (Str × Ty)) : Prop where
  ex : st[i]? = some (.dic (encI l)) ∨ st[i]? = some (.lck (encI l))
theorem IAt.look {st : Sto} {i : Nat} {l : List (Str × Ty)} (h : IAt st i l) (x : Str) : dictLook st (.obj i) (.str x) = some ((lookI l x).map enc) := by
  rcases h.ex with h | h
  · rw [look_dic h, valD_encI]
  · rw [look_lck h, valD_encI]
theorem substitute_ok {st : Sto} {i : Nat} {l : List (Str × Ty)} (hI : IAt st i l) {N : Nat} (hN : ∀ x u, lookI l x = some u → syms u ≤ N) : ∀ (t : Ty) (k : Nat), RowsOk (lookI l) t → high t ≤ k → syms t + N ≤ 1000000 →
    den k 4 [enc t, .obj i] st = .ok (enc (sub (lookI l) t)) st := by
  have dk := isDk_of (hI.look "")
  intro t
  induction t using Ty.ind with
  | h1 =>
    intro k _ h hs
    obtain ⟨k, rfl⟩ : ∃ j, k = j + 1 := ⟨k - 1, by simp only [high] at h; omega⟩
    rw [den_substitute]
    simp (decide := true) -implicitDefEqProofs [runB_eq, u_substitute, List.replicate, enc, sub]
  | h2 =>
    intro k _ h hs
    obtain ⟨k, rfl⟩ : ∃ j, k = j + 1 := ⟨k - 1, by simp only [high] at h; omega⟩
    rw [den_substitute]
    simp (decide := true) -implicitDefEqProofs [runB_eq, u_substitute, List.replicate, enc, sub]
  | h3 x =>
    intro k _ h hs
    obtain ⟨k, rfl⟩ : ∃ j, k = j + 1 := ⟨k - 1, by simp only [high] at h; omega⟩
    rw [den_substitute]
    have e : ((lookI l x).map enc).getD (.tup [.str "var", .str x]) = enc ((lookI l x).getD (.var x)) := by cases lookI l x <;> rfl
    simp (decide := true) -implicitDefEqProofs [runB_eq, u_substitute, List.replicate, enc, sub, kGet1_eq dk, kGet3_eq (hI.look x), e]
  | h4 a b ia ib =>
    intro k hr h hs
    obtain ⟨k, rfl⟩ : ∃ j, k = j + 1 := ⟨k - 1, by simp only [high] at h; omega⟩
    simp only [high] at h
    simp only [syms] at hs
    have h1 := ia k (rowsOk_l hr) (by omega) (by omega)
    have h2 := ib k (rowsOk_r hr) (by omega) (by omega)
    rw [den_substitute]
    simp (decide := true) -implicitDefEqProofs [runB_eq, u_substitute, List.replicate, enc, sub, h1, h2]
  | h5 fs e ih =>
    intro k hr h hs
    obtain ⟨k, rfl⟩ : ∃ j, k = j + 1 := ⟨k - 1, by simp only [high] at h; omega⟩
    have hl := fs_len (fs := fs) (e := e)
    have lc := lcD_on (g := gTupD 2 (gConsD (gN 6) (gConsD (gN 7) gNilD))) (t := bYes) (e := fTup (aCons (fV 6) (aCons (fCallN 2 (den k 4) (aCons (fV 7) (aCons (fV 1) aNil))) aNil))) (τ := [some (.tup [.str "record", .tup (fs.map itD), endD e]), some (.obj i), none, none, none, none, none, none]) (st := st)
      itD (fun f => itD (f.1, sub (lookI l) f.2)) fs (fun f hf => by
        have h1 := ih f hf k (rowsOk_f hr hf) (fs_high h hf) (by have := fs_syms (e := e) hf; omega)
        simp -implicitDefEqProofs [lcOne, itD, h1]) (by omega)
    have es : (fs.map fun f => itD (f.1, sub (lookI l) f.2)) = (subs (lookI l) fs).map itD := by rw [subs_map, List.map_map]; rfl
    rw [den_substitute, enc_rcd]
    cases e with
    | none =>
      simp only [endD] at lc
      have nn := notInN_non (hI.look "")
      simp (decide := true) -implicitDefEqProofs [runB_eq, u_substitute, List.replicate, wipeT, lc, endD, nn, sub, enc_rcd, es, -List.map_map]
    | some x =>
      simp only [endD] at lc
      have nn := notInN_str (hI.look x)
      cases q : lookI l x with
      | none =>
        rw [q] at nn
        simp (decide := true) -implicitDefEqProofs [runB_eq, u_substitute, List.replicate, wipeT, lc, endD, nn, sub, q, enc_rcd, es, -List.map_map]
      | some u =>
        obtain ⟨gs, e', rfl⟩ := rowsOk_e hr u q
        rw [q] at nn
        have ix := opIx_dict (k := i) (by rcases hI.ex with h | h; exact .inl ⟨_, h⟩; exact .inr ⟨_, h⟩) (hI.look x)
        rw [q, Option.map_some, enc_rcd] at ix
        have h2 := hN x _ q
        have h3 := fs_len (fs := gs) (e := e')
        have ad := opAddA_tup (ds := (subs (lookI l) fs).map itD) (es := gs.map itD) (by rw [sizeLine_eq, List.length_map, List.length_map, subs_map, List.length_map]; omega) st
        simp (decide := true) -implicitDefEqProofs [runB_eq, u_substitute, List.replicate, wipeT, lc, endD, nn, sub, q, enc_rcd, es, ix, ad, -List.map_map]
end K28
set_option Elab.async false
set_option linter.all false
set_option maxHeartbeats 4000000
set_option maxRecDepth 100000
namespace K28
open PySem PySem.Spec PyProof.Rows L2 LamX DL DL.Ty
/-! ### name_of -/
theorem den_name_of (k : Nat) (ds : List D) (st : Sto) : den (k + 1) 5 ds st = runB (u_name_of (den k) ini) 2 ds st := rfl
theorem letter_at (i : Nat) (h : i < 26) (st : Sto) : opIx (.str "abcdefghijklmnopqrstuvwxyz") (.int (i : Nat)) st = .ok (.str ⟨#[97 + i]⟩) st := by
  have e : ∀ i : Fin 26, atI ("abcdefghijklmnopqrstuvwxyz" : Str).cps.toList ((i.val : Nat) : Int) = some (97 + i.val) := by decide +kernel
  have := e ⟨i, h⟩
  unfold opIx
  simp only
  rw [if_pos (show ("abcdefghijklmnopqrstuvwxyz" : Str).length ≤ sizeLine by rw [sizeLine_eq]; decide)]
  simp only at this
  rw [this]
abbrev bdName : FS := (sSeq (sAug 0 (· - ·) (fC (.int 1)))
  (sSeq (sSet 1 (fOp opAddA (fOp opIx (fC (.str "abcdefghijklmnopqrstuvwxyz")) (fOp opMod (fV 0) (fC (.int 26)))) (fV 1)))
  (sSet 0 (fOp opDiv (fV 0) (fC (.int 26))))))
theorem name_loop (st : Sto) : ∀ (n fuel : Nat) (acc : List Nat), n + 1 < fuel → n < 16000000 → acc.length + n ≤ 16000000 →
    whileD (bOf (fOp opGt (fV 0) (fC (.int 0)))) bdName fuel [some (.int ((n + 1 : Nat) : Int)), some (.str ⟨acc.toArray⟩)] st = .ok (.nx [some (.int 0), some (.str ⟨(nameL n ++ acc).toArray⟩)]) st := by
  intro n
  induction n using Nat.strongRecOn with
  | ind n ih =>
    intro fuel acc hf hn hl
    obtain ⟨fuel, rfl⟩ : ∃ f, fuel = f + 1 := ⟨fuel - 1, by omega⟩
    have g0 : decide ((0 : Int) < ((n + 1 : Nat) : Int)) = true := decide_eq_true (by omega)
    have m0 : opMod (.int (((n + 1 : Nat) : Int) - 1)) (.int 26) st = .ok (.int ((n % 26 : Nat) : Int)) st := by
      rw [opMod_pos (by decide)]; congr 2; omega
    have d0 : opDiv (.int (((n + 1 : Nat) : Int) - 1)) (.int 26) st = .ok (.int ((n / 26 : Nat) : Int)) st := by
      rw [opDiv_pos (by decide)]; congr 2; omega
    have l0 := letter_at (n % 26) (by omega) st
    have c0 : opAddA (.str ⟨#[97 + n % 26]⟩) (.str ⟨acc.toArray⟩) st = .ok (.str ⟨((97 + n % 26) :: acc).toArray⟩) st := by
      rw [opAddA_str (by rw [sizeLine_eq]; show 1 + acc.toArray.size ≤ _; rw [List.size_toArray]; omega)]
      congr 2
      refine str_ext ?_
      show (#[97 + n % 26] ++ acc.toArray).toList = _
      simp
    have body : bdName [some (.int ((n + 1 : Nat) : Int)), some (.str ⟨acc.toArray⟩)] st = .ok (.nx [some (.int ((n / 26 : Nat) : Int)), some (.str ⟨((97 + n % 26) :: acc).toArray⟩)]) st := by
      simp only [sSeq_eq, sAug, List.getElem?_cons_zero, fC_eq, R.bind]
      simp -implicitDefEqProofs only [List.set_cons_zero, kSeq_nx, sSeq_eq, sSet_eq, fOp_eq, fC_eq, bind_ok, kOp1_eq, fV_0, fV_1, kOp2_eq, m0, d0, l0, c0, kSet_eq, List.set_cons_succ]
    rw [whileD_succ]
    simp -implicitDefEqProofs only [bOf_eq, fOp_eq, fV_0, bind_ok, kOp1_eq, fC_eq, kOp2_eq, opGt_int, kBof_bl, g0, kWhile_t, body, kTurn2_nx]
    rw [nameL]
    by_cases h : n < 26
    · have z : n / 26 = 0 := Nat.div_eq_of_lt h
      obtain ⟨fuel, rfl⟩ : ∃ f, fuel = f + 1 := ⟨fuel - 1, by omega⟩
      rw [if_pos h, z, whileD_succ, Nat.mod_eq_of_lt h]
      simp -implicitDefEqProofs
    · rw [if_neg h]
      have := ih (n / 26 - 1) (by omega) fuel ((97 + n % 26) :: acc) (by omega) (by omega) (by simp only [List.length_cons]; omega)
      rw [show n / 26 - 1 + 1 = n / 26 by omega] at this
      rw [this]
      simp
theorem name_of_ok (n k : Nat) (st : Sto) (h : n < 900000) : den (k + 1) 5 [.int (n : Nat)] st = .ok (.str (nameS n)) st := by
  have e := name_loop st n forMost [] (by unfold forMost; omega) (by omega) (by simp; omega)
  have e0 : (.str ⟨([] : List Nat).toArray⟩ : D) = .str "" := rfl
  rw [e0] at e
  rw [den_name_of]
  have e1 : ((n + 1 : Nat) : Int) = (n : Int) + 1 := by omega
  rw [e1] at e
  rw [runB_eq]
  unfold u_name_of
  simp -implicitDefEqProofs only [List.map_cons, List.map_nil, List.length_cons, List.length_nil, List.replicate, List.cons_append, List.nil_append, sSeq_eq, sSet_eq, fC_eq, bind_ok, kSet_eq, List.set_cons_succ, List.set_cons_zero, kSeq_nx, sAug, List.getElem?_cons_zero, R.bind, e]
  simp -implicitDefEqProofs [nameS]
/-! ### Renaming -/
def rst (st : Sto) (d : List Str) : Sto := st ++ [.ins "Renaming" [("names", .obj (st.length + 1))], .dic (encN 0 d)]
theorem rst_0 (st : Sto) (d : List Str) : (rst st d)[st.length]? = some (.ins "Renaming" [("names", .obj (st.length + 1))]) := by simp [rst]
theorem rst_1 (st : Sto) (d : List Str) : (rst st d)[st.length + 1]? = some (.dic (encN 0 d)) := by simp [rst]
theorem rst_s (st : Sto) (d e : List Str) : (rst st d).set (st.length + 1) (.dic (encN 0 e)) = rst st e := by
  unfold rst
  rw [List.set_append, if_neg (by omega)]
  simp
theorem rst_fld (st : Sto) (d : List Str) : kFld "Renaming" "names" (.obj st.length) (rst st d) = .ok (.obj (st.length + 1)) (rst st d) := kFld_at (rst_0 st d) rfl
theorem den_new_name (k : Nat) (ds : List D) (st : Sto) : den (k + 1) 7 ds st = runB (u_Renaming__new_name (den k) ini) 2 ds st := rfl
theorem new_name_ok (st : Sto) (d : List Str) (x : Str) (k : Nat) (hk : 1 ≤ k) (hl : d.length < 900000) :
    den (k + 1) 7 [.obj st.length, .str x] (rst st d) = .ok (.str (toldN (addN d [x]) x)) (rst st (addN d [x])) := by
  obtain ⟨k, rfl⟩ : ∃ j, k = j + 1 := ⟨k - 1, by omega⟩
  rw [den_new_name, addN_one]
  have lk := look_dic (rst_1 st d) x
  have nn := opNotIn_dict' lk
  have ix := opIx_dict (.inl ⟨_, rst_1 st d⟩) lk
  by_cases q : x ∈ d
  · rw [valD_encN, if_pos q] at nn ix
    rw [if_pos q]
    simp only [Nat.zero_add] at ix
    simp -implicitDefEqProofs [runB_eq, u_Renaming__new_name, List.replicate, rst_fld, nn, ix, toldN]
  · rw [valD_encN, if_neg q] at nn
    rw [if_neg q]
    have lk2 := look_dic (rst_1 st (d ++ [x])) x
    have ix2 := opIx_dict (.inl ⟨_, rst_1 st (d ++ [x])⟩) lk2
    rw [valD_encN, if_pos (by simp)] at ix2
    simp only [Nat.zero_add] at ix2
    have ln := oLen_dic (rst_1 st d)
    rw [encN_len] at ln
    have nm := name_of_ok d.length k (rst st d) hl
    have pt := putItem_dic (rst_1 st d) (by rw [sizeLine_eq, encN_len]; omega) x (.str (nameS d.length))
    rw [putD_encN q, rst_s] at pt
    simp -implicitDefEqProofs [runB_eq, u_Renaming__new_name, List.replicate, rst_fld, nn, ln, nm, pt, ix2, toldN]
theorem den_renamed (k : Nat) (ds : List D) (st : Sto) : den (k + 1) 8 ds st = runB (u_Renaming__renamed (den k) ini) 6 ds st := rfl
theorem lookup_ren1 (v : D) : List.lookup (Str.ofString "new_name") [(Str.ofString "names", v)] = none := rfl
theorem lookup_ren2 (v : D) : List.lookup (Str.ofString "renamed") [(Str.ofString "names", v)] = none := rfl
theorem mnew (st : Sto) (d : List Str) (n : Nat) (r : Fn) (g : FA) (τ : Ti) : kMeth1 "Renaming" "new_name" n r g τ (.obj st.length) (rst st d) = (g τ (rst st d)).bind (kMeth n r τ (.obj st.length)) := kMeth1_at (rst_0 st d) rfl
theorem mren (st : Sto) (d : List Str) (n : Nat) (r : Fn) (g : FA) (τ : Ti) : kMeth1 "Renaming" "renamed" n r g τ (.obj st.length) (rst st d) = (g τ (rst st d)).bind (kMeth n r τ (.obj st.length)) := kMeth1_at (rst_0 st d) rfl
theorem mem_names_addN {t : Ty} {d : List Str} {p : Bool × Str} (hp : p ∈ occ t) : p.2 ∈ addN d (names t) := (mem_addN _ _ _).mpr (.inr (List.mem_map.mpr ⟨p, hp, rfl⟩))
theorem renamed_ok (st : Sto) : ∀ (t : Ty) (k : Nat) (d : List Str), high t + 2 ≤ k → d.length + syms t ≤ 800000 →
    den k 8 [.obj st.length, enc t] (rst st d) = .ok (enc (ren (toldN (addN d (names t))) t)) (rst st (addN d (names t))) := by
  intro t
  induction t using Ty.ind with
  | h1 =>
    intro k d h hs
    obtain ⟨k, rfl⟩ : ∃ j, k = j + 1 := ⟨k - 1, by simp only [high] at h; omega⟩
    rw [den_renamed]
    simp (decide := true) -implicitDefEqProofs [runB_eq, u_Renaming__renamed, List.replicate, enc, ren, names, occ, addN]
  | h2 =>
    intro k d h hs
    obtain ⟨k, rfl⟩ : ∃ j, k = j + 1 := ⟨k - 1, by simp only [high] at h; omega⟩
    rw [den_renamed]
    simp (decide := true) -implicitDefEqProofs [runB_eq, u_Renaming__renamed, List.replicate, enc, ren, names, occ, addN]
  | h3 x =>
    intro k d h hs
    obtain ⟨k, rfl⟩ : ∃ j, k = j + 1 := ⟨k - 1, by simp only [high] at h; omega⟩
    simp only [high] at h
    simp only [syms] at hs
    obtain ⟨k, rfl⟩ : ∃ j, k = j + 1 := ⟨k - 1, by omega⟩
    have nm := new_name_ok st d x k (by omega) (by omega)
    have e : names (.var x) = [x] := rfl
    rw [den_renamed, e]
    simp (decide := true) -implicitDefEqProofs [runB_eq, u_Renaming__renamed, List.replicate, enc, ren, mnew, nm]
  | h4 a b ia ib =>
    intro k d h hs
    obtain ⟨k, rfl⟩ : ∃ j, k = j + 1 := ⟨k - 1, by simp only [high] at h; omega⟩
    simp only [high] at h
    simp only [syms] at hs
    have la := names_len a
    have l1 := addN_len (names a) d
    have h1 := ia k d (by omega) (by omega)
    have h2 := ib k (addN d (names a)) (by omega) (by omega)
    have e : ren (toldN (addN d (names a))) a = ren (toldN (addN (addN d (names a)) (names b))) a := ren_congr fun p hp => (toldN_addN (mem_names_addN hp)).symm
    rw [den_renamed, names_fn, addN_append]
    simp (decide := true) -implicitDefEqProofs [runB_eq, u_Renaming__renamed, List.replicate, enc, ren, mren, h1, h2, e]
  | h5 fs e ih =>
    intro k d h hs
    obtain ⟨k, rfl⟩ : ∃ j, k = j + 1 := ⟨k - 1, by simp only [high] at h; omega⟩
    have hp1 := high_pos (.rcd fs e)
    have hh : high (.rcd fs e) ≤ (k - 2) + 1 := by omega
    have hl := fs_len (fs := fs) (e := e)
    have hln := names_len (.rcd fs e)
    rw [names_rcd, List.length_append] at hln
    have sub : ∀ (ys zs : List (Str × Ty)), fs = ys ++ zs → (ys.flatMap fun f => names f.2).length + (zs.map fun f => 1 + syms f.2).sum + 1 ≤ syms (.rcd fs e) := fun ys zs ef => by
      simp only [syms, symss_sum, ef, List.map_append, List.sum_append]
      have : ∀ l : List (Str × Ty), (l.flatMap fun f => names f.2).length ≤ (l.map fun f => 1 + syms f.2).sum := fun l => by
        induction l with
        | nil => exact Nat.le_refl _
        | cons a r ihr =>
          have h1 := names_len a.2
          simp only [List.flatMap_cons, List.length_append, List.map_cons, List.sum_cons]; omega
      have := this ys
      split <;> omega
    obtain ⟨DD, hDD⟩ : ∃ DD, DD = addN d (fs.flatMap fun f => names f.2) := ⟨_, rfl⟩
    have lc := lcD_run (g := gTupD 2 (gConsD (gN 4) (gConsD (gN 5) gNilD))) (t := bYes) (e := fTup (aCons (fV 4) (aCons (fMethN "Renaming" "renamed" 2 (den k 8) (fV 0) (aCons (fV 5) aNil)) aNil)))
      (τ := [some (.obj st.length), some (.tup [.str "record", .tup (fs.map itD), endD e]), none, none, none, none]) (fin := finLv) itD (fun f => itD (f.1, ren (toldN DD) f.2)) (fun ys => rst st (addN d (ys.flatMap fun f => names f.2))) fs [] []
      (fun ys f zs ef _ => by
        rw [List.nil_append] at ef
        have hf : f ∈ fs := by rw [ef]; simp
        have s1 := sub ys (f :: zs) ef
        simp only [List.map_cons, List.sum_cons] at s1
        have l1 := addN_len (ys.flatMap fun f => names f.2) d
        have h1 := ih f hf k (addN d (ys.flatMap fun f => names f.2)) (by have := fs_high hh hf; omega) (by omega)
        have e2 : ren (toldN (addN (addN d (ys.flatMap fun f => names f.2)) (names f.2))) f.2 = ren (toldN DD) f.2 := ren_congr fun p hp => by
          rw [hDD, ef, List.flatMap_append, addN_append, List.flatMap_cons, addN_append]
          exact (toldN_addN (mem_names_addN hp)).symm
        rw [e2] at h1
        rw [List.flatMap_append, addN_append]
        simp -implicitDefEqProofs [lcOne, itD, mren, h1]) (by rw [sizeLine_eq, List.length_nil]; omega)
    rw [List.flatMap_nil, addN_nil, List.nil_append, List.nil_append, ← hDD, finLv_eq] at lc
    have es : (fs.map fun f => itD (f.1, ren (toldN DD) f.2)) = (rens (toldN DD) fs).map itD := by rw [rens_map, List.map_map]; rfl
    rw [es] at lc
    rw [den_renamed, names_rcd, addN_append, ← hDD, enc_rcd]
    cases e with
    | none =>
      simp only [endD] at lc
      rw [Option.toList_none, addN_nil]
      simp (decide := true) -implicitDefEqProofs [runB_eq, u_Renaming__renamed, List.replicate, wipeT, lc, endD, ren, enc_rcd]
    | some x =>
      simp only [endD] at lc
      have l2 := addN_len (fs.flatMap fun f => names f.2) d
      rw [← hDD] at l2
      obtain ⟨k, rfl⟩ : ∃ j, k = j + 1 := ⟨k - 1, by simp only [high] at h; omega⟩
      have nm := new_name_ok st DD x k (by simp only [high] at h; omega) (by simp only [Option.toList_some, List.length_singleton] at hln; omega)
      rw [Option.toList_some]
      have er : rens (toldN DD) fs = rens (toldN (addN DD [x])) fs := by
        rw [rens_map, rens_map]
        refine List.map_congr_left fun f hf => ?_
        rw [ren_congr fun p hp => (toldN_addN (l := [x]) ?_).symm]
        rw [hDD]
        exact (mem_addN _ _ _).mpr (.inr (List.mem_flatMap.mpr ⟨f, hf, List.mem_map.mpr ⟨p, hp, rfl⟩⟩))
      rw [er] at lc
      simp (decide := true) -implicitDefEqProofs [runB_eq, u_Renaming__renamed, List.replicate, wipeT, lc, endD, ren, enc_rcd, mnew, nm]
theorem den_told (k : Nat) (ds : List D) (st : Sto) : den (k + 1) 9 ds st = runB (u_told (den k) ini) 3 ds st := rfl
theorem ini_renaming (st : Sto) : ini 6 [.obj st.length] (st ++ [.ins "Renaming" []]) = .ok .non (rst st []) := by
  have e : ini 6 [.obj st.length] (st ++ [.ins "Renaming" []]) = runB (u_Renaming____init__ (fun _ _ _ => .bad) (fun _ _ _ => .bad)) 1 [.obj st.length] (st ++ [.ins "Renaming" []]) := rfl
  have h0 : (st ++ [MO.ins "Renaming" []] ++ [MO.dic []])[st.length]? = some (.ins "Renaming" []) := by simp
  have pa := putAttr_at (y := "names") (d := .obj (st ++ [MO.ins "Renaming" []]).length) h0 (by decide)
  have s0 : (st ++ [MO.ins "Renaming" []] ++ [MO.dic []]).set st.length (.ins "Renaming" (putFD "names" (.obj (st ++ [MO.ins "Renaming" []]).length) [])) = rst st [] := by
    simp [rst, putFD, encN]
  rw [s0] at pa
  rw [e]
  simp -implicitDefEqProofs [runB_eq, u_Renaming____init__, List.replicate, pa, -List.append_assoc, -List.length_append]
theorem told_ok (ts : List Ty) (k : Nat) (st : Sto) (hh : ∀ t, t ∈ ts → high t + 3 ≤ k) (hs : (ts.map syms).sum ≤ 500000) (hl : ts.length ≤ 500000) :
    den (k + 1) 9 [.tup (ts.map enc)] st = .ok (.tup ((told ts).map enc)) (rst st (addN [] (namesL (ts.map norm)))) := by
  obtain ⟨DD, hDD⟩ : ∃ DD, DD = addN [] (namesL (ts.map norm)) := ⟨_, rfl⟩
  have bound : ∀ l : List Ty, (namesL (l.map norm)).length ≤ (l.map syms).sum := fun l => by
    induction l with
    | nil => exact Nat.le_refl _
    | cons a r ihr =>
      have h1 := names_len (norm a)
      rw [syms_norm] at h1
      unfold namesL at ihr ⊢
      simp only [List.flatMap_cons, List.length_append, List.map_cons, List.sum_cons]; omega
  have lc := lcD_run (g := gN 2) (t := bYes) (e := fMethN "Renaming" "renamed" 2 (den k 8) (fV 1) (aCons (fCallN 1 (den k 0) (aCons (fV 2) aNil)) aNil))
    (τ := [some (.tup (ts.map enc)), some (.obj st.length), none]) (fin := finLv) enc (fun t => enc (ren (toldN DD) (norm t))) (fun ys => rst st (addN [] (namesL (ys.map norm)))) ts [] []
    (fun ys t zs ef _ => by
      rw [List.nil_append] at ef
      have ht : t ∈ ts := by rw [ef]; simp
      have hst : (ys.map syms).sum + syms t ≤ 500000 := by
        rw [ef, List.map_append, List.sum_append, List.map_cons, List.sum_cons] at hs; omega
      have h0 := normal_ok t k (rst st (addN [] (namesL (ys.map norm)))) (by have := hh t ht; omega) (by omega)
      have l1 := addN_len (namesL (ys.map norm)) []
      have l2 := bound ys
      rw [List.length_nil] at l1
      have h1 := renamed_ok st (norm t) k (addN [] (namesL (ys.map norm))) (by rw [high_norm]; have := hh t ht; omega) (by rw [syms_norm]; omega)
      have e2 : ren (toldN (addN (addN [] (namesL (ys.map norm))) (names (norm t)))) (norm t) = ren (toldN DD) (norm t) := ren_congr fun p hp => by
        have : namesL (ts.map norm) = namesL (ys.map norm) ++ (names (norm t) ++ namesL (zs.map norm)) := by
          unfold namesL; rw [ef]; simp
        rw [hDD, this, addN_append, addN_append]
        exact (toldN_addN (mem_names_addN hp)).symm
      rw [e2] at h1
      have e3 : namesL ((ys ++ [t]).map norm) = namesL (ys.map norm) ++ names (norm t) := by unfold namesL; simp
      rw [e3, addN_append]
      simp -implicitDefEqProofs [lcOne, mren, h0, h1]) (by rw [sizeLine_eq, List.length_nil]; omega)
  have e0 : addN [] (namesL (([] : List Ty).map norm)) = [] := rfl
  rw [e0, List.nil_append, List.nil_append, ← hDD, finLv_eq] at lc
  rw [← hDD]
  have et : (told ts).map enc = ts.map fun t => enc (ren (toldN DD) (norm t)) := by
    unfold told
    rw [List.map_map, List.map_map, ← hDD]; rfl
  rw [den_told, et]
  simp (decide := true) -implicitDefEqProofs [runB_eq, u_told, List.replicate, wipeT, lc, ini_renaming]
end K28
set_option Elab.async false
set_option linter.all false
set_option maxHeartbeats 4000000
set_option maxRecDepth 100000
namespace K28
open PySem PySem.Spec PyProof.Rows L2 LamX DL DL.Ty
/-! ### the draws -/
theorem dr_ok {st : Sto} {b : Nat} (B : Box st b) (k : Nat) (m : Int) (hm : 0 < m) : ∃ r st', den (k + 1) 12 [.obj b, .int m] st = .ok (.int r) st' ∧ 0 ≤ r ∧ r < m ∧ Kp b st st' ∧ st'.length = st.length := by
  obtain ⟨r, st', h, h0, h1, h2, h3, h4⟩ := draw_ok B hm
  exact ⟨r, st', h, h0, h1, ⟨h2, Nat.le_of_eq h3.symm, fun i _ n => h4 i n⟩, h3⟩
theorem den_cell (k : Nat) (ds : List D) (st : Sto) : den (k + 1) 10 ds st = runB (u__law_cell (den k) ini) 2 ds st := rfl
theorem cell_ok (ns : List Int) (k i : Nat) (st : Sto) : ∃ c : Int, den (k + 1) 10 [.kl (ns.map D.int), .int (i : Nat)] st = .ok (.int c) st := by
  have hl : ∀ st, oLen [.kl (ns.map D.int)] st = .ok (.int (ns.length : Nat)) st := fun st => by
    have : oLen [.kl (ns.map D.int)] st = .ok (.int ((ns.map D.int).length : Nat)) st := rfl
    rw [this, List.length_map]
  by_cases z : i < ns.length
  · refine ⟨ns[i], ?_⟩
    have hat : atI (ns.map D.int) (i : Int) = some (.int ns[i]) := by rw [DL.atI_nat, List.getElem?_map, List.getElem?_eq_getElem z]; rfl
    rw [den_cell]
    simp -implicitDefEqProofs [runB_eq, u__law_cell, List.replicate, hl, z, hat]
  · refine ⟨0, ?_⟩
    rw [den_cell]
    simp -implicitDefEqProofs [runB_eq, u__law_cell, List.replicate, hl, z]
theorem dig_ok (ns : List Int) (k n : Nat) (hn : n ≤ 1000) (st : Sto) : ∃ acc : List Int, den (k + 2) 11 [.kl (ns.map D.int), .int 0, .int (n : Nat)] st = .ok (.obj st.length) (st ++ [.lst (acc.map D.int)]) :=
  digits_ok (FC := den (k + 1) 10) (scr := .kl (ns.map D.int)) (cell_ok ns k) 0 n (by decide) hn st
end K28
set_option Elab.async false
set_option linter.all false
set_option maxHeartbeats 4000000
set_option maxRecDepth 100000
namespace K28
open PySem PySem.Spec PyProof.Rows L2 LamX DL DL.Ty
/-! ### drawn types -/
def tvN : List Str := ["a", "b", "zz", "c"]
def rvN : List Str := ["r", "s", "q"]
def lbN : List Str := ["x", "y", "z", "number"]
def DT (t : Ty) : Prop := All (· ∈ tvN) (· ∈ rvN) (· ∈ lbN) t
def leafT : List Ty := [.num, .tru, .var "a", .var "b", .var "zz", .var "c"]
theorem leafT_ok {t : Ty} (h : t ∈ leafT) : DT t ∧ high t = 1 ∧ syms t = 1 := by
  simp only [leafT, List.mem_cons, List.mem_nil_iff, or_false] at h
  rcases h with rfl | rfl | rfl | rfl | rfl | rfl
  · exact ⟨trivial, rfl, rfl⟩
  · exact ⟨trivial, rfl, rfl⟩
  · exact ⟨(by decide : ("a" : Str) ∈ tvN), rfl, rfl⟩
  · exact ⟨(by decide : ("b" : Str) ∈ tvN), rfl, rfl⟩
  · exact ⟨(by decide : ("zz" : Str) ∈ tvN), rfl, rfl⟩
  · exact ⟨(by decide : ("c" : Str) ∈ tvN), rfl, rfl⟩
def endN : List (Option Str) := [none, some "r", some "s", some "q"]
theorem endN_ok {e : Option Str} (h : e ∈ endN) : ∀ x, e = some x → x ∈ rvN := by
  simp only [endN, List.mem_cons, List.mem_nil_iff, or_false] at h
  rcases h with rfl | rfl | rfl | rfl <;> intro x hx <;> cases hx <;> decide
/-- how many symbols -/
def sy : Nat → Nat
  | 0 => 1
  | n + 1 => 5 + 3 * sy n
theorem sy_pos (n : Nat) : 1 ≤ sy n := by cases n <;> simp only [sy] <;> omega
theorem den_type (k : Nat) (ds : List D) (st : Sto) : den (k + 1) 13 ds st = runB (u__law_type (den k) ini) 3 ds st := rfl
theorem den_record (k : Nat) (ds : List D) (st : Sto) : den (k + 1) 14 ds st = runB (u__law_record (den k) ini) 4 ds st := rfl
def TypeOk (n k : Nat) : Prop := ∀ (st : Sto) (b : Nat), Box st b → ∃ t st', den k 13 [.obj b, .int (n : Nat)] st = .ok (enc t) st' ∧ DT t ∧ high t ≤ n + 1 ∧ syms t ≤ sy n ∧ Kp b st st'
theorem record_ok {n k : Nat} (h : TypeOk n (k + 1)) (z : Int) (hz : z - 1 = (n : Nat)) (st : Sto) (b : Nat) (B : Box st b) : ∃ fs e st', den (k + 2) 14 [.obj b, .int z] st = .ok (enc (.rcd fs e)) st' ∧ DT (.rcd fs e) ∧ high (.rcd fs e) ≤ n + 2 ∧ syms (.rcd fs e) ≤ sy (n + 1) ∧ Kp b st st' := by
  obtain ⟨r, s1, h1, r0, r1, k1, _⟩ := dr_ok B k 4 (by decide)
  obtain ⟨acc', s2, h2, P2, l2⟩ := lcD_inv (g := gN 3) (t := bYes) (e := fTup (aCons (fOp opIx (fLv (aCons (fC (.str "x")) (aCons (fC (.str "y")) (aCons (fC (.str "z")) (aCons (fC (.str "number")) aNil))))) (fCallN 2 (den (k + 1) 12) (aCons (fV 0) (aCons (fC (.int 4)) aNil)))) (aCons (fCallN 2 (den (k + 1) 13) (aCons (fV 0) (aCons (fOp opSub (fV 1) (fC (.int 1))) aNil))) aNil)))
    (τ := [some (.obj b), some (.int z), none, none]) (fin := finLv) (P := fun acc st' => ∃ fs : List (Str × Ty), acc = fs.map itD ∧ (∀ f, f ∈ fs → f.1 ∈ lbN ∧ DT f.2 ∧ high f.2 ≤ n + 1 ∧ syms f.2 ≤ sy n) ∧ Kp b st st')
    (runD 0 r.toNat) [] s1 ⟨[], rfl, (fun f hf => by cases hf), k1⟩ (by rw [runD_len, List.length_nil]; omega) (by
      intro d hd acc s hP
      obtain ⟨fs, rfl, hf, ks⟩ := hP
      obtain ⟨q, s3, h3, q0, q1, k3, _⟩ := dr_ok ks.box k 4 (by decide)
      obtain ⟨l, hl, hp⟩ := pickI (ds := [.str "x", .str "y", .str "z", .str "number"]) q0 (by simpa using q1) s3
      obtain ⟨t, s4, h4, t1, t2, t3, k4⟩ := h s3 b k3.box
      obtain ⟨x, hx, rfl⟩ : ∃ x, x ∈ lbN ∧ l = .str x := by
        simp only [List.mem_cons, List.mem_nil_iff, or_false] at hl
        rcases hl with rfl | rfl | rfl | rfl <;> exact ⟨_, by decide, rfl⟩
      refine ⟨itD (x, t), s4, ?_, fs ++ [(x, t)], by rw [List.map_append]; rfl, ?_, (ks.trans k3).trans k4⟩
      · simp -implicitDefEqProofs [lcOne, h3, hp, hz, h4, itD]
      · intro f hf2
        rcases List.mem_append.mp hf2 with hf2 | hf2
        · exact hf f hf2
        · rw [List.mem_singleton.mp hf2]; exact ⟨hx, t1, t2, t3⟩)
  obtain ⟨fs, rfl, hf, k2⟩ := P2
  rw [runD_len, List.length_map, List.length_nil] at l2
  obtain ⟨q, s3, h3, q0, q1, k3, _⟩ := dr_ok k2.box k 4 (by decide)
  obtain ⟨l, hl, hp⟩ := pickI (ds := [.non, .str "r", .str "s", .str "q"]) q0 (by simpa using q1) s3
  obtain ⟨e, he, rfl⟩ : ∃ e, e ∈ endN ∧ l = endD e := by
    simp only [List.mem_cons, List.mem_nil_iff, or_false] at hl
    rcases hl with rfl | rfl | rfl | rfl
    · exact ⟨none, by decide, rfl⟩
    · exact ⟨some "r", by decide, rfl⟩
    · exact ⟨some "s", by decide, rfl⟩
    · exact ⟨some "q", by decide, rfl⟩
  refine ⟨fs, e, s3, ?_, ⟨alls_iff.mpr fun f h => ⟨(hf f h).1, (hf f h).2.1⟩, endN_ok he⟩, ?_, ?_, k2.trans k3⟩
  · have sm : smallI r = true := by unfold smallI; rw [Bool.and_eq_true, decide_eq_true_eq, decide_eq_true_eq]; omega
    rw [finLv_eq] at h2
    rw [den_record, enc_rcd]
    simp -implicitDefEqProofs [runB_eq, u__law_record, List.replicate, h1, kRng1_eq sm, wipeT, h2, h3, hp]
  · simp only [high]
    exact Nat.succ_le_succ (highs_le.mpr fun f h => (hf f h).2.2.1)
  · simp only [syms, symss_sum, sy]
    have : ∀ l : List (Str × Ty), (∀ f, f ∈ l → syms f.2 ≤ sy n) → (l.map fun f => 1 + syms f.2).sum ≤ l.length * (1 + sy n) := fun l => by
      induction l with
      | nil => intro _; simp
      | cons a r ih =>
        intro hh
        have h1 := hh a List.mem_cons_self
        have h2 := ih fun f hf => hh f (List.mem_cons_of_mem _ hf)
        simp only [List.map_cons, List.sum_cons, List.length_cons, Nat.add_mul, Nat.one_mul] at h2 ⊢
        omega
    have h1 := this fs fun f h => (hf f h).2.2.2
    have h2 : fs.length * (1 + sy n) ≤ 3 * (1 + sy n) := Nat.mul_le_mul_right _ (by omega)
    split <;> omega
theorem type_ok : ∀ (n k : Nat), 2 * n + 2 ≤ k → TypeOk n k
  | 0, k, hk => by
    intro st b B
    obtain ⟨k, rfl⟩ : ∃ j, k = j + 2 := ⟨k - 2, by omega⟩
    obtain ⟨r, s1, h1, r0, r1, k1, _⟩ := dr_ok B k 8 (by decide)
    obtain ⟨q, s3, h3, q0, q1, k3, _⟩ := dr_ok k1.box k 6 (by decide)
    obtain ⟨l, hl, hp⟩ := pickI (ds := [.tup [.str "number"], .tup [.str "truth"], .tup [.str "var", .str "a"], .tup [.str "var", .str "b"], .tup [.str "var", .str "zz"], .tup [.str "var", .str "c"]]) q0 (by simpa using q1) s3
    obtain ⟨t, ht, rfl⟩ : ∃ t, t ∈ leafT ∧ l = enc t := by
      simp only [List.mem_cons, List.mem_nil_iff, or_false] at hl
      rcases hl with rfl | rfl | rfl | rfl | rfl | rfl
      · exact ⟨.num, by simp [leafT], rfl⟩
      · exact ⟨.tru, by simp [leafT], rfl⟩
      · exact ⟨.var "a", by simp [leafT], rfl⟩
      · exact ⟨.var "b", by simp [leafT], rfl⟩
      · exact ⟨.var "zz", by simp [leafT], rfl⟩
      · exact ⟨.var "c", by simp [leafT], rfl⟩
    obtain ⟨t1, t2, t3⟩ := leafT_ok ht
    refine ⟨t, s3, ?_, t1, by omega, by simp only [sy]; omega, k1.trans k3⟩
    rw [den_type]
    simp -implicitDefEqProofs [runB_eq, u__law_type, List.replicate, h1, h3, hp]
  | n + 1, k, hk => by
    intro st b B
    obtain ⟨k, rfl⟩ : ∃ j, k = j + 4 := ⟨k - 4, by omega⟩
    have ih1 := type_ok n (k + 3) (by omega)
    have ih2 := type_ok n (k + 2) (by omega)
    have sp := sy_pos n
    obtain ⟨r, s1, h1, r0, r1, k1, _⟩ := dr_ok B (k + 2) 8 (by decide)
    obtain ⟨z, hz⟩ : ∃ z : Int, z = ((n + 1 : Nat) : Int) := ⟨_, rfl⟩
    have nz : ¬ (z = 0) := by omega
    have e1 : z - 1 = (n : Nat) := by omega
    rw [← hz]
    rw [den_type]
    by_cases c1 : r < 3
    · obtain ⟨q, s3, h3, q0, q1, k3, _⟩ := dr_ok k1.box (k + 2) 6 (by decide)
      obtain ⟨l, hl, hp⟩ := pickI (ds := [.tup [.str "number"], .tup [.str "truth"], .tup [.str "var", .str "a"], .tup [.str "var", .str "b"], .tup [.str "var", .str "zz"], .tup [.str "var", .str "c"]]) q0 (by simpa using q1) s3
      obtain ⟨t, ht, rfl⟩ : ∃ t, t ∈ leafT ∧ l = enc t := by
        simp only [List.mem_cons, List.mem_nil_iff, or_false] at hl
        rcases hl with rfl | rfl | rfl | rfl | rfl | rfl
        · exact ⟨.num, by simp [leafT], rfl⟩
        · exact ⟨.tru, by simp [leafT], rfl⟩
        · exact ⟨.var "a", by simp [leafT], rfl⟩
        · exact ⟨.var "b", by simp [leafT], rfl⟩
        · exact ⟨.var "zz", by simp [leafT], rfl⟩
        · exact ⟨.var "c", by simp [leafT], rfl⟩
      obtain ⟨t1, t2, t3⟩ := leafT_ok ht
      refine ⟨t, s3, ?_, t1, by omega, by simp only [sy]; omega, k1.trans k3⟩
      simp -implicitDefEqProofs [runB_eq, u__law_type, List.replicate, h1, nz, c1, h3, hp]
    · by_cases c2 : r < 5
      · obtain ⟨t, s3, h3, t1, t2, t3, k3⟩ := ih1 s1 b k1.box
        obtain ⟨u, s4, h4, u1, u2, u3, k4⟩ := ih1 s3 b k3.box
        refine ⟨.fn t u, s4, ?_, ⟨t1, u1⟩, by simp only [high]; omega, by simp only [syms, sy]; omega, (k1.trans k3).trans k4⟩
        simp -implicitDefEqProofs [runB_eq, u__law_type, List.replicate, h1, nz, c1, c2, e1, h3, h4, enc]
      · obtain ⟨fs, e, s3, h3, t1, t2, t3, k3⟩ := record_ok ih2 z e1 s1 b k1.box
        refine ⟨.rcd fs e, s3, ?_, t1, t2, t3, k1.trans k3⟩
        simp -implicitDefEqProofs [runB_eq, u__law_type, List.replicate, h1, nz, c1, c2, h3]
end K28
set_option Elab.async false
set_option linter.all false
set_option maxHeartbeats 4000000
set_option maxRecDepth 100000
namespace K28
open PySem PySem.Spec PyProof.Rows L2 LamX DL DL.Ty
/-! ### drawn substitutions -/
theorem IAt.app {st : Sto} {i : Nat} {l : List (Str × Ty)} (h : IAt st i l) (ms : Sto) : IAt (st ++ ms) i l := by
  rcases h.ex with h | h
  · exact ⟨.inl (by rw [List.getElem?_append_left (at_lt h)]; exact h)⟩
  · exact ⟨.inr (by rw [List.getElem?_append_left (at_lt h)]; exact h)⟩
/-- what the images are -/
def NI (l : List (Str × Ty)) (h n : Nat) : Prop := ∀ p, p ∈ l → (p.1 ∈ rvN → ∃ gs e, p.2 = .rcd gs e) ∧ DT p.2 ∧ high p.2 ≤ h ∧ syms p.2 ≤ n
theorem ni_look {l : List (Str × Ty)} {h n : Nat} (H : NI l h n) {x : Str} {u : Ty} (e : lookI l x = some u) : (x ∈ rvN → ∃ gs e, u = .rcd gs e) ∧ DT u ∧ high u ≤ h ∧ syms u ≤ n := H _ (lookP_mem e)
theorem dt_row {t : Ty} (h : DT t) {x : Str} (hx : (true, x) ∈ occ t) : x ∈ rvN := (all_occ h _ hx).2 rfl
theorem dt_var {t : Ty} (h : DT t) {x : Str} (hx : (false, x) ∈ occ t) : x ∈ tvN := (all_occ h _ hx).1 rfl
theorem rows_ok {l : List (Str × Ty)} {h n : Nat} (H : NI l h n) {t : Ty} (ht : DT t) : RowsOk (lookI l) t := fun x hx u e => (ni_look H e).1 (dt_row ht hx)
theorem dt_sub {l : List (Str × Ty)} {h n : Nat} (H : NI l h n) {t : Ty} (ht : DT t) : DT (sub (lookI l) t) := all_sub (fun x u e => (ni_look H e).2.1) ht
theorem tv_ok : ∀ x, x ∈ tvN → sOk x := by
  intro x hx
  simp only [tvN, List.mem_cons, List.mem_nil_iff, or_false] at hx
  rcases hx with rfl | rfl | rfl | rfl <;> (unfold sOk; decide +kernel)
theorem rv_ok : ∀ x, x ∈ rvN → sOk x := by
  intro x hx
  simp only [rvN, List.mem_cons, List.mem_nil_iff, or_false] at hx
  rcases hx with rfl | rfl | rfl <;> (unfold sOk; decide +kernel)
theorem lb_ok : ∀ x, x ∈ lbN → sOk x := by
  intro x hx
  simp only [lbN, List.mem_cons, List.mem_nil_iff, or_false] at hx
  rcases hx with rfl | rfl | rfl | rfl <;> (unfold sOk; decide +kernel)
theorem tv_rv : ∀ x, x ∈ tvN → x ∉ rvN := by decide +kernel
theorem dt_ok {t : Ty} (h : DT t) : All sOk sOk sOk t := all_mono tv_ok rv_ok lb_ok h
theorem kp_set {st s : Sto} {b m : Nat} {kvs : List (Key × D)} (k : Kp b st s) (hm : st.length ≤ m) (hb : m ≠ b) (h : s[m]? = some (.dic kvs)) (x : MO) : Kp b st (s.set m x) :=
  ⟨k.box.set hb (fun ns z => by rw [h] at z; cases z), by rw [List.length_set]; exact k.le, fun i hi n => by rw [List.getElem?_set_ne (by omega)]; exact k.at_ i hi n⟩
theorem den_images (k : Nat) (ds : List D) (st : Sto) : den (k + 1) 15 ds st = runB (u__law_drawn_images (den k) ini) 4 ds st := rfl
def PImg (st : Sto) (b i : Nat) (τ : Ti) (s : Sto) : Prop := ∃ l o3, τ = [some (.obj b), some (.int 1), some (.obj st.length), o3] ∧ s[st.length]? = some (.dic (encI l)) ∧ NI l 3 8 ∧ l.length ≤ i ∧ Kp b st s
theorem img_put {st s : Sto} {b i : Nat} {l : List (Str × Ty)} {x : Str} {t : Ty} (B : Box st b) (hs : s[st.length]? = some (.dic (encI l))) (hl : l.length ≤ i) (hi : i ≤ 100) (k : Kp b st s) :
    putItem (.obj st.length) (.str x) (enc t) s = .ok () (s.set st.length (.dic (encI (putP l x t)))) ∧ (s.set st.length (.dic (encI (putP l x t))))[st.length]? = some (.dic (encI (putP l x t))) ∧ Kp b st (s.set st.length (.dic (encI (putP l x t)))) := by
  have hb : st.length ≠ b := Nat.ne_of_gt B.lt
  refine ⟨?_, ?_, kp_set k (Nat.le_refl _) hb hs _⟩
  · rw [putItem_dic hs (by rw [sizeLine_eq]; unfold encI; rw [List.length_map]; omega)]
    have := putD_map enc l x t
    unfold encI
    rw [this]
  · exact List.getElem?_set_self (at_lt hs)
theorem images_ok (st : Sto) (b k : Nat) (B : Box st b) : ∃ l s, den (k + 10) 15 [.obj b, .int 1] st = .ok (.obj st.length) s ∧ s[st.length]? = some (.dic (encI l)) ∧ NI l 3 8 ∧ l.length ≤ 7 ∧ Kp b st s := by
  have hb : st.length ≠ b := Nat.ne_of_gt B.lt
  have k0 : Kp b st (st ++ [.dic []]) := Kp.app B _
  have T1 := type_ok 1 (k + 9) (by omega)
  have T0 := type_ok 0 (k + 8) (by omega)
  obtain ⟨τ1, s1, f1, P1⟩ := forD_cnt (g := gN 3) (u := sIf (bOf (fOp opGt (fCallN 2 (den (k + 9) 12) (aCons (fV 0) (aCons (fC (.int 3)) aNil))) (fC (.int 0)))) (sAsg (fCallN 2 (den (k + 9) 13) (aCons (fV 0) (aCons (fV 1) aNil))) (gSubD (fV 2) (fV 3))) sNil) (P := PImg st b) 4
    [.str "a", .str "b", .str "c", .str "zz"] 0 [some (.obj b), some (.int 1), some (.obj st.length), none] (st ++ [.dic []]) (by decide) ⟨[], none, rfl, by simp [encI], (fun p hp => by cases hp), Nat.le_refl _, k0⟩ (by
      intro i d hi hd τ s hP
      obtain ⟨l, o3, rfl, hs, hl, hn, ks⟩ := hP
      obtain ⟨x, hx, rfl⟩ : ∃ x, x ∈ tvN ∧ d = .str x := by
        simp only [List.mem_cons, List.mem_nil_iff, or_false] at hd
        rcases hd with rfl | rfl | rfl | rfl <;> exact ⟨_, by decide, rfl⟩
      obtain ⟨r, s2, h2, r0, r1, k2, e2⟩ := dr_ok ks.box (k + 8) 3 (by decide)
      have at2 : s2[st.length]? = some (.dic (encI l)) := by rw [k2.at_ _ (at_lt hs) hb]; exact hs
      by_cases c : 0 < r
      · obtain ⟨t, s3, h3, t1, t2, t3, k3⟩ := T1 s2 b k2.box
        have at3 : s3[st.length]? = some (.dic (encI l)) := by rw [k3.at_ _ (at_lt at2) hb]; exact at2
        obtain ⟨p1, p2, p3⟩ := img_put (x := x) (t := t) B at3 hn (by omega) ((ks.trans k2).trans k3)
        refine ⟨_, s, [some (.obj b), some (.int 1), some (.obj st.length), some (.str x)], _, gN_eq _ _ _ _, ?_, putP l x t, _, rfl, p2, ?_, ?_, p3⟩
        · have h3' : den (k + 9) 13 [.obj b, .int 1] s2 = .ok (enc t) s3 := h3
          rw [sIf_eq]
          simp -implicitDefEqProofs [h2, c, h3', p1]
        · intro p hp
          rcases putP_mem hp with rfl | hp
          · exact ⟨fun z => absurd z (tv_rv x hx), t1, (by show high t ≤ 3; omega), t3⟩
          · exact hl p hp
        · have := putP_len l x t; omega
      · refine ⟨_, s, [some (.obj b), some (.int 1), some (.obj st.length), some (.str x)], s2, gN_eq _ _ _ _, ?_, l, _, rfl, at2, hl, by omega, ks.trans k2⟩
        rw [sIf_eq]
        simp -implicitDefEqProofs [h2, c])
  obtain ⟨l1, o3, rfl, hs1, hl1, hn1, ks1⟩ := P1
  obtain ⟨τ2, s2, f2, P2⟩ := forD_cnt (g := gN 3) (u := sIf (bOf (fOp opGt (fCallN 2 (den (k + 9) 12) (aCons (fV 0) (aCons (fC (.int 3)) aNil))) (fC (.int 0)))) (sAsg (fCallN 2 (den (k + 9) 14) (aCons (fV 0) (aCons (fV 1) aNil))) (gSubD (fV 2) (fV 3))) sNil) (P := PImg st b) 7
    [.str "q", .str "r", .str "s"] 4 [some (.obj b), some (.int 1), some (.obj st.length), o3] s1 (by decide) ⟨l1, o3, rfl, hs1, hl1, by simpa using hn1, ks1⟩ (by
      intro i d hi hd τ s hP
      obtain ⟨l, o3, rfl, hs, hl, hn, ks⟩ := hP
      obtain ⟨x, hx, rfl⟩ : ∃ x, x ∈ rvN ∧ d = .str x := by
        simp only [List.mem_cons, List.mem_nil_iff, or_false] at hd
        rcases hd with rfl | rfl | rfl <;> exact ⟨_, by decide, rfl⟩
      obtain ⟨r, s2, h2, r0, r1, k2, e2⟩ := dr_ok ks.box (k + 8) 3 (by decide)
      have at2 : s2[st.length]? = some (.dic (encI l)) := by rw [k2.at_ _ (at_lt hs) hb]; exact hs
      by_cases c : 0 < r
      · obtain ⟨fs, e, s3, h3, t1, t2, t3, k3⟩ := record_ok (k := k + 7) T0 1 rfl s2 b k2.box
        have at3 : s3[st.length]? = some (.dic (encI l)) := by rw [k3.at_ _ (at_lt at2) hb]; exact at2
        obtain ⟨p1, p2, p3⟩ := img_put (x := x) (t := .rcd fs e) B at3 hn (by omega) ((ks.trans k2).trans k3)
        refine ⟨_, s, [some (.obj b), some (.int 1), some (.obj st.length), some (.str x)], _, gN_eq _ _ _ _, ?_, putP l x (.rcd fs e), _, rfl, p2, ?_, ?_, p3⟩
        · have h3' : den (k + 9) 14 [.obj b, .int 1] s2 = .ok (enc (.rcd fs e)) s3 := h3
          rw [sIf_eq]
          simp -implicitDefEqProofs [h2, c, h3', p1]
        · intro p hp
          rcases putP_mem hp with rfl | hp
          · exact ⟨fun _ => ⟨fs, e, rfl⟩, t1, (by show high (.rcd fs e) ≤ 3; omega), t3⟩
          · exact hl p hp
        · have := putP_len l x (.rcd fs e); omega
      · refine ⟨_, s, [some (.obj b), some (.int 1), some (.obj st.length), some (.str x)], s2, gN_eq _ _ _ _, ?_, l, _, rfl, at2, hl, by omega, ks.trans k2⟩
        rw [sIf_eq]
        simp -implicitDefEqProofs [h2, c])
  obtain ⟨l2, o3', rfl, hs2, hl2, hn2, ks2⟩ := P2
  refine ⟨l2, s2, ?_, hs2, hl2, by simpa using hn2, ks2⟩
  rw [den_images]
  simp -implicitDefEqProofs [runB_eq, u__law_drawn_images, List.replicate, sForV_eq, -sIf_eq, f1, f2]
/-! ### other names -/
def lO : List (Str × Ty) := [("a", .var "m"), ("b", .var "a"), ("c", .var "zz"), ("zz", .var "k"), ("q", .rcd [] (some "s")), ("r", .rcd [] (some "u")), ("s", .rcd [] (some "q"))]
def gO (x : Str) : Str := if x = "a" then "m" else if x = "b" then "a" else if x = "c" then "zz" else if x = "zz" then "k" else if x = "q" then "s" else if x = "r" then "u" else if x = "s" then "q" else x
theorem look_var : ∀ x, x ∈ tvN → lookI lO x = some (.var (gO x)) := by
  intro x hx
  simp only [tvN, List.mem_cons, List.mem_nil_iff, or_false] at hx
  rcases hx with rfl | rfl | rfl | rfl <;> rfl
theorem look_row : ∀ x, x ∈ rvN → lookI lO x = some (.rcd [] (some (gO x))) := by
  intro x hx
  simp only [rvN, List.mem_cons, List.mem_nil_iff, or_false] at hx
  rcases hx with rfl | rfl | rfl <;> rfl
theorem gO_inj : ∀ x, x ∈ tvN ++ rvN → ∀ y, y ∈ tvN ++ rvN → gO x = gO y → x = y := by decide +kernel
theorem gO_ok : ∀ x, x ∈ tvN ++ rvN → sOk (gO x) := by
  have : ∀ x, x ∈ tvN ++ rvN → PyData.strOk (gO x) = true := by decide +kernel
  exact this
theorem den_other (k : Nat) (ds : List D) (st : Sto) : den (k + 1) 16 ds st = runB (u__law_other_names (den k) ini) 2 ds st := rfl
theorem other_ok {t : Ty} (ht : DT t) (k : Nat) (st : Sto) (h : high t ≤ k) (hs : syms t ≤ 900000) : den (k + 1) 16 [enc t] st = .ok (enc (ren gO t)) (st ++ [.dic (encI lO)]) := by
  have e1 : pairsK [((.str "a" : D), D.tup [.str "var", .str "m"]), (.str "b", .tup [.str "var", .str "a"]), (.str "c", .tup [.str "var", .str "zz"]), (.str "zz", .tup [.str "var", .str "k"])] = some (encI (lO.take 4)) := rfl
  have e2 : mergeD [] (encI (lO.take 4)) = encI (lO.take 4) := rfl
  have d1 := kDisp_eq e1 (by decide) st
  rw [e2] at d1
  have p1 : putItem (.obj st.length) (.str "q") (.tup [.str "record", .tup [], .str "s"]) (st ++ [.dic (encI (lO.take 4))]) = .ok () (st ++ [.dic (encI (lO.take 5))]) := by
    rw [putItem_dic (get_last _ _) (by rw [sizeLine_eq]; decide), set_last]; rfl
  have p2 : putItem (.obj st.length) (.str "r") (.tup [.str "record", .tup [], .str "u"]) (st ++ [.dic (encI (lO.take 5))]) = .ok () (st ++ [.dic (encI (lO.take 6))]) := by
    rw [putItem_dic (get_last _ _) (by rw [sizeLine_eq]; decide), set_last]; rfl
  have p3 : putItem (.obj st.length) (.str "s") (.tup [.str "record", .tup [], .str "q"]) (st ++ [.dic (encI (lO.take 6))]) = .ok () (st ++ [.dic (encI lO)]) := by
    rw [putItem_dic (get_last _ _) (by rw [sizeLine_eq]; decide), set_last]; rfl
  have iat : IAt (st ++ [.dic (encI lO)]) st.length lO := ⟨.inl (get_last _ _)⟩
  have hN0 : ∀ p, p ∈ lO → syms p.2 ≤ 2 := by
    intro p hp
    simp only [lO, List.mem_cons, List.mem_nil_iff, or_false] at hp
    rcases hp with rfl | rfl | rfl | rfl | rfl | rfl | rfl <;> decide
  have hN : ∀ x u, lookI lO x = some u → syms u ≤ 2 := fun x u e => hN0 _ (lookP_mem e)
  have sb := substitute_ok iat hN t k (fun x hx u e => by
    rw [look_row x (dt_row ht hx)] at e
    cases e
    exact ⟨_, _, rfl⟩) h (by omega)
  rw [sub_ren (g := gO) (fun a ha => look_var a (dt_var ht ha)) (fun a ha => look_row a (dt_row ht ha))] at sb
  rw [den_other]
  simp -implicitDefEqProofs [runB_eq, u__law_other_names, List.replicate, d1, p1, p2, p3, sb]
end K28
set_option Elab.async false
set_option linter.all false
set_option maxHeartbeats 4000000
set_option maxRecDepth 100000
namespace K28
open PySem PySem.Spec PyProof.Rows L2 LamX DL DL.Ty
/-! ### one turn of the law -/
theorem ren_loop {st : Sto} {b i1 i2 : Nat} {l1 l2 : List (Str × Ty)} {k : Nat} (hk : 10 ≤ k) (n1 : NI l1 3 8) (n2 : NI l2 3 8) (ln1 : l1.length ≤ 7) (ln2 : l2.length ≤ 7) {o0 o1 o2 o3 o8 o9 o10 o11 : Option D} {i3 : Nat} (e3 : i3 ≠ i1) (e4 : i3 ≠ i2) (e5 : i2 ≠ i1) :
    ∀ (ys done : List (Str × Ty)) (s : Sto) (l : List (Str × Ty)) (o7 : Option D), l1 = done ++ ys → s[i1]? = some (.lck (encI l1)) → s[i2]? = some (.dic (encI l2)) → s[i3]? = some (.dic (encI l)) → l.length ≤ 7 + done.length →
      (∀ x, lookI l x = if x ∈ done.map (·.1) then (lookI l1 x).map (sub (lookI l2)) else lookI l2 x) →
      ∃ o7' l', forD (gN 7) (q_law_5 (den k) ini) (ys.map fun p => D.str p.1) [o0, o1, o2, o3, some (.obj i1), some (.obj i2), some (.obj i3), o7, o8, o9, o10, o11] s
        = .ok (.nx [o0, o1, o2, o3, some (.obj i1), some (.obj i2), some (.obj i3), o7', o8, o9, o10, o11]) (s.set i3 (.dic (encI l'))) ∧ l'.length ≤ 14 ∧ (∀ x, lookI l' x = if x ∈ l1.map (·.1) then (lookI l1 x).map (sub (lookI l2)) else lookI l2 x)
  | [], done, s, l, o7, he, h1, h2, h3, hl, hx => by
    refine ⟨o7, l, ?_, ?_, ?_⟩
    · have : s.set i3 (.dic (encI l)) = s := set_same h3
      rw [this]; rfl
    · rw [he, List.append_nil] at ln1; omega
    · rw [he, List.append_nil] at hx ⊢; exact hx
  | (x, t0) :: ys, done, s, l, o7, he, h1, h2, h3, hl, hx => by
    have hm : x ∈ l1.map (·.1) := by rw [he]; simp
    obtain ⟨t, ht⟩ := Option.isSome_iff_exists.mp (lookP_isSome.mpr hm)
    have N1 := ni_look n1 ht
    have ix := opIx_dict (k := i1) (.inr ⟨_, h1⟩) (look_lck h1 x)
    rw [valD_encI, show lookI l1 x = some t from ht, Option.map_some] at ix
    have ia : IAt s i2 l2 := ⟨.inl h2⟩
    have sb := substitute_ok ia (N := 8) (fun x u e => (ni_look n2 e).2.2.2) t k (rows_ok n2 N1.2.1) (by have := N1.2.2.1; omega) (by have := N1.2.2.2; omega)
    have ldn : done.length < l1.length := by rw [he, List.length_append, List.length_cons]; omega
    have pt := putItem_dic h3 (by rw [sizeLine_eq]; unfold encI; rw [List.length_map]; omega) x (enc (sub (lookI l2) t))
    have pm := putD_map enc l x (sub (lookI l2) t)
    have pt2 : putItem (.obj i3) (.str x) (enc (sub (lookI l2) t)) s = .ok () (s.set i3 (.dic (encI (putP l x (sub (lookI l2) t))))) := by
      rw [pt]; unfold encI; rw [pm]
    have hi3 := at_lt h3
    obtain ⟨o7', l', f, hl', hx'⟩ := ren_loop (st := st) (b := b) (k := k) hk n1 n2 ln1 ln2 (o0 := o0) (o1 := o1) (o2 := o2) (o3 := o3) (o8 := o8) (o9 := o9) (o10 := o10) (o11 := o11) e3 e4 e5 ys (done ++ [(x, t0)]) (s.set i3 (.dic (encI (putP l x (sub (lookI l2) t))))) (putP l x (sub (lookI l2) t)) (some (.str x)) (by rw [he]; simp)
      (by rw [List.getElem?_set_ne e3]; exact h1) (by rw [List.getElem?_set_ne e4]; exact h2) (List.getElem?_set_self hi3) (by have := putP_len l x (sub (lookI l2) t); rw [List.length_append, List.length_singleton]; omega) (fun y => by
        have q := lookP_put l x (sub (lookI l2) t) y
        rw [show lookI (putP l x (sub (lookI l2) t)) y = _ from q]
        by_cases c : y = x
        · subst c
          rw [if_pos rfl, if_pos (by simp), show lookI l1 y = some t from ht]; rfl
        · rw [if_neg c, show lookP l y = _ from hx y]
          have : (y ∈ (done ++ [(x, t0)]).map (·.1)) = (y ∈ done.map (·.1)) := by simp [c]
          by_cases z : y ∈ done.map (·.1)
          · rw [if_pos z, if_pos (by rw [this]; exact z)]
          · rw [if_neg z, if_neg (by rw [this]; exact z)])
    refine ⟨o7', l', ?_, hl', hx'⟩
    rw [List.map_cons, forD_cons]
    rw [List.set_set] at f
    unfold q_law_5 at f ⊢
    simp -implicitDefEqProofs [ix, sb, pt2, f]
section
variable {k : Nat} {s : Sto} {t : Ty} {l1 l2 l3 : List (Str × Ty)} {i1 i2 i3 : Nat} {o0 o1 o2 o6 o7 o8 o9 o10 o11 : Option D}
/-- q8: put in twice, put in once -/
theorem p8 (hk : 40 ≤ k) (dt : DT t) (hh : high t ≤ 3) (hs : syms t ≤ 29) (n1 : NI l1 3 8) (n2 : NI l2 3 8) (a1 : IAt s i1 l1) (a2 : IAt s i2 l2) (a3 : IAt s i3 l3) (h3 : ∀ x, lookI l3 x = comp (lookI l1) (lookI l2) x) (z3 : ∀ x u, lookI l3 x = some u → syms u ≤ 100) :
    q_law_8 (den k) ini [o0, o1, o2, some (enc t), some (.obj i1), some (.obj i2), some (.obj i3), o7, o8, o9, o10, o11] s = .ok (.nx [o0, o1, o2, some (enc t), some (.obj i1), some (.obj i2), some (.obj i3), o7, o8, o9, o10, o11]) s := by
  have I1 : ∀ x u, lookI l1 x = some u → high u ≤ 3 := fun x u e => (ni_look n1 e).2.2.1
  have S1 : ∀ x u, lookI l1 x = some u → syms u ≤ 8 := fun x u e => (ni_look n1 e).2.2.2
  have I2 : ∀ x u, lookI l2 x = some u → high u ≤ 3 := fun x u e => (ni_look n2 e).2.2.1
  have S2 : ∀ x u, lookI l2 x = some u → syms u ≤ 8 := fun x u e => (ni_look n2 e).2.2.2
  have d1 := dt_sub n1 dt
  have d2 := dt_sub n2 d1
  have hh1 := high_sub I1 t
  have hh2 := high_sub I2 (sub (lookI l1) t)
  have ss1 := syms_sub S1 t
  have ss2 := syms_sub S2 (sub (lookI l1) t)
  have b1 := substitute_ok a1 (N := 8) S1 t k (rows_ok n1 dt) (by omega) (by omega)
  have b2 := substitute_ok a2 (N := 8) S2 (sub (lookI l1) t) k (rows_ok n2 d1) (by omega) (by omega)
  have e3 : sub (lookI l3) t = sub (lookI l2) (sub (lookI l1) t) := by
    rw [sub_sub t (rows_ok n1 dt)]
    congr 1
    exact funext h3
  have r3 : RowsOk (lookI l3) t := fun x hx u e => by
    rw [h3 x] at e
    unfold comp at e
    cases q : lookI l1 x with
    | none => rw [q] at e; exact (ni_look n2 e).1 (dt_row dt hx)
    | some v =>
      rw [q] at e
      obtain ⟨gs, e', rfl⟩ := (ni_look n1 q).1 (dt_row dt hx)
      cases e
      cases e' with
      | none => exact ⟨_, _, rfl⟩
      | some y =>
        simp only [sub, Option.bind_some]
        cases lookI l2 y with
        | none => exact ⟨_, _, rfl⟩
        | some w => cases w <;> exact ⟨_, _, rfl⟩
  have b3 := substitute_ok a3 (N := 100) z3 t k r3 (by omega) (by omega)
  rw [e3] at b3
  have m1 := normal_ok (sub (lookI l2) (sub (lookI l1) t)) k s (by omega) (by omega)
  have ne := ne_ty (dt_ok (all_norm d2)) (by rw [high_norm]; omega) s
  unfold q_law_8
  rw [sIf_eq]
  simp -implicitDefEqProofs [b1, b2, b3, m1, ne]
theorem p10 (hk : 40 ≤ k) (dt : DT t) (hh : high t ≤ 3) (hs : syms t ≤ 29) (n1 : NI l1 3 8) (a1 : IAt s i1 l1) {o5 : Option D} :
    q_law_10 (den k) ini [o0, o1, o2, some (enc t), some (.obj i1), o5, o6, o7, o8, o9, o10, o11] s = .ok (.nx [o0, o1, o2, some (enc t), some (.obj i1), o5, o6, o7, o8, o9, o10, o11]) (s ++ [.dic []]) := by
  have I1 : ∀ x u, lookI l1 x = some u → high u ≤ 3 := fun x u e => (ni_look n1 e).2.2.1
  have S1 : ∀ x u, lookI l1 x = some u → syms u ≤ 8 := fun x u e => (ni_look n1 e).2.2.2
  have dn : DT (norm t) := all_norm dt
  have d1 := dt_sub n1 dt
  have hh1 := high_sub I1 t
  have hh2 := high_sub I1 (norm t)
  have ss1 := syms_sub S1 t
  have ss2 := syms_sub S1 (norm t)
  rw [high_norm] at hh2
  rw [syms_norm] at ss2
  have m0 := normal_ok t k s (by omega) (by omega)
  have b1 := substitute_ok a1 (N := 8) S1 t k (rows_ok n1 dt) (by omega) (by omega)
  have b2 := substitute_ok a1 (N := 8) S1 (norm t) k (rows_ok n1 dn) (by rw [high_norm]; omega) (by rw [syms_norm]; omega)
  have m1 := normal_ok (sub (lookI l1) t) k s (by omega) (by omega)
  have m2 := normal_ok (sub (lookI l1) (norm t)) k s (by omega) (by omega)
  rw [norm_sub_norm] at m2
  have ne := ne_ty (dt_ok (all_norm d1)) (by rw [high_norm]; omega) s
  have i0 : IAt (s ++ [.dic []]) s.length [] := ⟨.inl (get_last _ _)⟩
  have b0 := substitute_ok i0 (N := 0) (fun x u e => by cases e) t k (fun x hx u e => by cases e) (by omega) (by omega)
  have s0 : sub (lookI []) t = t := sub_none t
  rw [s0] at b0
  have ne2 := ne_ty (dt_ok dt) (by omega) (s ++ [.dic []])
  unfold q_law_10
  rw [sIf_eq]
  simp -implicitDefEqProofs [m0, b1, b2, m1, m2, ne, b0, ne2]
theorem p12 (hk : 40 ≤ k) (dt : DT t) (hh : high t ≤ 3) (hs : syms t ≤ 29) {o4 o5 : Option D} :
    q_law_12 (den k) ini [o0, o1, o2, some (enc t), o4, o5, o6, o7, o8, o9, o10, o11] s = .ok (.nx [o0, o1, o2, some (enc t), o4, o5, o6, o7, o8, o9, o10, o11]) s := by
  have m0 := normal_ok t k s (by omega) (by omega)
  have m1 := normal_ok (norm t) k s (by rw [high_norm]; omega) (by rw [syms_norm]; omega)
  rw [norm_norm] at m1
  have ne := ne_ty (dt_ok (all_norm dt)) (by rw [high_norm]; omega) s
  unfold q_law_12
  rw [sIf_eq]
  simp -implicitDefEqProofs [m0, m1, ne]
theorem p15 (hk : 40 ≤ k) {u : Ty} (dt : DT t) (du : DT u) (hh : high t ≤ 8) (hu : high u ≤ 8) (hs : syms t ≤ 1000) (hsu : syms u ≤ 1000) {o3 o4 o5 : Option D} :
    ∃ ms, q_law_15 (den k) ini [o0, o1, o2, o3, o4, o5, o6, o7, some (.tup [enc t, enc u]), o9, o10, none] s = .ok (.nx [o0, o1, o2, o3, o4, o5, o6, o7, some (.tup [enc t, enc u]), o9, o10, none]) (s ++ ms) := by
  obtain ⟨k, rfl⟩ : ∃ j, k = j + 1 := ⟨k - 1, by omega⟩
  obtain ⟨ts, hts⟩ : ∃ ts, ts = [t, u] := ⟨_, rfl⟩
  have hm : ∀ x, x ∈ ts → DT x ∧ high x ≤ 8 ∧ syms x ≤ 1000 := by
    intro x hx
    rw [hts] at hx
    simp only [List.mem_cons, List.mem_nil_iff, or_false] at hx
    rcases hx with rfl | rfl
    · exact ⟨dt, hh, hs⟩
    · exact ⟨du, hu, hsu⟩
  have sm : (ts.map syms).sum ≤ 2000 := by rw [hts]; simp only [List.map_cons, List.map_nil, List.sum_cons, List.sum_nil]; omega
  have et : (.tup [enc t, enc u] : D) = .tup (ts.map enc) := by rw [hts]; rfl
  have th := told_high (n := 8) fun x hx => (hm x hx).2.1
  have T : ∀ st : Sto, den (k + 1) 9 [.tup (ts.map enc)] st = .ok (.tup ((told ts).map enc)) (rst st (addN [] (namesL (ts.map norm)))) := fun st => told_ok ts k st (fun x hx => by have := (hm x hx).2.1; omega) (by omega) (by rw [hts]; simp)
  have T2 : ∀ st : Sto, den (k + 1) 9 [.tup ((told ts).map enc)] st = .ok (.tup ((told ts).map enc)) (rst st (addN [] (namesL ((told ts).map norm)))) := fun st => by
    have := told_ok (told ts) k st (fun x hx => by have := th x hx; omega) (by rw [told_syms]; omega) (by rw [told_len, hts]; simp)
    rw [told_told] at this
    exact this
  have T3 : ∀ st : Sto, den (k + 1) 9 [.tup ((ts.map (ren gO)).map enc)] st = .ok (.tup ((told ts).map enc)) (rst st (addN [] (namesL ((ts.map (ren gO)).map norm)))) := fun st => by
    have := told_ok (ts.map (ren gO)) k st (fun x hx => by
      obtain ⟨y, hy, rfl⟩ := List.mem_map.mp hx
      rw [high_ren]; have := (hm y hy).2.1; omega) (by
      rw [List.map_map]
      have : ts.map (syms ∘ ren gO) = ts.map syms := List.map_congr_left fun y _ => syms_ren gO y
      rw [this]; omega) (by rw [List.length_map, hts]; simp)
    rw [told_ren fun a ha b hb e => gO_inj a ?_ b ?_ e] at this
    · exact this
    · obtain ⟨x, hx, h⟩ := mem_namesL.mp ha
      exact all_names (P := (· ∈ tvN ++ rvN)) (all_mono (fun _ h => List.mem_append_left _ h) (fun _ h => List.mem_append_right _ h) (fun _ h => h) (hm x hx).1) h
    · obtain ⟨x, hx, h⟩ := mem_namesL.mp hb
      exact all_names (P := (· ∈ tvN ++ rvN)) (all_mono (fun _ h => List.mem_append_left _ h) (fun _ h => List.mem_append_right _ h) (fun _ h => h) (hm x hx).1) h
  have ne : ∀ st, opNe (.tup ((told ts).map enc)) (.tup ((told ts).map enc)) st = .ok (.bl false) st := fun st => ne_tys (fun x hx => ⟨all_mono (fun _ h => h) (fun _ h => h) lb_ok (told_all (fun y hy => (hm y hy).1) x hx), by have := th x hx; omega⟩) st
  have lc : ∀ st : Sto, lcD (gN 11) bYes (fCallN 1 (den (k + 1) 16) (aCons (fV 11) aNil)) [o0, o1, o2, o3, o4, o5, o6, o7, some (.tup (ts.map enc)), o9, o10, none] finLv (ts.map enc) [] st = .ok (.lv ((ts.map (ren gO)).map enc)) (st ++ [.dic (encI lO), .dic (encI lO)]) := fun st => by
    have := lcD_run (g := gN 11) (t := bYes) (e := fCallN 1 (den (k + 1) 16) (aCons (fV 11) aNil)) (τ := [o0, o1, o2, o3, o4, o5, o6, o7, some (.tup (ts.map enc)), o9, o10, none]) (fin := finLv) enc (fun x => enc (ren gO x)) (fun ys => st ++ List.replicate ys.length (.dic (encI lO))) ts [] [] (fun ys x zs e _ => by
      rw [List.nil_append] at e
      have hx : x ∈ ts := by rw [e]; simp
      have := other_ok (hm x hx).1 k (st ++ List.replicate ys.length (.dic (encI lO))) (by have := (hm x hx).2.1; omega) (by have := (hm x hx).2.2; omega)
      rw [List.length_append, List.length_singleton, List.replicate_succ', ← List.append_assoc]
      simp -implicitDefEqProofs [lcOne, this, -List.append_assoc]) (by rw [hts, sizeLine_eq]; simp)
    rw [List.nil_append, List.nil_append, List.length_nil, List.replicate_zero, List.append_nil, finLv_eq] at this
    rw [this, List.map_map, hts]
    rfl
  have ex : ∀ (st : Sto) (d : List Str), ∃ ms, rst st d = st ++ ms := fun st d => ⟨_, rfl⟩
  have e1 := T s
  obtain ⟨a1, z1⟩ := ex s (addN [] (namesL (ts.map norm)))
  rw [z1] at e1
  have e2 := T2 (s ++ a1)
  obtain ⟨a2, z2⟩ := ex (s ++ a1) (addN [] (namesL ((told ts).map norm)))
  rw [z2] at e2
  have e3 := T (s ++ a1 ++ a2)
  obtain ⟨a3, z3⟩ := ex (s ++ a1 ++ a2) (addN [] (namesL (ts.map norm)))
  rw [z3] at e3
  have e4 := lc (s ++ a1 ++ a2 ++ a3)
  obtain ⟨a4, z4⟩ : ∃ a4, a4 = [MO.dic (encI lO), MO.dic (encI lO)] := ⟨_, rfl⟩
  rw [← z4] at e4
  have e5 := T3 (s ++ a1 ++ a2 ++ a3 ++ a4)
  obtain ⟨a5, z5⟩ := ex (s ++ a1 ++ a2 ++ a3 ++ a4) (addN [] (namesL ((ts.map (ren gO)).map norm)))
  rw [z5] at e5
  have e6 := T (s ++ a1 ++ a2 ++ a3 ++ a4 ++ a5)
  obtain ⟨a6, z6⟩ := ex (s ++ a1 ++ a2 ++ a3 ++ a4 ++ a5) (addN [] (namesL (ts.map norm)))
  rw [z6] at e6
  rw [et]
  refine ⟨a1 ++ a2 ++ a3 ++ a4 ++ a5 ++ a6, ?_⟩
  have es : s ++ (a1 ++ a2 ++ a3 ++ a4 ++ a5 ++ a6) = s ++ a1 ++ a2 ++ a3 ++ a4 ++ a5 ++ a6 := by simp only [List.append_assoc]
  rw [es]
  unfold q_law_15
  rw [sIf_eq]
  simp -implicitDefEqProofs [e1, e2, e3, e5, e6, ne, wipeT, e4, -List.map_map, -List.append_assoc]
theorem p19 (hk : 40 ≤ k) (dt : DT t) (hh : high t ≤ 3) (hs : syms t ≤ 29) {o4 o5 : Option D} :
    ∃ ms τ', (sSeq (q_law_16 (den k) ini) (sSeq (q_law_17 (den k) ini) (q_law_19 (den k) ini))) [o0, o1, o2, some (enc t), o4, o5, o6, o7, o8, o9, o10, o11] s = .ok (.nx [o0, o1, o2, some (enc t), o4, o5, o6, o7, o8, some (.tup [.obj s.length, .obj (s.length + 1)]), some τ', o11]) (s ++ ms) := by
  obtain ⟨k, rfl⟩ : ∃ j, k = j + 1 := ⟨k - 1, by omega⟩
  have v1 := variables_ok t k s (by omega) (by omega)
  obtain ⟨s2, e2⟩ : ∃ s2, s2 = vst s (addN [] (tvs t)) (addN [] (rvs t)) := ⟨_, rfl⟩
  rw [← e2] at v1
  have m0 : ∀ st, den (k + 1) 0 [enc t] st = .ok (enc (norm t)) st := fun st => normal_ok t (k + 1) st (by omega) (by omega)
  have v2 := variables_ok (norm t) k s2 (by rw [high_norm]; omega) (by rw [syms_norm]; omega)
  obtain ⟨s3, e3⟩ : ∃ s3, s3 = vst s2 (addN [] (tvs (norm t))) (addN [] (rvs (norm t))) := ⟨_, rfl⟩
  rw [← e3] at v2
  have l2 : s.length + 1 < s2.length := by rw [e2]; simp [vst]
  have g0 : s3[s.length]? = some (.lst ((addN [] (tvs t)).map D.str)) := by
    rw [e3]; unfold vst; rw [List.getElem?_append_left (by omega), e2]; exact vst_0 _ _ _
  have g1 : s3[s.length + 1]? = some (.lst ((addN [] (rvs t)).map D.str)) := by
    rw [e3]; unfold vst; rw [List.getElem?_append_left (by omega), e2]; exact vst_1 _ _ _
  have g2 : s3[s2.length]? = some (.lst ((addN [] (tvs (norm t))).map D.str)) := by rw [e3]; exact vst_0 _ _ _
  have g3 : s3[s2.length + 1]? = some (.lst ((addN [] (rvs (norm t))).map D.str)) := by rw [e3]; exact vst_1 _ _ _
  have lt : ∀ u : Ty, syms u = syms t → (addN [] (tvs u)).length ≤ sizeLine ∧ (addN [] (rvs u)).length ≤ sizeLine := fun u hu => by
    have a1 := addN_len (tvs u) []
    have a2 := addN_len (rvs u) []
    have a3 := tvs_len u
    have a4 := rvs_len u
    rw [sizeLine_eq]
    simp only [List.length_nil] at a1 a2
    omega
  have r0 := oSortS_of (listOf_obj g0) (lt t rfl).1
  have r1 := oSortS_of (listOf_obj g1) (lt t rfl).2
  have r2 := oSortS_of (listOf_obj g2) (lt (norm t) (syms_norm t)).1
  have r3 := oSortS_of (listOf_obj g3) (lt (norm t) (syms_norm t)).2
  have t1 : (addN [] (tvs (norm t))).mergeSort leS = (addN [] (tvs t)).mergeSort leS := tvs_norm t
  have t2 : (addN [] (rvs (norm t))).mergeSort leS = (addN [] (rvs t)).mergeSort leS := rvs_norm t
  rw [t1] at r2
  rw [t2] at r3
  have s0 := symbols_ok t (k + 1) s3 (by omega) (by omega)
  have s1 := symbols_ok (norm t) (k + 1) s3 (by rw [high_norm]; omega) (by rw [syms_norm]; omega)
  rw [syms_norm] at s1
  have ok1 : ∀ x, x ∈ (addN [] (tvs t)).mergeSort leS → sOk x := fun x hx => by
    have h1 := (mem_addN _ _ _).mp ((List.mergeSort_perm _ _).mem_iff.mp hx)
    simp only [List.mem_nil_iff, false_or] at h1
    unfold tvs at h1
    obtain ⟨p, hp, e⟩ := List.mem_filterMap.mp h1
    by_cases q : p.1 = false
    · rw [if_pos q] at e; cases e; exact tv_ok _ ((all_occ dt p hp).1 q)
    · rw [if_neg q] at e; cases e
  have ok2 : ∀ x, x ∈ (addN [] (rvs t)).mergeSort leS → sOk x := fun x hx => by
    have h1 := (mem_addN _ _ _).mp ((List.mergeSort_perm _ _).mem_iff.mp hx)
    simp only [List.mem_nil_iff, false_or] at h1
    unfold rvs at h1
    obtain ⟨p, hp, e⟩ := List.mem_filterMap.mp h1
    by_cases q : p.1 = true
    · rw [if_pos q] at e; cases e; exact rv_ok _ ((all_occ dt p hp).2 q)
    · rw [if_neg q] at e; cases e
  have n1 := ne_strs ok1 s3
  have n2 := ne_strs ok2 s3
  refine ⟨[.lst ((addN [] (tvs t)).map D.str), .lst ((addN [] (rvs t)).map D.str), .lst ((addN [] (tvs (norm t))).map D.str), .lst ((addN [] (rvs (norm t))).map D.str)], .tup [.obj s2.length, .obj (s2.length + 1)], ?_⟩
  have es : s ++ [.lst ((addN [] (tvs t)).map D.str), .lst ((addN [] (rvs t)).map D.str), .lst ((addN [] (tvs (norm t))).map D.str), .lst ((addN [] (rvs (norm t))).map D.str)] = s3 := by
    rw [e3, e2]; simp [vst]
  rw [es]
  unfold q_law_16 q_law_17 q_law_19
  rw [sSeq_eq]
  simp -implicitDefEqProofs only [sSet_eq, fCallN_eq, aCons_eq, aNil_eq, fV_3, bind_ok, kCons1_eq, kCons2_eq]
  simp -implicitDefEqProofs [v1, m0, v2, s0, s1, r0, r1, r2, r3, n1, n2]
end
def P28 (scr : D) (b : Nat) (τ : Ti) (st : Sto) : Prop := Box st b ∧ ∃ o2 o3 o4 o5 o6 o7 o8 o9 o10, τ = [some scr, some (.obj b), o2, o3, o4, o5, o6, o7, o8, o9, o10, none]
theorem den_law (k : Nat) (ds : List D) (st : Sto) : den (k + 1) 17 ds st = runB (u_law (den k) ini) 12 ds st := rfl
theorem turn_ok (k : Nat) (hk : 60 ≤ k) (scr : D) (b : Nat) {o2 o3 o4 o5 o6 o7 o8 o9 o10 : Option D} {st : Sto} (B : Box st b) :
    ∃ τ2 st2, (sSeq (q_law_1 (den k) ini) (sSeq (q_law_2 (den k) ini) (sSeq (q_law_3 (den k) ini) (sSeq (q_law_4 (den k) ini) (sSeq (q_law_6 (den k) ini) (sSeq (q_law_8 (den k) ini) (sSeq (q_law_10 (den k) ini) (sSeq (q_law_12 (den k) ini) (sSeq (q_law_13 (den k) ini) (sSeq (q_law_15 (den k) ini) (sSeq (q_law_16 (den k) ini) (sSeq (q_law_17 (den k) ini) (q_law_19 (den k) ini)))))))))))))
      [some scr, some (.obj b), o2, o3, o4, o5, o6, o7, o8, o9, o10, none] st = .ok (.nx τ2) st2 ∧ P28 scr b τ2 st2 := by
  obtain ⟨j, rfl⟩ : ∃ j, k = j + 10 := ⟨k - 10, by omega⟩
  obtain ⟨t, s1, h1, dt, hh, hs, k1⟩ := type_ok 2 (j + 10) (by omega) st b B
  have hs : syms t ≤ 29 := hs
  obtain ⟨l1, s2, h2, a1, n1, ln1, k2⟩ := images_ok s1 b j k1.box
  obtain ⟨l2, s3, h3, a2, n2, ln2, k3⟩ := images_ok s2 b j k2.box
  have b1 : s1.length ≠ b := Nat.ne_of_gt k1.box.lt
  have b2 : s2.length ≠ b := Nat.ne_of_gt k2.box.lt
  have lt1 := at_lt a1
  have lt2 := at_lt a2
  have a1' : s3[s1.length]? = some (.dic (encI l1)) := by rw [k3.at_ _ lt1 b1]; exact a1
  have dc := oDictOf_dic a2
  obtain ⟨s4, e4⟩ : ∃ s4, s4 = s3 ++ [MO.dic (encI l2)] := ⟨_, rfl⟩
  rw [← e4] at dc
  have c1 : s4[s1.length]? = some (.dic (encI l1)) := by rw [e4, List.getElem?_append_left (by omega)]; exact a1'
  have c2 : s4[s2.length]? = some (.dic (encI l2)) := by rw [e4, List.getElem?_append_left (by omega)]; exact a2
  have c3 : s4[s3.length]? = some (.dic (encI l2)) := by rw [e4]; exact get_last _ _
  have lt4 : s3.length < s4.length := at_lt c3
  have B4 : Box s4 b := by rw [e4]; exact k3.box.app _
  have b3 : s3.length ≠ b := Nat.ne_of_gt k3.box.lt
  -- the loop over the first one
  obtain ⟨o7', l3, f3, ll3, x3⟩ := ren_loop (st := st) (b := b) (k := j + 10) (by omega) n1 n2 ln1 ln2 (o0 := some scr) (o1 := some (.obj b)) (o2 := o2) (o3 := some (enc t)) (o8 := o8) (o9 := o9) (o10 := o10) (o11 := none) (i1 := s1.length) (i2 := s2.length) (i3 := s3.length) (by omega) (by omega) (by omega) l1 [] (s4.set s1.length (.lck (encI l1))) l2 o7 rfl
    (List.getElem?_set_self (by omega)) (by rw [List.getElem?_set_ne (by omega)]; exact c2) (by rw [List.getElem?_set_ne (by omega)]; exact c3) (by simpa using ln2) (fun x => by simp)
  obtain ⟨s5, e5⟩ : ∃ s5, s5 = ((s4.set s1.length (.lck (encI l1))).set s3.length (.dic (encI l3))).set s1.length (.dic (encI l1)) := ⟨_, rfl⟩
  have w6 : q_law_6 (den (j + 10)) ini [some scr, some (.obj b), o2, some (enc t), some (.obj s1.length), some (.obj s2.length), some (.obj s3.length), o7, o8, o9, o10, none] s4 = .ok (.nx [some scr, some (.obj b), o2, some (enc t), some (.obj s1.length), some (.obj s2.length), some (.obj s3.length), o7', o8, o9, o10, none]) s5 := by
    unfold q_law_6
    rw [sForV_dic (k := s1.length) (kvs := encI l1) rfl c1 rfl]
    have : (encI l1).map (fun p => kD p.1) = l1.map fun p => D.str p.1 := by unfold encI; rw [List.map_map]; rfl
    rw [this, f3, opened_ok, ← e5]
  have d1 : s5[s1.length]? = some (.dic (encI l1)) := by rw [e5]; exact List.getElem?_set_self (by simp only [List.length_set]; omega)
  have d2 : s5[s2.length]? = some (.dic (encI l2)) := by rw [e5, List.getElem?_set_ne (by omega), List.getElem?_set_ne (by omega), List.getElem?_set_ne (by omega)]; exact c2
  have d3 : s5[s3.length]? = some (.dic (encI l3)) := by rw [e5, List.getElem?_set_ne (by omega)]; exact List.getElem?_set_self (by rw [List.length_set]; exact lt4)
  have B5 : Box s5 b := by
    have u1 : Box (s4.set s1.length (.lck (encI l1))) b := B4.set b1 fun ns z => by rw [c1] at z; cases z
    have u2 : Box ((s4.set s1.length (.lck (encI l1))).set s3.length (.dic (encI l3))) b := u1.set b3 fun ns z => by rw [List.getElem?_set_ne (by omega), c3] at z; cases z
    rw [e5]
    exact u2.set b1 fun ns z => by rw [List.getElem?_set_ne (by omega), List.getElem?_set_self (by omega)] at z; cases z
  have x3' : ∀ x, lookI l3 x = comp (lookI l1) (lookI l2) x := fun x => by
    rw [x3 x]
    unfold comp
    by_cases q : x ∈ l1.map (·.1)
    · obtain ⟨u, hu⟩ := Option.isSome_iff_exists.mp (lookP_isSome.mpr q)
      rw [if_pos q, show lookI l1 x = some u from hu]; rfl
    · rw [if_neg q]
      have : lookI l1 x = none := by
        cases z : lookI l1 x with
        | none => rfl
        | some u => exact absurd (lookP_isSome.mp (by rw [show lookP l1 x = some u from z]; rfl)) q
      rw [this]
  have z3 : ∀ x u, lookI l3 x = some u → syms u ≤ 100 := fun x u e => by
    rw [x3' x] at e
    unfold comp at e
    cases q : lookI l1 x with
    | none => rw [q] at e; have := (ni_look n2 e).2.2.2; omega
    | some v =>
      rw [q] at e
      cases e
      have h := (ni_look n1 q).2.2.2
      have := syms_sub (I := lookI l2) (n := 8) (fun x u e => (ni_look n2 e).2.2.2) v
      omega
  have I1 : ∀ x u, lookI l1 x = some u → high u ≤ 3 := fun x u e => (ni_look n1 e).2.2.1
  have S1 : ∀ x u, lookI l1 x = some u → syms u ≤ 8 := fun x u e => (ni_look n1 e).2.2.2
  have du := dt_sub n1 dt
  have hu := high_sub I1 t
  have su := syms_sub S1 t
  have S : ∀ (ms : Sto), IAt (s5 ++ ms) s1.length l1 := fun ms => IAt.app ⟨.inl d1⟩ ms
  have x8 := p8 (k := j + 10) (s := s5) (t := t) (l1 := l1) (l2 := l2) (l3 := l3) (i1 := s1.length) (i2 := s2.length) (i3 := s3.length) (o0 := some scr) (o1 := some (.obj b)) (o2 := o2) (o7 := o7') (o8 := o8) (o9 := o9) (o10 := o10) (o11 := none) (by omega) dt hh hs n1 n2 ⟨.inl d1⟩ ⟨.inl d2⟩ ⟨.inl d3⟩ x3' z3
  have x10 := p10 (k := j + 10) (s := s5) (t := t) (l1 := l1) (i1 := s1.length) (o0 := some scr) (o1 := some (.obj b)) (o2 := o2) (o5 := some (.obj s2.length)) (o6 := some (.obj s3.length)) (o7 := o7') (o8 := o8) (o9 := o9) (o10 := o10) (o11 := none) (by omega) dt hh hs n1 ⟨.inl d1⟩
  have x12 := p12 (k := j + 10) (s := s5 ++ [.dic []]) (t := t) (o0 := some scr) (o1 := some (.obj b)) (o2 := o2) (o4 := some (.obj s1.length)) (o5 := some (.obj s2.length)) (o6 := some (.obj s3.length)) (o7 := o7') (o8 := o8) (o9 := o9) (o10 := o10) (o11 := none) (by omega) dt hh hs
  have sb := substitute_ok (S [.dic []]) (N := 8) S1 t (j + 10) (rows_ok n1 dt) (by omega) (by omega)
  have x13 : q_law_13 (den (j + 10)) ini [some scr, some (.obj b), o2, some (enc t), some (.obj s1.length), some (.obj s2.length), some (.obj s3.length), o7', o8, o9, o10, none] (s5 ++ [.dic []])
      = .ok (.nx [some scr, some (.obj b), o2, some (enc t), some (.obj s1.length), some (.obj s2.length), some (.obj s3.length), o7', some (.tup [enc t, enc (sub (lookI l1) t)]), o9, o10, none]) (s5 ++ [.dic []]) := by
    unfold q_law_13
    simp -implicitDefEqProofs [sb]
  obtain ⟨m15, x15⟩ := p15 (k := j + 10) (s := s5 ++ [.dic []]) (t := t) (u := sub (lookI l1) t) (o0 := some scr) (o1 := some (.obj b)) (o2 := o2) (o3 := some (enc t)) (o4 := some (.obj s1.length)) (o5 := some (.obj s2.length)) (o6 := some (.obj s3.length)) (o7 := o7') (o9 := o9) (o10 := o10) (by omega) dt du (by omega) (by omega) (by omega) (by omega)
  obtain ⟨m19, τ', x19⟩ := p19 (k := j + 10) (s := s5 ++ [.dic []] ++ m15) (t := t) (o0 := some scr) (o1 := some (.obj b)) (o2 := o2) (o4 := some (.obj s1.length)) (o5 := some (.obj s2.length)) (o6 := some (.obj s3.length)) (o7 := o7') (o8 := some (.tup [enc t, enc (sub (lookI l1) t)])) (o9 := o9) (o10 := o10) (o11 := none) (by omega) dt hh hs
  have w1 : q_law_1 (den (j + 10)) ini [some scr, some (.obj b), o2, o3, o4, o5, o6, o7, o8, o9, o10, none] st = .ok (.nx [some scr, some (.obj b), o2, some (enc t), o4, o5, o6, o7, o8, o9, o10, none]) s1 := by
    have h1' : den (j + 10) 13 [.obj b, .int 2] st = .ok (enc t) s1 := h1
    unfold q_law_1
    simp -implicitDefEqProofs [h1']
  have w2 : q_law_2 (den (j + 10)) ini [some scr, some (.obj b), o2, some (enc t), o4, o5, o6, o7, o8, o9, o10, none] s1 = .ok (.nx [some scr, some (.obj b), o2, some (enc t), some (.obj s1.length), o5, o6, o7, o8, o9, o10, none]) s2 := by
    unfold q_law_2
    simp -implicitDefEqProofs [h2]
  have w3 : q_law_3 (den (j + 10)) ini [some scr, some (.obj b), o2, some (enc t), some (.obj s1.length), o5, o6, o7, o8, o9, o10, none] s2 = .ok (.nx [some scr, some (.obj b), o2, some (enc t), some (.obj s1.length), some (.obj s2.length), o6, o7, o8, o9, o10, none]) s3 := by
    unfold q_law_3
    simp -implicitDefEqProofs [h3]
  have w4 : q_law_4 (den (j + 10)) ini [some scr, some (.obj b), o2, some (enc t), some (.obj s1.length), some (.obj s2.length), o6, o7, o8, o9, o10, none] s3 = .ok (.nx [some scr, some (.obj b), o2, some (enc t), some (.obj s1.length), some (.obj s2.length), some (.obj s3.length), o7, o8, o9, o10, none]) s4 := by
    unfold q_law_4
    simp -implicitDefEqProofs [dc]
  have fin := x19
  refine ⟨[some scr, some (.obj b), o2, some (enc t), some (.obj s1.length), some (.obj s2.length), some (.obj s3.length), o7', some (.tup [enc t, enc (sub (lookI l1) t)]), some (.tup [.obj (s5 ++ [MO.dic []] ++ m15).length, .obj ((s5 ++ [MO.dic []] ++ m15).length + 1)]), some τ', none], s5 ++ [.dic []] ++ m15 ++ m19, ?_,
    ((B5.app [.dic []]).app m15).app m19, o2, some (enc t), some (.obj s1.length), some (.obj s2.length), some (.obj s3.length), o7', some (.tup [enc t, enc (sub (lookI l1) t)]), some (.tup [.obj (s5 ++ [MO.dic []] ++ m15).length, .obj ((s5 ++ [MO.dic []] ++ m15).length + 1)]), some τ', rfl⟩
  rw [sSeq_eq, w1, bind_ok, kSeq_nx, sSeq_eq, w2, bind_ok, kSeq_nx, sSeq_eq, w3, bind_ok, kSeq_nx, sSeq_eq, w4, bind_ok, kSeq_nx, sSeq_eq, w6, bind_ok, kSeq_nx, sSeq_eq, x8, bind_ok, kSeq_nx, sSeq_eq, x10, bind_ok, kSeq_nx,
    sSeq_eq, x12, bind_ok, kSeq_nx, sSeq_eq, x13, bind_ok, kSeq_nx, sSeq_eq, x15, bind_ok, kSeq_nx, x19]
theorem goal (ns : List Int) (hl : ns.length ≤ 63) (hz : ∀ z ∈ ns, Builtin.Int.intBits z ≤ 1048576) : ∃ st, den 218 17 [.kl (ns.map D.int)] [] = .ok (.bl true) st := by
  obtain ⟨acc, h1⟩ : ∃ acc : List Int, den 217 11 [.kl (ns.map D.int), .int 0, .int 50] [] = .ok (.obj 0) [.lst (acc.map D.int)] := dig_ok ns 215 50 (by decide) []
  have B : Box [MO.lst (acc.map D.int), MO.lst [.obj 0, .int 0]] 1 := ⟨0, 0, acc, by decide, rfl, rfl⟩
  obtain ⟨τ', st', hf, BP⟩ := forD_inv (g := gN 2) (u := (sSeq (q_law_1 (den 217) ini) (sSeq (q_law_2 (den 217) ini) (sSeq (q_law_3 (den 217) ini) (sSeq (q_law_4 (den 217) ini) (sSeq (q_law_6 (den 217) ini) (sSeq (q_law_8 (den 217) ini) (sSeq (q_law_10 (den 217) ini) (sSeq (q_law_12 (den 217) ini) (sSeq (q_law_13 (den 217) ini) (sSeq (q_law_15 (den 217) ini) (sSeq (q_law_16 (den 217) ini) (sSeq (q_law_17 (den 217) ini) (q_law_19 (den 217) ini)))))))))))))) (P := P28 (.kl (ns.map D.int)) 1) (runD 0 6)
    [some (.kl (ns.map D.int)), some (.obj 1), none, none, none, none, none, none, none, none, none, none] [MO.lst (acc.map D.int), MO.lst [.obj 0, .int 0]] ⟨B, none, none, none, none, none, none, none, none, none, rfl⟩ (by
      intro d hd τ st hP
      obtain ⟨B, o2, o3, o4, o5, o6, o7, o8, o9, o10, rfl⟩ := hP
      obtain ⟨τ2, st2, h, hP2⟩ := turn_ok 217 (by decide) (.kl (ns.map D.int)) 1 (o2 := some d) (o3 := o3) (o4 := o4) (o5 := o5) (o6 := o6) (o7 := o7) (o8 := o8) (o9 := o9) (o10 := o10) B
      exact ⟨_, _, τ2, st2, gN_eq _ _ _ _, h, hP2⟩)
  have k6 : ∀ st : Sto, kRng1 (.int 6) st = .ok (.imm (runD 0 6)) st := fun st => kRng1_eq (j := 6) (by decide) st
  have w0 : q_law_0 (den 217) ini [some (.kl (ns.map D.int)), none, none, none, none, none, none, none, none, none, none, none] [] = .ok (.nx [some (.kl (ns.map D.int)), some (.obj 1), none, none, none, none, none, none, none, none, none, none]) [MO.lst (acc.map D.int), MO.lst [.obj 0, .int 0]] := by
    unfold q_law_0
    simp (decide := true) -implicitDefEqProofs [h1]
  have w20 : q_law_20 (den 217) ini [some (.kl (ns.map D.int)), some (.obj 1), none, none, none, none, none, none, none, none, none, none] [MO.lst (acc.map D.int), MO.lst [.obj 0, .int 0]] = .ok (.nx τ') st' := by
    unfold q_law_20
    rw [sFor_eq, iRng1D_eq, fC_eq, bind_ok, k6, bind_ok, kFor_imm]
    exact hf
  refine ⟨st', ?_⟩
  show den (217 + 1) 17 _ _ = _
  rw [den_law, runB_eq]
  unfold u_law
  have e0 : List.map some [D.kl (ns.map D.int)] ++ List.replicate (12 - [D.kl (ns.map D.int)].length) none = [some (.kl (ns.map D.int)), none, none, none, none, none, none, none, none, none, none, none] := rfl
  rw [e0, sSeq_eq, w0, bind_ok, kSeq_nx, sSeq_eq, w20, bind_ok, kSeq_nx]
  unfold q_law_21
  simp -implicitDefEqProofs
end K28
open PySem PySem.W PySem.Calls PyProof.Rows
theorem PySem.Challenge.cw_rowtypes_k28_substitutions_holds : PySem.Challenge.rw_rowtypes_k28_substitutions.Holds := by
  w_on; o_law
  refine HandSHeadRun.head_any (r := OpenLaw.row PySem.Challenge.rw_rowtypes_k28_substitutions) (q := view (OpenLaw.row PySem.Challenge.rw_rowtypes_k28_substitutions).prog [18]) (H := K28.hk) (ob := K28.ob) (M := 20000) (loose := K28.loose) (d := HandSHeadRun.topDef (OpenLaw.row PySem.Challenge.rw_rowtypes_k28_substitutions).prog 18) (kwd := []) K28.ob_eq
    (by kernel_rfl) (fun s => by kernel_rfl) K28.run (by kernel_rfl) (by kernel_rfl) (by kernel_rfl) (by rfl) (by first | assumption | decide +kernel) (by decide +kernel) ⟨rfl, rfl, rfl, rfl, rfl, by decide +kernel⟩ ?hw ?hc
  case hw => w_witness2
  case hc =>
    refine DL.walk_G (l := PySem.Challenge.rw_rowtypes_k28_substitutions) (n := 63) (k := 220) (x := "_law_script") rfl (by decide) (by kernel_rfl) ⟨rfl, by decide, by decide⟩ fun w mg fa h Y G hmg0 => ?_
    exact K28.law_G K28.goal w mg fa h Y G (by
      have e : (HandSHeadRun.topDef (OpenLaw.row PySem.Challenge.rw_rowtypes_k28_substitutions).prog 18).name = ("law" : PySem.Str) := by kernel_rfl
      rw [← e]
      exact hmg0)
