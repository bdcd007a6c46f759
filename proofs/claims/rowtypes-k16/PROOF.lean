import PyProof.Rows.All
import Wide.All
import OpenK.AllK
import Wide.FinOn
import HandS.ForMost
import HandS.Exc
import HandS.ExcOwn
import HandS.WordsExc
import HandS.TryOnly
import HandS.Lambda
import HandS.TupAny
import HandS.Deep
import HandS.Flow
import HandS.Conv
import HandS.Iter
import HandS.Comp
import HandS.Defaults
import HandS.IsInst
import HandS.WordsDict
import HandS.More
import HandS.Small
import PyProof.Rows.ReprR
import HandS.EndTab
import HandS.Words
import HandS.HeadHook4
import HandS.Head2
import HandS.SortKw
import KE.SortKeyHeap
import HandS.NoneIn
import HandS.Style
import KE.SortData
import HandS.ExcInit
import HandS.ExcSuper
import KE.KExcSuper
import KE.KSuper
import HandS.ForExc
import HandS.ClsMeth
import HandS.TryMany
import HandS.ExcField
import HandS.RaiseMore
import HandS.Codes
import KE.KDictPairs
import PySem.Challenge.RW_rowtypes_k16_runs_told
set_option Elab.async false
set_option linter.all false
set_option maxRecDepth 100000
set_option maxHeartbeats 4000000
/-! DL: values as trees, a store of mutable objects, what stands for them in the abstract heap. -/
namespace DL
open PySem PySem.Spec PyProof.Rows L2 LamX

/-- a value: tuples are trees; lv, dv: a list, a dict that nothing changes any more; obj: a mutable object by its number in the store -/
inductive D where
  | non | bl (b : Bool) | int (i : Int) | str (x : Str) | tup (ds : List D) | ktup (ds : List D) | lv (ds : List D) | kl (ds : List D) | dv (ks vs : List D) | obj (i : Nat) | ty (n : String) | glb (x : Str)
  deriving Inhabited

inductive MO where
  | lst (ds : List D)
  | dic (kvs : List (Key × D))
  | dit (kvs : List (List Key × D))
  | lck (kvs : List (Key × D))
  | ins (c : Str) (fs : List (Str × D))
  deriving Inhabited
abbrev Sto := List MO

def kD : Key → D
  | .inl i => .int i
  | .inr x => .str x

/-- where the module's defs and classes stand; tb: the tables of code objects, and the names of what they tell -/
structure CF where
  g : Str → Option Addr
  tb : List (Addr × Str)
instance : CoeFun CF (fun _ => Str → Option Addr) := ⟨CF.g⟩
/-- rv: lists that are being made, which nothing may name -/
structure CA where
  f : CF
  rv : List Addr
instance : CoeFun CA (fun _ => Str → Option Addr) := ⟨fun c => c.f.g⟩
theorem tabs_ext {T : List (Addr × Str)} {H H' : Hp} (e : ∀ b o, H b = some o → H' b = some o) (t : Tabs T H) : Tabs T H' := t.ext e
/-- what is written is neither a table nor a code object -/
def NoTab (u : HO) : Prop := (∀ ps, u ≠ .tbl ps) ∧ ∀ c q, u ≠ CodeO c q
theorem tabs_write {T : List (Addr × Str)} {H : Hp} {a : Addr} {u o : HO} (h : H a = some u) (n : NoTab u) (t : Tabs T H) : Tabs T (upd H a o) := fun p hp => by
  obtain ⟨ps, h1, h2, h3⟩ := t p hp
  refine ⟨ps, by rw [upd_ne (fun z => n.1 ps (by rw [z, h] at h1; exact Option.some.inj h1))]; exact h1, h2, fun pos cv hc => ?_⟩
  obtain ⟨c, e1, e2⟩ := h3 pos cv hc
  exact ⟨c, e1, by rw [upd_ne (fun z => n.2 c p.2 (Option.some.inj (h.symm.trans ((congrArg H z).symm.trans e2))))]; exact e2⟩
section
variable (K : PySem.W.Frag) (ca : CA) (ρ : Nat → Addr) (n : Nat) (H : Hp)
/-- a list that stays: tracked and no object of the store -/
def LvAt (a : Addr) (xs : List V) : Prop := H a = some (.lst xs) ∧ (∀ i, i < n → ρ i ≠ a) ∧ a ∉ ca.rv
/-- .. frozen, or the module's -/
def KlAt (a : Addr) (xs : List V) : Prop :=
  (∃ o, H a = some (.frz o (.lst xs))) ∨
    ∃ (o : Obj) (its : Array Value) (m : Nat), K.lookup a = some o ∧ o.cls = .type "list" ∧ o.dict = none ∧ o.data = .seq its m ∧ its.size ≤ sizeLine ∧ Vals xs its.toList
/-- a tuple of the module's -/
def KTup (a : Addr) (xs : List V) : Prop := (∃ o, H a = some (.frz o (.tup xs)) ∧ o.dict = none) ∨ ((∃ o, K.lookup a = some o ∧ o.dict = none) ∧ ∃ (o : Obj) (its : Array Value) (m : Nat), K.lookup a = some o ∧ o.cls = .type "tuple" ∧ o.data = .seq its m ∧ its.size ≤ sizeLine ∧ Vals xs its.toList)
/-- a dict that stays -/
def DvAt (a : Addr) (kvs : List (Key × V)) : Prop := (H a = some (.dK kvs) ∨ ∃ o, H a = some (.frz o (.dK kvs))) ∧ ∀ i, i < n → ρ i ≠ a
mutual
def Rep : D → V → Prop
  | .non, v => v = .non
  | .bl b, v => v = .bl b
  | .int i, v => v = .int i
  | .str x, v => v = .str x
  | .tup ds, v => ∃ a xs, v = .ref a ∧ H a = some (.tup xs) ∧ Reps ds xs
  | .ktup ds, v => ∃ a xs, v = .ref a ∧ KTup K H a xs ∧ Reps ds xs
  | .lv ds, v => ∃ a xs, v = .ref a ∧ LvAt ca ρ n H a xs ∧ Reps ds xs
  | .kl ds, v => ∃ a xs, v = .ref a ∧ KlAt K H a xs ∧ Reps ds xs
  | .dv ks vs, v => ∃ a kvs, v = .ref a ∧ DvAt ρ n H a kvs ∧ ks = kvs.map (fun p => kD p.1) ∧ Reps vs (kvs.map (·.2))
  | .obj i, v => i < n ∧ v = .ref (ρ i)
  | .ty s, v => v = .ty s
  | .glb x, v => ∃ a, ca x = some a ∧ v = .ref a
def Reps : List D → List V → Prop
  | [], vs => vs = []
  | d :: ds, vs => ∃ v r, vs = v :: r ∧ Rep d v ∧ Reps ds r
end
/-- the values of a dict, key by key -/
def RepKV {κ : Type} : List (κ × D) → List (κ × V) → Prop
  | [], vs => vs = []
  | d :: ds, vs => ∃ v r, vs = (d.1, v) :: r ∧ Rep K ca ρ n H d.2 v ∧ RepKV ds r
/-- what stands for an object of the store -/
def ORep : MO → Addr → Prop
  | .lst ds, a => ∃ xs, H a = some (.lst xs) ∧ Reps K ca ρ n H ds xs
  | .dic kvs, a => ∃ ws, H a = some (.dK ws) ∧ RepKV K ca ρ n H kvs ws
  | .dit kvs, a => ∃ ws, H a = some (.dT ws) ∧ RepKV K ca ρ n H kvs ws
  | .lck kvs, a => ∃ o ws, H a = some (.frz o (.dK ws)) ∧ RepKV K ca ρ n H kvs ws
  | .ins c fs, a => ∃ C dx ws, ca c = some C ∧ H a = some (.ins C dx ws) ∧ H dx = some (.own a) ∧ RepKV K ca ρ n H fs ws
end

/-- what is kept on the way -/
structure Ext (ρ : Nat → Addr) (n : Nat) (H : Hp) (ρ' : Nat → Addr) (n' : Nat) (H' : Hp) : Prop where
  le : n ≤ n'
  same : ∀ i, i < n → ρ' i = ρ i
  new : ∀ i, n ≤ i → i < n' → H (ρ' i) = none
  keep : ∀ a o, H a = some o → (∀ ps, o ≠ .tbl ps) → (∀ i, i < n → ρ i ≠ a) → H' a = some o
  tups : ∀ a xs, H a = some (.tup xs) → H' a = some (.tup xs)
  frzs : ∀ a o u, H a = some (.frz o u) → H' a = some (.frz o u)
  owns : ∀ a x, H a = some (.own x) → H' a = some (.own x)
  there : ∀ a o, H a = some o → ∃ o', H' a = some o'

theorem Ext.refl (ρ : Nat → Addr) (n : Nat) (H : Hp) : Ext ρ n H ρ n H :=
  ⟨Nat.le_refl _, fun _ _ => rfl, fun i h1 h2 => absurd h2 (Nat.not_lt.mpr h1), fun _ _ e _ _ => e, fun _ _ e => e, fun _ _ _ e => e, fun _ _ e => e, fun _ o e => ⟨o, e⟩⟩
theorem Ext.trans {ρ ρ1 ρ2 : Nat → Addr} {n n1 n2 : Nat} {H H1 H2 : Hp} (a : Ext ρ n H ρ1 n1 H1) (b : Ext ρ1 n1 H1 ρ2 n2 H2) : Ext ρ n H ρ2 n2 H2 where
  le := Nat.le_trans a.le b.le
  same := fun i h => (b.same i (Nat.lt_of_lt_of_le h a.le)).trans (a.same i h)
  new := fun i h1 h2 => by
    by_cases h : i < n1
    · rw [b.same i h]; exact a.new i h1 h
    · have q := b.new i (Nat.le_of_not_lt h) h2
      cases e : H (ρ2 i) with
      | none => rfl
      | some o =>
        obtain ⟨o', e'⟩ := a.there _ _ e
        rw [e'] at q; cases q
  keep := fun c o e nt hn => by
    refine b.keep c o (a.keep c o e nt hn) nt fun i hi => ?_
    by_cases h : i < n
    · rw [a.same i h]; exact hn i h
    · intro q
      have z := a.new i (Nat.le_of_not_lt h) hi
      rw [q, e] at z; cases z
  tups := fun c xs e => b.tups c xs (a.tups c xs e)
  frzs := fun c o u e => b.frzs c o u (a.frzs c o u e)
  owns := fun c x e => b.owns c x (a.owns c x e)
  there := fun c o e => let ⟨o', e'⟩ := a.there c o e; b.there c o' e'

section
variable {K : PySem.W.Frag} {ca ca' : CA} {ρ ρ' : Nat → Addr} {n n' : Nat} {H H' : Hp}
theorem Ext.off (x : Ext ρ n H ρ' n' H') {a : Addr} {o : HO} (e : H a = some o) (hn : ∀ i, i < n → ρ i ≠ a) : ∀ i, i < n' → ρ' i ≠ a := fun i hi q => by
  by_cases h : i < n
  · rw [x.same i h] at q; exact hn i h q
  · have z := x.new i (Nat.le_of_not_lt h) hi
    rw [q, e] at z; cases z
theorem Ext.lst (x : Ext ρ n H ρ' n' H') {a : Addr} {xs : List V} (h : LvAt ca ρ n H a xs) : LvAt ca ρ' n' H' a xs := ⟨x.keep a _ h.1 (fun _ => nofun) h.2.1, x.off h.1 h.2.1, h.2.2⟩
theorem Ext.kl (x : Ext ρ n H ρ' n' H') {a : Addr} {xs : List V} (h : KlAt K H a xs) : KlAt K H' a xs := by
  rcases h with ⟨o, e⟩ | h
  · exact .inl ⟨o, x.frzs a o _ e⟩
  · exact .inr h
theorem Ext.dv (x : Ext ρ n H ρ' n' H') {a : Addr} {kvs : List (Key × V)} (h : DvAt ρ n H a kvs) : DvAt ρ' n' H' a kvs := by
  obtain ⟨h, hn⟩ := h
  rcases h with e | ⟨o, e⟩
  · exact ⟨.inl (x.keep a _ e (fun _ => nofun) hn), x.off e hn⟩
  · exact ⟨.inr ⟨o, x.keep a _ e (fun _ => nofun) hn⟩, x.off e hn⟩
/-- what a value needs to stand on -/
structure RK (K : PySem.W.Frag) (ca : CA) (ρ : Nat → Addr) (n : Nat) (H : Hp) (ca' : CA) (ρ' : Nat → Addr) (n' : Nat) (H' : Hp) : Prop where
  f : ca'.f = ca.f
  le : n ≤ n'
  same : ∀ i, i < n → ρ' i = ρ i
  tup : ∀ a xs, H a = some (.tup xs) → H' a = some (.tup xs)
  lst : ∀ a xs, LvAt ca ρ n H a xs → LvAt ca' ρ' n' H' a xs
  kl : ∀ a xs, KlAt K H a xs → KlAt K H' a xs
  dv : ∀ a kvs, DvAt ρ n H a kvs → DvAt ρ' n' H' a kvs
  frz : ∀ a o xs, H a = some (.frz o (.tup xs)) → H' a = some (.frz o (.tup xs))
theorem Ext.rk (x : Ext ρ n H ρ' n' H') : RK K ca ρ n H ca ρ' n' H' := ⟨rfl, x.le, x.same, x.tups, fun _ _ => x.lst, fun _ _ => x.kl, fun _ _ => x.dv, fun a o _ => x.frzs a o _⟩
mutual
theorem Rep.rk (x : RK K ca ρ n H ca' ρ' n' H') : ∀ {d : D} {v : V}, Rep K ca ρ n H d v → Rep K ca' ρ' n' H' d v
  | .non, v, h => by simpa only [Rep] using h
  | .bl b, v, h => by simpa only [Rep] using h
  | .int i, v, h => by simpa only [Rep] using h
  | .str s, v, h => by simpa only [Rep] using h
  | .tup ds, v, h => by
    simp only [Rep] at h ⊢
    obtain ⟨a, xs, e, q, r⟩ := h
    exact ⟨a, xs, e, x.tup a xs q, Reps.rk x r⟩
  | .ktup ds, v, h => by
    simp only [Rep] at h ⊢
    obtain ⟨a, xs, e, q, r⟩ := h
    exact ⟨a, xs, e, q.imp (fun ⟨o, h1, h2⟩ => ⟨o, x.frz _ _ _ h1, h2⟩) id, Reps.rk x r⟩
  | .lv ds, v, h => by
    simp only [Rep] at h ⊢
    obtain ⟨a, xs, e, q, r⟩ := h
    exact ⟨a, xs, e, x.lst a xs q, Reps.rk x r⟩
  | .kl ds, v, h => by
    simp only [Rep] at h ⊢
    obtain ⟨a, xs, e, q, r⟩ := h
    exact ⟨a, xs, e, x.kl a xs q, Reps.rk x r⟩
  | .dv ks vs, v, h => by
    simp only [Rep] at h ⊢
    obtain ⟨a, kvs, e, q, hk, r⟩ := h
    exact ⟨a, kvs, e, x.dv a kvs q, hk, Reps.rk x r⟩
  | .obj i, v, h => by
    simp only [Rep] at h ⊢
    exact ⟨Nat.lt_of_lt_of_le h.1 x.le, by rw [x.same i h.1]; exact h.2⟩
  | .ty s, v, h => by simpa only [Rep] using h
  | .glb s, v, h => by simp only [Rep] at h ⊢; rw [x.f]; exact h
theorem Reps.rk (x : RK K ca ρ n H ca' ρ' n' H') : ∀ {ds : List D} {vs : List V}, Reps K ca ρ n H ds vs → Reps K ca' ρ' n' H' ds vs
  | [], vs, h => by simpa only [Reps] using h
  | d :: ds, vs, h => by
    simp only [Reps] at h ⊢
    obtain ⟨v, r, e, h1, h2⟩ := h
    exact ⟨v, r, e, Rep.rk x h1, Reps.rk x h2⟩
end
theorem RepKV.rk (x : RK K ca ρ n H ca' ρ' n' H') {κ : Type} : ∀ {ds : List (κ × D)} {vs : List (κ × V)}, RepKV K ca ρ n H ds vs → RepKV K ca' ρ' n' H' ds vs
  | [], vs, h => by simpa only [RepKV] using h
  | d :: ds, vs, h => by
    simp only [RepKV] at h ⊢
    obtain ⟨v, r, e, h1, h2⟩ := h
    exact ⟨v, r, e, h1.rk x, RepKV.rk x h2⟩

theorem Rep.ext (x : Ext ρ n H ρ' n' H') {d : D} {v : V} (h : Rep K ca ρ n H d v) : Rep K ca ρ' n' H' d v := h.rk x.rk
theorem Reps.ext (x : Ext ρ n H ρ' n' H') {d : List D} {v : List V} (h : Reps K ca ρ n H d v) : Reps K ca ρ' n' H' d v := h.rk x.rk
theorem RepKV.ext (x : Ext ρ n H ρ' n' H') {κ : Type} {d : List (κ × D)} {v : List (κ × V)} (h : RepKV K ca ρ n H d v) : RepKV K ca ρ' n' H' d v := h.rk x.rk

theorem Reps.length : ∀ {ds : List D} {vs : List V}, Reps K ca ρ n H ds vs → vs.length = ds.length
  | [], vs, h => by simp only [Reps] at h; simp [h]
  | d :: ds, vs, h => by
    simp only [Reps] at h
    obtain ⟨v, r, e, _, h2⟩ := h
    simp [e, Reps.length h2]
theorem Reps.nil : Reps K ca ρ n H [] [] := by simp only [Reps]
theorem Reps.cons {d : D} {ds : List D} {v : V} {vs : List V} (h : Rep K ca ρ n H d v) (t : Reps K ca ρ n H ds vs) : Reps K ca ρ n H (d :: ds) (v :: vs) := by
  simp only [Reps]; exact ⟨v, vs, rfl, h, t⟩
theorem Reps.append : ∀ {ds es : List D} {vs us : List V}, Reps K ca ρ n H ds vs → Reps K ca ρ n H es us → Reps K ca ρ n H (ds ++ es) (vs ++ us)
  | [], es, vs, us, h, t => by simp only [Reps] at h; subst h; exact t
  | d :: ds, es, vs, us, h, t => by
    simp only [Reps] at h
    obtain ⟨v, r, rfl, h1, h2⟩ := h
    exact Reps.cons h1 (Reps.append h2 t)
theorem Reps.get : ∀ {ds : List D} {vs : List V} {i : Nat} {d : D}, Reps K ca ρ n H ds vs → ds[i]? = some d → ∃ v, vs[i]? = some v ∧ Rep K ca ρ n H d v
  | [], vs, i, d, h, e => by simp at e
  | d' :: ds, vs, 0, d, h, e => by
    simp only [Reps] at h
    obtain ⟨v, r, rfl, h1, _⟩ := h
    simp at e; subst e
    exact ⟨v, rfl, h1⟩
  | d' :: ds, vs, i + 1, d, h, e => by
    simp only [Reps] at h
    obtain ⟨v, r, rfl, _, h2⟩ := h
    obtain ⟨u, e', q⟩ := Reps.get (i := i) h2 (by simpa using e)
    exact ⟨u, by simpa using e', q⟩
theorem Reps.back : ∀ {ds : List D} {vs : List V} {i : Nat} {v : V}, Reps K ca ρ n H ds vs → vs[i]? = some v → ∃ d, ds[i]? = some d ∧ Rep K ca ρ n H d v
  | [], vs, i, v, h, e => by simp only [Reps] at h; subst h; simp at e
  | d' :: ds, vs, 0, v, h, e => by
    simp only [Reps] at h
    obtain ⟨v', r, rfl, h1, _⟩ := h
    simp at e; subst e
    exact ⟨d', rfl, h1⟩
  | d' :: ds, vs, i + 1, v, h, e => by
    simp only [Reps] at h
    obtain ⟨v', r, rfl, _, h2⟩ := h
    obtain ⟨u, e', q⟩ := Reps.back (i := i) h2 (by simpa using e)
    exact ⟨u, by simpa using e', q⟩
theorem Reps.take : ∀ {ds : List D} {vs : List V} (k : Nat), Reps K ca ρ n H ds vs → Reps K ca ρ n H (ds.take k) (vs.take k)
  | ds, vs, 0, h => by simp only [List.take_zero]; exact Reps.nil
  | [], vs, k + 1, h => by simp only [Reps] at h; subst h; simp only [List.take_nil]; exact Reps.nil
  | d :: ds, vs, k + 1, h => by
    simp only [Reps] at h
    obtain ⟨v, r, rfl, h1, h2⟩ := h
    simp only [List.take_succ_cons]
    exact Reps.cons h1 (Reps.take k h2)
theorem Reps.drop : ∀ {ds : List D} {vs : List V} (k : Nat), Reps K ca ρ n H ds vs → Reps K ca ρ n H (ds.drop k) (vs.drop k)
  | ds, vs, 0, h => by simpa using h
  | [], vs, k + 1, h => by simp only [Reps] at h; subst h; simp only [List.drop_nil]; exact Reps.nil
  | d :: ds, vs, k + 1, h => by
    simp only [Reps] at h
    obtain ⟨v, r, rfl, h1, h2⟩ := h
    simp only [List.drop_succ_cons]
    exact Reps.drop k h2
theorem Reps.set {d : D} {v : V} (hd : Rep K ca ρ n H d v) : ∀ {ds : List D} {vs : List V} (k : Nat), Reps K ca ρ n H ds vs → Reps K ca ρ n H (ds.set k d) (vs.set k v)
  | [], vs, k, h => by simp only [Reps] at h; subst h; simp only [List.set_nil]; exact Reps.nil
  | d' :: ds, vs, 0, h => by
    simp only [Reps] at h
    obtain ⟨v', r, rfl, h1, h2⟩ := h
    simp only [List.set_cons_zero]
    exact Reps.cons hd h2
  | d' :: ds, vs, k + 1, h => by
    simp only [Reps] at h
    obtain ⟨v', r, rfl, h1, h2⟩ := h
    simp only [List.set_cons_succ]
    exact Reps.cons h1 (Reps.set hd k h2)
theorem Reps.reverse : ∀ {ds : List D} {vs : List V}, Reps K ca ρ n H ds vs → Reps K ca ρ n H ds.reverse vs.reverse
  | [], vs, h => by simp only [Reps] at h; subst h; exact Reps.nil
  | d :: ds, vs, h => by
    simp only [Reps] at h
    obtain ⟨v, r, rfl, h1, h2⟩ := h
    simp only [List.reverse_cons]
    exact (Reps.reverse h2).append (Reps.cons h1 Reps.nil)
theorem KTup.seq {a : Addr} {xs : List V} (h : KTup K H a xs) : SqT K H a xs := by
  rcases h with ⟨o, h, _⟩ | h
  · exact .inl (.inr ⟨o, h⟩)
  · exact .inr h.2
theorem KTup.ext {a : Addr} {xs : List V} (h : KTup K H a xs) (x : Ext ρ n H ρ' n' H') : KTup K H' a xs := h.imp (fun ⟨o, h1, h2⟩ => ⟨o, x.frzs _ _ _ h1, h2⟩) id
theorem DvAt.rd {a : Addr} {kvs : List (Key × V)} (h : DvAt ρ n H a kvs) : Rd H a (.dK kvs) := by
  exact h.1
theorem LvAt.seq {a : Addr} {xs : List V} (h : LvAt ca ρ n H a xs) : SqL K H a xs := .inl (.inl h.1)
theorem KlAt.seq {a : Addr} {xs : List V} (h : KlAt K H a xs) : SqL K H a xs := by
  rcases h with ⟨o, e⟩ | h
  · exact .inl (.inr ⟨o, e⟩)
  · exact .inr h
end

/-- the store stands in the heap -/
structure SRep (K : PySem.W.Frag) (ca : CA) (ρ : Nat → Addr) (H : Hp) (st : Sto) : Prop where
  at_ : ∀ i o, st[i]? = some o → ORep K ca ρ st.length H o (ρ i)
  inj : ∀ i j, i < st.length → j < st.length → ρ i = ρ j → i = j
  res : ∀ a, a ∈ ca.rv → (∃ xs, H a = some (.lst xs)) ∧ ∀ i, i < st.length → ρ i ≠ a
  tab : Tabs ca.f.tb H
section
variable {K : PySem.W.Frag} {ca : CA} {ρ ρ' : Nat → Addr} {n n' : Nat} {H H' : Hp} {st : Sto}
/-- it may be written -/
def MO.open_ : MO → Bool
  | .lck _ => false
  | _ => true
theorem ORep.there {o : MO} {a : Addr} (h : ORep K ca ρ n H o a) : ∃ u, H a = some u ∧ (o.open_ = true → Mut (some u)) := by
  cases o with
  | lst ds => obtain ⟨xs, e, _⟩ := h; exact ⟨_, e, fun _ => True.intro⟩
  | dic ks => obtain ⟨xs, e, _⟩ := h; exact ⟨_, e, fun _ => True.intro⟩
  | dit ks => obtain ⟨xs, e, _⟩ := h; exact ⟨_, e, fun _ => True.intro⟩
  | lck ks => obtain ⟨o, xs, e, _⟩ := h; exact ⟨_, e, (fun q => nomatch q)⟩
  | ins c fs => obtain ⟨C, dx, xs, _, e, _⟩ := h; exact ⟨_, e, fun _ => True.intro⟩
theorem noTab_open {o : MO} {a : Addr} {u : HO} (h : ORep K ca ρ n H o a) (ho : o.open_ = true) (e : H a = some u) : NoTab u := by
  cases o with
  | lst ds => obtain ⟨xs, e', _⟩ := h; rw [e] at e'; cases e'; exact ⟨fun _ => nofun, fun c q z => by unfold CodeO at z; cases z⟩
  | dic ks => obtain ⟨xs, e', _⟩ := h; rw [e] at e'; cases e'; exact ⟨fun _ => nofun, fun c q z => by unfold CodeO at z; cases z⟩
  | dit ks => obtain ⟨xs, e', _⟩ := h; rw [e] at e'; cases e'; exact ⟨fun _ => nofun, fun c q z => by unfold CodeO at z; cases z⟩
  | lck ks => cases ho
  | ins c fs => obtain ⟨C, dx, xs, _, e', _⟩ := h; rw [e] at e'; cases e'; exact ⟨fun _ => nofun, fun c q z => by unfold CodeO at z; cases z⟩
theorem SRep.there (s : SRep K ca ρ H st) {i : Nat} (h : i < st.length) : ∃ u, H (ρ i) = some u ∧ (st[i].open_ = true → Mut (some u)) :=
  (s.at_ i st[i] (List.getElem?_eq_getElem h)).there
theorem SRep.ne_new (s : SRep K ca ρ H st) {p : Addr} (hp : H p = none) : ∀ i, i < st.length → ρ i ≠ p := fun i h q => by
  obtain ⟨u, e, _⟩ := s.there h
  rw [q, hp] at e; cases e
/-- a new object beside the store -/
theorem Ext.upd_new (s : SRep K ca ρ H st) {p : Addr} {o : HO} (hp : H p = none) : Ext ρ st.length H ρ st.length (upd H p o) where
  le := Nat.le_refl _
  same := fun _ _ => rfl
  new := fun i h1 h2 => absurd h2 (Nat.not_lt.mpr h1)
  keep := fun a u e _ _ => by rw [upd_ne (ne_of_none e hp)]; exact e
  tups := fun a u e => by rw [upd_ne (ne_of_none e hp)]; exact e
  frzs := fun a u w e => by rw [upd_ne (ne_of_none e hp)]; exact e
  owns := fun a u e => by rw [upd_ne (ne_of_none e hp)]; exact e
  there := fun a u e => ⟨u, by rw [upd_ne (ne_of_none e hp)]; exact e⟩
theorem SRep.res_ext {st' : Sto} (s : SRep K ca ρ H st) (x : Ext ρ st.length H ρ' st'.length H') : ∀ a, a ∈ ca.rv → (∃ xs, H' a = some (.lst xs)) ∧ ∀ i, i < st'.length → ρ' i ≠ a := fun a ha =>
  let ⟨⟨xs, e⟩, hn⟩ := s.res a ha
  ⟨⟨xs, x.keep a _ e (fun _ => nofun) hn⟩, x.off e hn⟩
theorem SRep.not_res (s : SRep K ca ρ H st) {p : Addr} (hp : H p = none) : p ∉ ca.rv := fun h => by
  obtain ⟨⟨xs, e⟩, _⟩ := s.res p h
  rw [hp] at e; cases e
theorem ORep.ext (x : Ext ρ n H ρ' n' H') {o : MO} {a : Addr} (h : ORep K ca ρ n H o a) (ha : ∀ u, H a = some u → H' a = some u) : ORep K ca ρ' n' H' o a := by
  cases o with
  | lst ds => obtain ⟨xs, e, r⟩ := h; exact ⟨xs, ha _ e, r.ext x⟩
  | dic ks => obtain ⟨xs, e, r⟩ := h; exact ⟨xs, ha _ e, r.ext x⟩
  | dit ks => obtain ⟨xs, e, r⟩ := h; exact ⟨xs, ha _ e, r.ext x⟩
  | lck ks => obtain ⟨o, xs, e, r⟩ := h; exact ⟨o, xs, ha _ e, r.ext x⟩
  | ins c fs => obtain ⟨C, dx, xs, c1, e, d, r⟩ := h; exact ⟨C, dx, xs, c1, ha _ e, x.owns _ _ d, r.ext x⟩
/-- the store as it is, in a heap that has grown -/
theorem SRep.grow (s : SRep K ca ρ H st) (x : Ext ρ st.length H ρ st.length H') (k : ∀ i, i < st.length → ∀ u, H (ρ i) = some u → H' (ρ i) = some u) (t : Tabs ca.f.tb H') : SRep K ca ρ H' st :=
  ⟨fun i o e => (s.at_ i o e).ext x (k i (List.getElem?_eq_some_iff.mp e).1), s.inj, s.res_ext (st' := st) x, t⟩
theorem SRep.upd_new (s : SRep K ca ρ H st) {p : Addr} {o : HO} (hp : H p = none) : SRep K ca ρ (upd H p o) st :=
  s.grow (Ext.upd_new s hp) (fun i h u e => by rw [upd_ne (s.ne_new hp i h)]; exact e) (tabs_ext (fun b o e => by rw [upd_ne (ne_of_none e hp)]; exact e) s.tab)
/-- ρ with one more -/
def more (ρ : Nat → Addr) (n : Nat) (p : Addr) : Nat → Addr := fun i => if i = n then p else ρ i
theorem more_same {ρ : Nat → Addr} {n : Nat} {p : Addr} : more ρ n p n = p := if_pos rfl
theorem more_lt {ρ : Nat → Addr} {n : Nat} {p : Addr} {i : Nat} (h : i < n) : more ρ n p i = ρ i := if_neg (Nat.ne_of_lt h)
/-- a new object of the store, at p, in a heap H' that has kept all and has it -/
theorem Ext.more (s : SRep K ca ρ H st) {p : Addr} (hp : H p = none) (k : ∀ a u, H a = some u → H' a = some u) : Ext ρ st.length H (more ρ st.length p) (st.length + 1) H' where
  le := Nat.le_succ _
  same := fun i h => more_lt h
  new := fun i h1 h2 => by
    have e : i = st.length := by omega
    subst e; rw [more_same]; exact hp
  keep := fun a u e _ _ => k a u e
  tups := fun a u e => k a _ e
  frzs := fun a u w e => k a _ e
  owns := fun a u e => k a _ e
  there := fun a u e => ⟨u, k a u e⟩
theorem SRep.more (s : SRep K ca ρ H st) {p : Addr} {m : MO} (hp : H p = none) (k : ∀ a u, H a = some u → H' a = some u) (hm : ORep K ca (more ρ st.length p) (st.length + 1) H' m p) : SRep K ca (more ρ st.length p) H' (st ++ [m]) := by
  have x := Ext.more s hp k
  refine ⟨fun i o e => ?_, fun i j hi hj q => ?_, s.res_ext (st' := st ++ [m]) (by rw [List.length_append, List.length_singleton]; exact x), tabs_ext k s.tab⟩
  · rw [List.length_append, List.length_singleton]
    by_cases h : i < st.length
    · rw [List.getElem?_append_left h] at e
      have r := (s.at_ i o e).ext x (k _)
      rw [more_lt h]; exact r
    · have hi : i = st.length := by
        have := (List.getElem?_eq_some_iff.mp e).1
        simp at this; omega
      subst hi
      simp at e; subst e
      rw [more_same]; exact hm
  · simp at hi hj
    by_cases h : i < st.length
    · by_cases h' : j < st.length
      · rw [more_lt h, more_lt h'] at q; exact s.inj i j h h' q
      · have hj : j = st.length := by omega
        subst hj
        rw [more_lt h, more_same] at q
        exact absurd q (s.ne_new hp i h)
    · have hi : i = st.length := by omega
      subst hi
      by_cases h' : j < st.length
      · rw [more_lt h', more_same] at q
        exact absurd q.symm (s.ne_new hp j h')
      · omega
/-- an object of the store is changed -/
theorem Ext.write (s : SRep K ca ρ H st) {i : Nat} {o : HO} {m0 : MO} (hi : st[i]? = some m0) (hm : m0.open_ = true) : Ext ρ st.length H ρ st.length (upd H (ρ i) o) where
  le := Nat.le_refl _
  same := fun _ _ => rfl
  new := fun i h1 h2 => absurd h2 (Nat.not_lt.mpr h1)
  keep := fun a u e _ hn => by rw [upd_ne (Ne.symm (hn i (List.getElem?_eq_some_iff.mp hi).1))]; exact e
  tups := fun a u e => by
    obtain ⟨v, e', m⟩ := (s.at_ i _ hi).there
    rw [upd_ne (ne_of e e' (fun q => by subst q; exact m hm))]; exact e
  frzs := fun a u w e => by
    obtain ⟨v, e', m⟩ := (s.at_ i _ hi).there
    rw [upd_ne (ne_of e e' (fun q => by subst q; exact m hm))]; exact e
  owns := fun a u e => by
    obtain ⟨v, e', m⟩ := (s.at_ i _ hi).there
    rw [upd_ne (ne_of e e' (fun q => by subst q; exact m hm))]; exact e
  there := fun a u e => by
    by_cases h : a = ρ i
    · subst h; exact ⟨o, upd_same⟩
    · exact ⟨u, by rw [upd_ne h]; exact e⟩
theorem SRep.write (s : SRep K ca ρ H st) {i : Nat} {o : HO} {m m0 : MO} (h0 : st[i]? = some m0) (ho : m0.open_ = true) (hm : ORep K ca ρ st.length (upd H (ρ i) o) m (ρ i)) : SRep K ca ρ (upd H (ρ i) o) (st.set i m) := by
  have x : Ext ρ st.length H ρ st.length (upd H (ρ i) o) := Ext.write s h0 ho
  have hi := (List.getElem?_eq_some_iff.mp h0).1
  refine ⟨fun j q e => ?_, fun a b ha hb q => s.inj a b (by simpa using ha) (by simpa using hb) q, s.res_ext (st' := st.set i m) (by rw [List.length_set]; exact x), (s.at_ i _ h0).there.elim fun u hu => tabs_write hu.1 (noTab_open (s.at_ i _ h0) ho hu.1) s.tab⟩
  rw [List.length_set]
  by_cases h : j = i
  · subst h
    rw [List.getElem?_set_self hi] at e; cases e
    exact hm
  · rw [List.getElem?_set_ne (Ne.symm h)] at e
    have hj := (List.getElem?_eq_some_iff.mp e).1
    exact (s.at_ j q e).ext x fun u hu => by rw [upd_ne (fun z => h (s.inj j i hj hi z))]; exact hu
end
end DL
set_option Elab.async false
set_option linter.all false
set_option maxRecDepth 100000
set_option maxHeartbeats 4000000
namespace DL
open PySem PySem.Spec PyProof.Rows L2

/-- the names' values -/
abbrev Ti := List (Option D)
/-- a result: a value, or an exception of one's own class with its fields; bad: not told -/
inductive R (α : Type) where
  | ok (a : α) (st : Sto)
  | ex (c : Str) (fs : List (Str × D)) (τ : Ti) (st : Sto)
  | bad
def R.bind {α β : Type} (r : R α) (k : α → Sto → R β) : R β :=
  match r with
  | .ok a st => k a st
  | .ex c fs τ st => .ex c fs τ st
  | .bad => .bad
theorem R.bind_assoc {α β γ : Type} (r : R α) (k : α → Sto → R β) (l : β → Sto → R γ) : (r.bind k).bind l = r.bind fun a st => (k a st).bind l := by
  cases r <;> rfl
/-- a statement's end -/
inductive Out where
  | nx (τ : Ti) | rt (d : D) | bk (τ : Ti) | ct (τ : Ti)
abbrev FE := Ti → Sto → R D
abbrev FA := Ti → Sto → R (List D)
abbrev FB := Ti → Sto → R Bool
abbrev FS := Ti → Sto → R Out

section
variable (K : PySem.W.Frag) (ca : CA)
def Slots (ρ : Nat → Addr) (n : Nat) (H : Hp) (τ : Ti) (σ : L2.St) : Prop := τ.length = σ.length ∧ ∀ (i : Nat) (d : D), τ[i]? = some (some d) → ∃ v, σ[i]? = some (some v) ∧ Rep K ca ρ n H d v
/-- an exception's own dict -/
def ExRep (ρ : Nat → Addr) (n : Nat) (H : Hp) (fs : List (Str × D)) (dx : Option Addr) : Prop :=
  fs = [] ∨ ∃ dd ws, dx = some dd ∧ H dd = some (.xd ws) ∧ RepKV K ca ρ n H fs ws
/-- what is wanted behind a result -/
def Post {α : Type} (W : WX) (ρ : Nat → Addr) (n : Nat) (H : Hp) (r : R α) (F : α → (Nat → Addr) → Sto → Hp → Prop) : Prop :=
  match r with
  | .ok a st => ∀ H' ρ', Ext ρ n H ρ' st.length H' → SRep K ca ρ' H' st → F a ρ' st H'
  | .ex c fs τ st => ∀ C σ dx H' ρ', ca c = some C → Ext ρ n H ρ' st.length H' → Slots K ca ρ' st.length H' τ σ → ExRep K ca ρ' st.length H' fs dx → SRep K ca ρ' H' st → W (.ref C) dx σ H'
  | .bad => False
def KD (Q : VK) : D → (Nat → Addr) → Sto → Hp → Prop := fun d ρ st H => ∀ v, Rep K ca ρ st.length H d v → Q v H
def KA (Q : List V → Hp → Prop) : List D → (Nat → Addr) → Sto → Hp → Prop := fun d ρ st H => ∀ v, Reps K ca ρ st.length H d v → Q v H
def KB (Q : Bool → Hp → Prop) : Bool → (Nat → Addr) → Sto → Hp → Prop := fun b _ _ H => Q b H
def KS (Dn : Ends) : Out → (Nat → Addr) → Sto → Hp → Prop := fun o ρ st H =>
  match o with
  | .nx τ => ∀ σ, Slots K ca ρ st.length H τ σ → Dn.nx σ H
  | .bk τ => ∀ σ, Slots K ca ρ st.length H τ σ → Dn.bk σ H
  | .ct τ => ∀ σ, Slots K ca ρ st.length H τ σ → Dn.ct σ H
  | .rt d => ∀ v, Rep K ca ρ st.length H d v → Dn.rt v H
/-- at slots σ and heap H stand τ and st, and behind f what is wanted -/
def At {α : Type} (W : WX) (f : Ti → Sto → R α) (σ : L2.St) (H : Hp) (F : α → (Nat → Addr) → Sto → Hp → Prop) : Prop :=
  ∃ ρ st τ, Slots K ca ρ st.length H τ σ ∧ SRep K ca ρ H st ∧ Post K ca W ρ st.length H (f τ st) F
def tD (W : WX) (f : FE) : TE := fun σ H Q => At K ca W f σ H (KD K ca Q)
def tDA (W : WX) (f : FA) : TA := fun σ H Q => At K ca W f σ H (KA K ca Q)
def tDB (W : WX) (f : FB) : TT := fun σ H Q => At K ca W f σ H (KB Q)
def tDS (W : WX) (f : FS) : TS := fun Dn σ H => At K ca W f σ H (KS K ca Dn)
end

section
variable {K : PySem.W.Frag} {ca : CA} {W : WX} {ρ ρ' : Nat → Addr} {n n' : Nat} {H H' : Hp} {st : Sto} {τ : Ti} {σ : L2.St} {α β : Type}
theorem Slots.ext (x : Ext ρ n H ρ' n' H') (h : Slots K ca ρ n H τ σ) : Slots K ca ρ' n' H' τ σ := ⟨h.1, fun i d e =>
  let ⟨v, e', r⟩ := h.2 i d e; ⟨v, e', r.ext x⟩⟩
theorem Slots.set (h : Slots K ca ρ n H τ σ) {d : D} {v : V} (r : Rep K ca ρ n H d v) (i : Nat) : Slots K ca ρ n H (τ.set i (some d)) (σ.set i (some v)) := by
  refine ⟨by simp [h.1], fun j e q => ?_⟩
  by_cases hj : j = i
  · subst hj
    have hl : j < τ.length := by
      have := (List.getElem?_eq_some_iff.mp q).1
      simpa using this
    rw [List.getElem?_set_self hl] at q
    cases q
    exact ⟨v, by rw [List.getElem?_set_self (by rw [← h.1]; exact hl)], r⟩
  · rw [List.getElem?_set_ne (Ne.symm hj)] at q
    obtain ⟨u, e', r'⟩ := h.2 j e q
    exact ⟨u, by rw [List.getElem?_set_ne (Ne.symm hj)]; exact e', r'⟩
theorem Post.pre {r : R α} {F : α → (Nat → Addr) → Sto → Hp → Prop} (x : Ext ρ n H ρ' n' H') (h : Post K ca W ρ n H r F) : Post K ca W ρ' n' H' r F := by
  cases r with
  | ok d st => exact fun H2 ρ2 y s => h H2 ρ2 (x.trans y) s
  | ex c fs τ st => exact fun C σ dx H2 ρ2 e y sl r s => h C σ dx H2 ρ2 e (x.trans y) sl r s
  | bad => exact h
theorem Post.mono {r : R α} {F G : α → (Nat → Addr) → Sto → Hp → Prop} (h : Post K ca W ρ n H r F) (i : ∀ a ρ' st H', Ext ρ n H ρ' st.length H' → SRep K ca ρ' H' st → F a ρ' st H' → G a ρ' st H') : Post K ca W ρ n H r G := by
  cases r with
  | ok d st => exact fun H2 ρ2 y s => i _ _ _ _ y s (h H2 ρ2 y s)
  | ex c fs τ st => exact h
  | bad => exact h
/-- the value stands already -/
theorem Post.here {a : α} {F : α → (Nat → Addr) → Sto → Hp → Prop} (h : Post K ca W ρ st.length H (.ok a st) F) (s : SRep K ca ρ H st) : F a ρ st H := h H ρ (Ext.refl _ _ _) s
theorem Post.bind {f : R α} {k : α → Sto → R β} {F : β → (Nat → Addr) → Sto → Hp → Prop} (h : Post K ca W ρ n H (f.bind k) F) :
    Post K ca W ρ n H f fun a ρ1 st1 H1 => Ext ρ n H ρ1 st1.length H1 ∧ SRep K ca ρ1 H1 st1 ∧ Post K ca W ρ1 st1.length H1 (k a st1) F := by
  cases f with
  | ok a st1 => exact fun H1 ρ1 x s => ⟨x, s, Post.pre x h⟩
  | ex c fs τ st => exact h
  | bad => exact h
/-- an expression is walked first; g: what stands then, what is left -/
theorem at_of {f : Ti → Sto → R α} {F : α → (Nat → Addr) → Sto → Hp → Prop} {G : β → (Nat → Addr) → Sto → Hp → Prop} {k : α → Sto → R β} (sl : Slots K ca ρ st.length H τ σ) (s : SRep K ca ρ H st) (h : Post K ca W ρ st.length H ((f τ st).bind k) G)
    (g : ∀ a ρ1 st1 H1, Ext ρ st.length H ρ1 st1.length H1 → Slots K ca ρ1 st1.length H1 τ σ → SRep K ca ρ1 H1 st1 → Post K ca W ρ1 st1.length H1 (k a st1) G → F a ρ1 st1 H1) : At K ca W f σ H F :=
  ⟨ρ, st, τ, sl, s, (Post.bind h).mono fun a ρ1 st1 H1 x s1 q => g a ρ1 st1 H1 x (sl.ext x) s1 q.2.2⟩
/-- .. with what it came to -/
theorem at_ofE {f : Ti → Sto → R α} {F : α → (Nat → Addr) → Sto → Hp → Prop} {G : β → (Nat → Addr) → Sto → Hp → Prop} {k : α → Sto → R β} (sl : Slots K ca ρ st.length H τ σ) (s : SRep K ca ρ H st) (h : Post K ca W ρ st.length H ((f τ st).bind k) G)
    (g : ∀ a ρ1 st1 H1, f τ st = .ok a st1 → Ext ρ st.length H ρ1 st1.length H1 → Slots K ca ρ1 st1.length H1 τ σ → SRep K ca ρ1 H1 st1 → Post K ca W ρ1 st1.length H1 (k a st1) G → F a ρ1 st1 H1) : At K ca W f σ H F := by
  refine ⟨ρ, st, τ, sl, s, ?_⟩
  cases e : f τ st with
  | bad => rw [e] at h; exact h
  | ex c fs τ' st' => rw [e] at h; exact h
  | ok a st1 =>
    rw [e] at h
    exact fun H1 ρ1 x s1 => g a ρ1 st1 H1 e x (sl.ext x) s1 (Post.pre x h)
end

/-! ### weaker readings -/
section
variable {X : Cx}
theorem pe_imp {e : Expr} {t t' : TE} (h : PE X e t) (i : ∀ σ H Q, t' σ H Q → t σ H Q) : PE X e t' := ⟨fun pins s σ H Q I q => h.run pins s σ H Q I (i σ H Q q)⟩
theorem pt_imp {e : Expr} {t t' : TT} (h : PT X e t) (i : ∀ σ H Q, t' σ H Q → t σ H Q) : PT X e t' := ⟨fun pins s σ H Q I q => h.run pins s σ H Q I (i σ H Q q)⟩
theorem pa_imp {e : List Expr} {t t' : TA} (h : PA X e t) (i : ∀ σ H Q, t' σ H Q → t σ H Q) : PA X e t' := ⟨fun pos pins s σ H Q I q => h.run pos pins s σ H Q I (i σ H Q q)⟩
theorem ps_imp {e : Stmt} {t t' : TS} (h : PS X e t) (i : ∀ Dn σ H, t' Dn σ H → t Dn σ H) : PS X e t' := ⟨fun pins s σ H Dn I q => h.run pins s σ H Dn I (i Dn σ H q)⟩
theorem pss_imp {e : List Stmt} {t t' : TS} (h : PSs X e t) (i : ∀ Dn σ H, t' Dn σ H → t Dn σ H) : PSs X e t' := ⟨fun pins s σ H Dn I q => h.run pins s σ H Dn I (i Dn σ H q)⟩
end

theorem pe_or {X : Cx} {e : Expr} {t t' : TE} (h : PE X e t) (h' : PE X e t') : PE X e (fun σ H Q => t σ H Q ∨ t' σ H Q) := ⟨fun pins s σ H Q I q => q.elim (h.run pins s σ H Q I) (h'.run pins s σ H Q I)⟩
/-! ### the judgements -/
section
variable (X : Cx) (ca : CA) (W : WX)
def JE (e : Expr) (f : FE) : Prop := PE X e (tD X.K ca W f)
def JA (es : List Expr) (f : FA) : Prop := PA X es (tDA X.K ca W f)
def JB (e : Expr) (f : FB) : Prop := PT X e (tDB X.K ca W f)
def JS (s : Stmt) (f : FS) : Prop := PS X s (tDS X.K ca W f)
def JSs (s : List Stmt) (f : FS) : Prop := PSs X s (tDS X.K ca W f)
/-- an operation by values -/
def rD2 (K : PySem.W.Frag) (g : D → D → Sto → R D) : R2 := fun x y H Q => ∃ ρ st d e, Rep K ca ρ st.length H d x ∧ Rep K ca ρ st.length H e y ∧ SRep K ca ρ H st ∧ Post K ca (fun _ _ _ _ => False) ρ st.length H (g d e st) (KD K ca Q)
def rD1 (K : PySem.W.Frag) (g : D → Sto → R D) : V → Hp → VK → Prop := fun x H Q => ∃ ρ st d, Rep K ca ρ st.length H d x ∧ SRep K ca ρ H st ∧ Post K ca (fun _ _ _ _ => False) ρ st.length H (g d st) (KD K ca Q)
def rDL (K : PySem.W.Frag) (g : List D → Sto → R D) : List V → Hp → VK → Prop := fun x H Q => ∃ ρ st d, Reps K ca ρ st.length H d x ∧ SRep K ca ρ H st ∧ Post K ca (fun _ _ _ _ => False) ρ st.length H (g d st) (KD K ca Q)
def rDM (K : PySem.W.Frag) (g : D → List D → Sto → R D) : V → List V → Hp → VK → Prop := fun x xs H Q => ∃ ρ st d ds, Rep K ca ρ st.length H d x ∧ Reps K ca ρ st.length H ds xs ∧ SRep K ca ρ H st ∧ Post K ca (fun _ _ _ _ => False) ρ st.length H (g d ds st) (KD K ca Q)
end
/-- an operation that raises nothing -/
def NoEx {α : Type} (r : R α) : Prop := ∀ c fs τ st, r ≠ .ex c fs τ st
theorem Post.nox {α : Type} {K : PySem.W.Frag} {ca : CA} {W : WX} {ρ : Nat → Addr} {n : Nat} {H : Hp} {r : R α} {F : α → (Nat → Addr) → Sto → Hp → Prop} (q : NoEx r) (h : Post K ca W ρ n H r F) : Post K ca (fun _ _ _ _ => False) ρ n H r F := by
  cases r with
  | ok a st => exact h
  | ex c fs τ st => exact absurd rfl (q c fs τ st)
  | bad => exact h

section
variable {X : Cx} {ca : CA} {W : WX} {a b c e : Expr} {es : List Expr} {f g k : FE} {pos : Pos}
/-! ### constants, names -/
def fC (d : D) : FE := fun _ st => .ok d st
def fV (i : Nat) : FE := fun τ st => match τ[i]? with
  | some (some d) => .ok d st
  | _ => .bad
theorem je_const {v : V} {d : D} (h : PE X e (tC v)) (r : ∀ ρ n H, Rep X.K ca ρ n H d v) : JE X ca W e (fC d) := pe_imp h fun σ H Q ⟨ρ, st, τ, _, s, h⟩ => h.here s v (r _ _ _)
theorem je_int {i j pos} : JE X ca W (.Constant (.int i) j pos) (fC (.int i)) := je_const pe_int fun _ _ _ => by simp only [Rep]
theorem je_bl {i j pos} : JE X ca W (.Constant (.bool i) j pos) (fC (.bl i)) := je_const pe_bl fun _ _ _ => by simp only [Rep]
theorem je_str {i j pos} : JE X ca W (.Constant (.str i) j pos) (fC (.str i)) := je_const pe_str fun _ _ _ => by simp only [Rep]
theorem je_non {j pos} : JE X ca W (.Constant .none j pos) (fC .non) := je_const pe_non fun _ _ _ => by simp only [Rep]
theorem je_var (i : Nat) {x : Str} {pos : Pos} (hN : X.N[i]? = some x := by rfl) (hv : Vis X.env.scope x := by first | exact Or.inl rfl | exact Or.inr (Or.inl rfl) | exact Or.inr (Or.inr rfl)) (hd : (x == ("__debug__" : Str)) = false := by decide)
    (hcd : (x == ("__classdict__" : Str)) = false := by decide) : JE X ca W (.Name x pos) (fV i) :=
  pe_imp (pe_var (i := i) hN hv hd hcd) fun σ H Q ⟨ρ, st, τ, sl, s, h⟩ => by
    cases e : τ[i]? with
    | none => simp only [fV, e] at h; exact h.elim
    | some o =>
      cases o with
      | none => simp only [fV, e] at h; exact h.elim
      | some d =>
        simp only [fV, e] at h
        obtain ⟨v, e', r⟩ := sl.2 i d e
        exact ⟨v, e', h.here s v r⟩
/-- a module's constant: an int, a text, a def, a class -/
theorem je_glob {x : Str} {d : D} {v : V} {u : Value} (hg : Gl X x) (hm : X.mg x = some u) (r : RelV v u) (hr : ∀ ρ n H, Rep X.K ca ρ n H d v) (hd : (x == ("__debug__" : Str)) = false := by decide) : JE X ca W (.Name x pos) (fC d) :=
  je_const (pe_glob hg hm r hd) hr

/-! ### argument lists -/
def aNil : FA := fun _ st => .ok [] st
def aCons (f : FE) (g : FA) : FA := fun τ st => (f τ st).bind fun d st1 => (g τ st1).bind fun ds st2 => .ok (d :: ds) st2
theorem ja_nil : JA X ca W [] aNil := pa_imp pa_nil fun σ H Q ⟨ρ, st, τ, _, s, h⟩ => h.here s [] Reps.nil
theorem ja_cons {h : FA} (he : JE X ca W e f) (hr : JA X ca W es h) (hs : starEach (e :: es) X.env = (false, eval e X.env) :: starEach es X.env := by rfl) : JA X ca W (e :: es) (aCons f h) :=
  pa_imp (pa_cons he hr hs) fun σ H Q ⟨ρ, st, τ, sl, s, h⟩ =>
    at_of sl s h fun d ρ1 st1 H1 x1 sl1 s1 h1 v r1 =>
      at_of sl1 s1 h1 fun ds ρ2 st2 H2 x2 sl2 s2 h2 vs r2 => h2.here s2 (v :: vs) (Reps.cons (r1.ext x2) r2)
/-- a tuple of written items -/
def fTup (h : FA) : FE := fun τ st => (h τ st).bind fun ds st1 => if ds.length ≤ sizeLine then .ok (.tup ds) st1 else .bad
/-- a list of written items: a value, an object -/
def fLv (h : FA) : FE := fun τ st => (h τ st).bind fun ds st1 => if ds.length ≤ sizeLine then .ok (.lv ds) st1 else .bad
def fLst (h : FA) : FE := fun τ st => (h τ st).bind fun ds st1 => if ds.length ≤ sizeLine then .ok (.obj st1.length) (st1 ++ [.lst ds]) else .bad
section
variable {K : PySem.W.Frag} {ρ : Nat → Addr} {st : Sto} {H : Hp} {p : Addr} {ds : List D} {vs : List V}
theorem rep_tup_new (s : SRep K ca ρ H st) (hp : H p = none) (r : Reps K ca ρ st.length H ds vs) : Rep K ca ρ st.length (upd H p (.tup vs)) (.tup ds) (.ref p) := by
  simp only [Rep]; exact ⟨p, vs, rfl, upd_same, r.ext (Ext.upd_new s hp)⟩
theorem rep_lv_new (s : SRep K ca ρ H st) (hp : H p = none) (r : Reps K ca ρ st.length H ds vs) : Rep K ca ρ st.length (upd H p (.lst vs)) (.lv ds) (.ref p) := by
  simp only [Rep]; exact ⟨p, vs, rfl, ⟨upd_same, s.ne_new hp, s.not_res hp⟩, r.ext (Ext.upd_new s hp)⟩
theorem kept_new {o : HO} (hp : H p = none) : ∀ a u, H a = some u → upd H p o a = some u := fun a u e => by rw [upd_ne (ne_of_none e hp)]; exact e
theorem srep_lst_new (s : SRep K ca ρ H st) (hp : H p = none) (r : Reps K ca ρ st.length H ds vs) : SRep K ca (more ρ st.length p) (upd H p (.lst vs)) (st ++ [.lst ds]) :=
  s.more hp (kept_new hp) ⟨vs, upd_same, r.ext (Ext.more s hp (kept_new hp))⟩
theorem ext_more (s : SRep K ca ρ H st) (hp : H p = none) (m : MO) {o : HO} : Ext ρ st.length H (more ρ st.length p) (st ++ [m]).length (upd H p o) := by
  rw [List.length_append, List.length_singleton]; exact Ext.more s hp (kept_new hp)
theorem rep_obj_new (m : MO) {H' : Hp} : Rep K ca (more ρ st.length p) (st ++ [m]).length H' (.obj st.length) (.ref p) := by
  simp only [Rep, List.length_append, List.length_singleton]
  exact ⟨Nat.lt_succ_self _, by rw [more_same]⟩
end
theorem je_tup {x1} {h : FA} (ha : JA X ca W es h) : JE X ca W (.Tuple es x1 pos) (fTup h) :=
  pe_imp (pe_tup ha) fun σ H Q ⟨ρ, st, τ, sl, s, h⟩ =>
    at_of sl s h fun ds ρ1 st1 H1 x1 sl1 s1 h1 vs r1 => by
      by_cases z : ds.length ≤ sizeLine
      · rw [if_pos z] at h1
        exact ⟨by rw [r1.length]; exact z, fun p hp => h1 _ ρ1 (Ext.upd_new s1 hp) (s1.upd_new hp) _ (rep_tup_new s1 hp r1)⟩
      · rw [if_neg z] at h1; exact h1.elim
theorem je_lv {h : FA} (ha : JA X ca W es h) : JE X ca W (.List es pos) (fLv h) :=
  pe_imp (pe_lst ha) fun σ H Q ⟨ρ, st, τ, sl, s, h⟩ =>
    at_of sl s h fun ds ρ1 st1 H1 x1 sl1 s1 h1 vs r1 => by
      by_cases z : ds.length ≤ sizeLine
      · rw [if_pos z] at h1
        exact ⟨by rw [r1.length]; exact z, fun p hp => h1 _ ρ1 (Ext.upd_new s1 hp) (s1.upd_new hp) _ (rep_lv_new s1 hp r1)⟩
      · rw [if_neg z] at h1; exact h1.elim
theorem je_lst {h : FA} (ha : JA X ca W es h) : JE X ca W (.List es pos) (fLst h) :=
  pe_imp (pe_lst ha) fun σ H Q ⟨ρ, st, τ, sl, s, h⟩ =>
    at_of sl s h fun ds ρ1 st1 H1 x1 sl1 s1 h1 vs r1 => by
      by_cases z : ds.length ≤ sizeLine
      · rw [if_pos z] at h1
        exact ⟨by rw [r1.length]; exact z, fun p hp => h1 _ _ (ext_more s1 hp _) (srep_lst_new s1 hp r1) _ (rep_obj_new _)⟩
      · rw [if_neg z] at h1; exact h1.elim

/-! ### operators by values -/
def fOp (o : D → D → Sto → R D) (f g : FE) : FE := fun τ st => (f τ st).bind fun d st1 => (g τ st1).bind fun e st2 => o d e st2
theorem je_op {op : Operator} {o : D → D → Sto → R D} (ho : OpR X (binaryOp op) (rD2 ca X.K o)) (hn : ∀ d e st, NoEx (o d e st)) (ha : JE X ca W a f) (hb : JE X ca W b g) : JE X ca W (.BinOp a op b pos) (fOp o f g) :=
  pe_imp (pe_op ho ha hb) fun σ H Q ⟨ρ, st, τ, sl, s, h⟩ =>
    at_of sl s h fun d ρ1 st1 H1 x1 sl1 s1 h1 v r1 =>
      at_of sl1 s1 h1 fun e ρ2 st2 H2 x2 sl2 s2 h2 u r2 => ⟨ρ2, st2, d, e, r1.ext x2, r2, s2, h2.nox (hn _ _ _)⟩
theorem je_cmp {op : CmpOp} {o : D → D → Sto → R D} (ho : OpR X (compareOp op) (rD2 ca X.K o)) (hn : ∀ d e st, NoEx (o d e st)) (ha : JE X ca W a f) (hb : JE X ca W b g) (hm : behindInMarks op b = false) : JE X ca W (.Compare a [op] [b] pos) (fOp o f g) :=
  pe_imp (pe_cmpR ho ha hb hm) fun σ H Q ⟨ρ, st, τ, sl, s, h⟩ =>
    at_of sl s h fun d ρ1 st1 H1 x1 sl1 s1 h1 v r1 =>
      at_of sl1 s1 h1 fun e ρ2 st2 H2 x2 sl2 s2 h2 u r2 => ⟨ρ2, st2, d, e, r1.ext x2, r2, s2, h2.nox (hn _ _ _)⟩
/-- a value as a test: a bool -/
def bOf (f : FE) : FB := fun τ st => (f τ st).bind fun d st1 => match d with
  | .bl b => .ok b st1
  | _ => .bad
theorem jb_cmp {op : CmpOp} {o : D → D → Sto → R D} (ho : OpR X (compareOp op) (rD2 ca X.K o)) (hn : ∀ d e st, NoEx (o d e st)) (ha : JE X ca W a f) (hb : JE X ca W b g) (hm : behindInMarks op b = false) : JB X ca W (.Compare a [op] [b] pos) (bOf (fOp o f g)) :=
  pt_imp (pt_cmpR ho ha hb hm) fun σ H Q ⟨ρ, st, τ, sl, s, h⟩ => by
    have h' := h
    simp only [bOf, fOp, R.bind_assoc] at h'
    exact at_of sl s h' fun d ρ1 st1 H1 x1 sl1 s1 h1 v r1 =>
      at_of sl1 s1 h1 fun e ρ2 st2 H2 x2 sl2 s2 h2 u r2 => ⟨ρ2, st2, d, e, r1.ext x2, r2, s2, by
        have h3 := Post.bind h2
        refine (h3.nox (hn _ _ _)).mono fun a ρ3 st3 H3 x3 s3 q v3 r3 => ?_
        obtain ⟨_, _, q⟩ := q
        cases a with
        | bl k => simp only [Rep] at r3; exact ⟨k, r3, q.here s3⟩
        | _ => exact q.elim⟩
end
end DL
set_option Elab.async false
set_option linter.all false
set_option maxRecDepth 100000
set_option maxHeartbeats 4000000
namespace DL
open PySem PySem.Spec PyProof.Rows L2

/-! ### plain data, keys -/
mutual
def toPy : D → Option PyData
  | .non => some .none
  | .bl b => some (.bool b)
  | .int i => some (.int i)
  | .str x => some (.str x)
  | .tup ds => (toPys ds).map PyData.tuple
  | .ktup ds => (toPys ds).map PyData.tuple
  | .lv ds => (toPys ds).map PyData.list
  | .kl ds => (toPys ds).map PyData.list
  | _ => none
def toPys : List D → Option (List PyData)
  | [] => some []
  | d :: ds => match toPy d, toPys ds with
    | some p, some ps => some (p :: ps)
    | _, _ => none
end
/-- an object of the store that is a list: its items -/
def listOf (st : Sto) : D → Option (List D)
  | .lv ds => some ds
  | .kl ds => some ds
  | .obj i => match st[i]? with
    | some (.lst ds) => some ds
    | _ => none
  | _ => none
/-- .. one that is tracked -/
def mlOf (st : Sto) : D → Option (List D)
  | .lv ds => some ds
  | .obj i => match st[i]? with
    | some (.lst ds) => some ds
    | _ => none
  | _ => none
def seqOf (st : Sto) : D → Option (List D)
  | .tup ds => some ds
  | .ktup ds => some ds
  | d => listOf st d
def toPyS (st : Sto) (d : D) : Option PyData := match d with
  | .obj i => match st[i]? with
    | some (.lst ds) => (toPys ds).map PyData.list
    | _ => none
  | d => toPy d
def keyOf : D → Option Key
  | .int i => some (.inl i)
  | .str x => some (.inr x)
  | _ => none
def keysOf : List D → Option (List Key)
  | [] => some []
  | d :: ds => match keyOf d, keysOf ds with
    | some k, some ks => some (k :: ks)
    | _, _ => none
def tkeyOf : D → Option (List Key)
  | .tup ds => keysOf ds
  | _ => none
/-- flat values -/
def flD : D → Option V
  | .non => some .non
  | .bl b => some (.bl b)
  | .int i => some (.int i)
  | .str x => some (.str x)
  | _ => none
def flDs : List D → Option (List V)
  | [] => some []
  | d :: ds => match flD d, flDs ds with
    | some k, some ks => some (k :: ks)
    | _, _ => none
section
variable {K : PySem.W.Frag} {ca : CA} {ρ : Nat → Addr} {n : Nat} {H : Hp} {st : Sto}
mutual
theorem dp_of : ∀ {d : D} {p : PyData} {v : V}, toPy d = some p → Rep K ca ρ n H d v → Dp K H v p
  | .non, p, v, e, r => by simp only [toPy, Option.some.injEq] at e; subst e; simp only [Rep] at r; subst r; exact .non
  | .bl b, p, v, e, r => by simp only [toPy, Option.some.injEq] at e; subst e; simp only [Rep] at r; subst r; exact .bl b
  | .int b, p, v, e, r => by simp only [toPy, Option.some.injEq] at e; subst e; simp only [Rep] at r; subst r; exact .int b
  | .str b, p, v, e, r => by simp only [toPy, Option.some.injEq] at e; subst e; simp only [Rep] at r; subst r; exact .str b
  | .tup ds, p, v, e, r => by
    simp only [toPy, Option.map_eq_some_iff] at e
    obtain ⟨ps, e, rfl⟩ := e
    simp only [Rep] at r
    obtain ⟨a, xs, rfl, q, r⟩ := r
    exact .tup (SqT.of q) (dps_of e r)
  | .ktup ds, p, v, e, r => by
    simp only [toPy, Option.map_eq_some_iff] at e
    obtain ⟨ps, e, rfl⟩ := e
    simp only [Rep] at r
    obtain ⟨a, xs, rfl, q, r⟩ := r
    exact .tup q.seq (dps_of e r)
  | .lv ds, p, v, e, r => by
    simp only [toPy, Option.map_eq_some_iff] at e
    obtain ⟨ps, e, rfl⟩ := e
    simp only [Rep] at r
    obtain ⟨a, xs, rfl, q, r⟩ := r
    exact .lst q.seq (dps_of e r)
  | .kl ds, p, v, e, r => by
    simp only [toPy, Option.map_eq_some_iff] at e
    obtain ⟨ps, e, rfl⟩ := e
    simp only [Rep] at r
    obtain ⟨a, xs, rfl, q, r⟩ := r
    exact .lst q.seq (dps_of e r)
  | .dv _ _, p, v, e, r => by simp only [toPy] at e; cases e
  | .obj _, p, v, e, r => by simp only [toPy] at e; cases e
  | .ty _, p, v, e, r => by simp only [toPy] at e; cases e
  | .glb _, p, v, e, r => by simp only [toPy] at e; cases e
theorem dps_of : ∀ {ds : List D} {ps : List PyData} {vs : List V}, toPys ds = some ps → Reps K ca ρ n H ds vs → DpAll K H vs ps
  | [], ps, vs, e, r => by simp only [toPys, Option.some.injEq] at e; subst e; simp only [Reps] at r; subst r; exact .nil
  | d :: ds, ps, vs, e, r => by
    simp only [Reps] at r
    obtain ⟨v, rs, rfl, r1, r2⟩ := r
    simp only [toPys] at e
    cases e1 : toPy d with
    | none => simp [e1] at e
    | some p =>
      cases e2 : toPys ds with
      | none => simp [e1, e2] at e
      | some qs =>
        simp only [e1, e2, Option.some.injEq] at e
        subst e
        exact .cons (dp_of e1 r1) (dps_of e2 r2)
end
theorem dpS_of (s : SRep K ca ρ H st) {d : D} {p : PyData} {v : V} (e : toPyS st d = some p) (r : Rep K ca ρ st.length H d v) : Dp K H v p := by
  cases d with
  | obj i =>
    simp only [toPyS] at e
    cases q : st[i]? with
    | none => simp [q] at e
    | some m =>
      cases m with
      | lst ds =>
        simp only [q, Option.map_eq_some_iff] at e
        obtain ⟨ps, e, rfl⟩ := e
        simp only [Rep] at r
        obtain ⟨xs, ha, rs⟩ := s.at_ i _ q
        rw [r.2]
        exact .lst (SqL.of ha) (dps_of e rs)
      | _ => simp [q] at e
  | _ => exact dp_of e r
theorem listOf_rep (s : SRep K ca ρ H st) {d : D} {ds : List D} {v : V} (e : listOf st d = some ds) (r : Rep K ca ρ st.length H d v) : ∃ a xs, v = .ref a ∧ SqL K H a xs ∧ Reps K ca ρ st.length H ds xs := by
  cases d with
  | lv es =>
    simp only [listOf, Option.some.injEq] at e; subst e
    simp only [Rep] at r
    obtain ⟨a, xs, rfl, q, r⟩ := r
    exact ⟨a, xs, rfl, q.seq, r⟩
  | kl es =>
    simp only [listOf, Option.some.injEq] at e; subst e
    simp only [Rep] at r
    obtain ⟨a, xs, rfl, q, r⟩ := r
    exact ⟨a, xs, rfl, q.seq, r⟩
  | obj i =>
    simp only [listOf] at e
    cases q : st[i]? with
    | none => simp [q] at e
    | some m =>
      cases m with
      | lst es =>
        simp only [q, Option.some.injEq] at e; subst e
        simp only [Rep] at r
        obtain ⟨xs, ha, rs⟩ := s.at_ i _ q
        exact ⟨_, xs, r.2, SqL.of ha, rs⟩
      | _ => simp [q] at e
  | _ => simp [listOf] at e
theorem mlOf_rep (s : SRep K ca ρ H st) {d : D} {ds : List D} {v : V} (e : mlOf st d = some ds) (r : Rep K ca ρ st.length H d v) : ∃ a xs, v = .ref a ∧ H a = some (.lst xs) ∧ Reps K ca ρ st.length H ds xs := by
  cases d with
  | lv es =>
    simp only [mlOf, Option.some.injEq] at e; subst e
    simp only [Rep] at r
    obtain ⟨a, xs, rfl, q, r⟩ := r
    exact ⟨a, xs, rfl, q.1, r⟩
  | obj i =>
    simp only [mlOf] at e
    cases q : st[i]? with
    | none => simp [q] at e
    | some m =>
      cases m with
      | lst es =>
        simp only [q, Option.some.injEq] at e; subst e
        simp only [Rep] at r
        obtain ⟨xs, ha, rs⟩ := s.at_ i _ q
        exact ⟨_, xs, r.2, ha, rs⟩
      | _ => simp [q] at e
  | _ => simp [mlOf] at e
theorem seqOf_rep (s : SRep K ca ρ H st) {d : D} {ds : List D} {v : V} (e : seqOf st d = some ds) (r : Rep K ca ρ st.length H d v) : ∃ a xs, v = .ref a ∧ (SqL K H a xs ∨ SqT K H a xs) ∧ Reps K ca ρ st.length H ds xs := by
  cases d with
  | tup es =>
    simp only [seqOf, Option.some.injEq] at e; subst e
    simp only [Rep] at r
    obtain ⟨a, xs, rfl, q, r⟩ := r
    exact ⟨a, xs, rfl, .inr (SqT.of q), r⟩
  | ktup es =>
    simp only [seqOf, Option.some.injEq] at e; subst e
    simp only [Rep] at r
    obtain ⟨a, xs, rfl, q, r⟩ := r
    exact ⟨a, xs, rfl, .inr q.seq, r⟩
  | _ =>
    simp only [seqOf] at e
    obtain ⟨a, xs, e', q, r⟩ := listOf_rep s e r
    exact ⟨a, xs, e', .inl q, r⟩
theorem flD_rep {d : D} {w v : V} (e : flD d = some w) (r : Rep K ca ρ n H d v) : v = w ∧ flatV w = true := by
  cases d <;> simp only [flD, Option.some.injEq] at e <;> first
    | (subst e; simp only [Rep] at r; exact ⟨r, rfl⟩)
    | cases e
theorem flDs_rep : ∀ {ds : List D} {ws vs : List V}, flDs ds = some ws → Reps K ca ρ n H ds vs → vs = ws ∧ ws.all flatV = true
  | [], ws, vs, e, r => by simp only [flDs, Option.some.injEq] at e; subst e; simp only [Reps] at r; exact ⟨r, rfl⟩
  | d :: ds, ws, vs, e, r => by
    simp only [Reps] at r
    obtain ⟨v, rs, rfl, r1, r2⟩ := r
    simp only [flDs] at e
    cases e1 : flD d with
    | none => simp [e1] at e
    | some p =>
      cases e2 : flDs ds with
      | none => simp [e1, e2] at e
      | some qs =>
        simp only [e1, e2, Option.some.injEq] at e
        subst e
        obtain ⟨h1, h2⟩ := flD_rep e1 r1
        obtain ⟨h3, h4⟩ := flDs_rep e2 r2
        exact ⟨by rw [h1, h3], by simp [h2, h4]⟩
theorem keyOf_rep {d : D} {k : Key} {v : V} (e : keyOf d = some k) (r : Rep K ca ρ n H d v) : v = kV k := by
  cases d <;> simp only [keyOf, Option.some.injEq] at e <;> first
    | (subst e; simp only [Rep] at r; exact r)
    | cases e
theorem keysOf_rep : ∀ {ds : List D} {ks : List Key} {vs : List V}, keysOf ds = some ks → Reps K ca ρ n H ds vs → vs = ks.map kV
  | [], ws, vs, e, r => by simp only [keysOf, Option.some.injEq] at e; subst e; simp only [Reps] at r; exact r
  | d :: ds, ws, vs, e, r => by
    simp only [Reps] at r
    obtain ⟨v, rs, rfl, r1, r2⟩ := r
    simp only [keysOf] at e
    cases e1 : keyOf d with
    | none => simp [e1] at e
    | some p =>
      cases e2 : keysOf ds with
      | none => simp [e1, e2] at e
      | some qs =>
        simp only [e1, e2, Option.some.injEq] at e
        subst e
        rw [keyOf_rep e1 r1, keysOf_rep e2 r2]; rfl
theorem tkeyOf_rep {d : D} {ks : List Key} {v : V} (e : tkeyOf d = some ks) (r : Rep K ca ρ n H d v) : ∃ b, v = .ref b ∧ H b = some (.tup (ks.map kV)) := by
  cases d with
  | tup ds =>
    simp only [tkeyOf] at e
    simp only [Rep] at r
    obtain ⟨a, xs, rfl, q, r⟩ := r
    exact ⟨a, rfl, by rw [q, keysOf_rep e r]⟩
  | _ => simp [tkeyOf] at e
/-! ### dicts -/
def valD {κ : Type} [DecidableEq κ] (kvs : List (κ × D)) (k : κ) : Option D := (kvs.find? fun kv => decide (kv.1 = k)).map (·.2)
def putD {κ : Type} [DecidableEq κ] (kvs : List (κ × D)) (k : κ) (v : D) : List (κ × D) :=
  if (kvs.any fun kv => decide (kv.1 = k)) = true then kvs.map (fun kv => if kv.1 = k then (kv.1, v) else kv) else kvs ++ [(k, v)]
theorem RepKV.val {κ : Type} [DecidableEq κ] {k : κ} : ∀ {kvs : List (κ × D)} {ws : List (κ × V)}, RepKV K ca ρ n H kvs ws →
    (valD kvs k = none ∧ valV ws k = none) ∨ ∃ d v, valD kvs k = some d ∧ valV ws k = some v ∧ Rep K ca ρ n H d v
  | [], ws, r => by simp only [RepKV] at r; subst r; exact .inl ⟨rfl, rfl⟩
  | p :: kvs, ws, r => by
    simp only [RepKV] at r
    obtain ⟨v, rs, rfl, r1, r2⟩ := r
    by_cases e : p.1 = k
    · exact .inr ⟨p.2, v, by simp [valD, List.find?_cons, e], valV_pos e, r1⟩
    · rcases RepKV.val (k := k) r2 with ⟨h1, h2⟩ | ⟨d, u, h1, h2, h3⟩
      · exact .inl ⟨by simpa [valD, List.find?_cons, e] using h1, by rw [valV_neg (p := (p.1, v)) e]; exact h2⟩
      · exact .inr ⟨d, u, by simpa [valD, List.find?_cons, e] using h1, by rw [valV_neg (p := (p.1, v)) e]; exact h2, h3⟩
theorem RepKV.length {κ : Type} : ∀ {kvs : List (κ × D)} {ws : List (κ × V)}, RepKV K ca ρ n H kvs ws → ws.length = kvs.length
  | [], ws, r => by simp only [RepKV] at r; subst r; rfl
  | p :: kvs, ws, r => by
    simp only [RepKV] at r
    obtain ⟨v, rs, rfl, r1, r2⟩ := r
    simp [RepKV.length r2]
theorem RepKV.any {κ : Type} [DecidableEq κ] {k : κ} : ∀ {kvs : List (κ × D)} {ws : List (κ × V)}, RepKV K ca ρ n H kvs ws → (ws.any fun kv => decide (kv.1 = k)) = kvs.any fun kv => decide (kv.1 = k)
  | [], ws, r => by simp only [RepKV] at r; subst r; rfl
  | p :: kvs, ws, r => by
    simp only [RepKV] at r
    obtain ⟨v, rs, rfl, r1, r2⟩ := r
    simp [RepKV.any (k := k) r2]
theorem RepKV.map_put {κ : Type} [DecidableEq κ] {k : κ} {d : D} {u : V} (hd : Rep K ca ρ n H d u) : ∀ {kvs : List (κ × D)} {ws : List (κ × V)}, RepKV K ca ρ n H kvs ws →
    RepKV K ca ρ n H (kvs.map fun kv => if kv.1 = k then (kv.1, d) else kv) (ws.map fun kv => if kv.1 = k then (kv.1, u) else kv)
  | [], ws, r => by simp only [RepKV] at r; subst r; simp [RepKV]
  | p :: kvs, ws, r => by
    simp only [RepKV] at r
    obtain ⟨v, rs, rfl, r1, r2⟩ := r
    simp only [List.map_cons, RepKV]
    refine ⟨if p.1 = k then u else v, _, ?_, ?_, RepKV.map_put hd r2⟩
    · by_cases e : p.1 = k <;> simp [e]
    · by_cases e : p.1 = k <;> simp [e, hd, r1]
theorem RepKV.append {κ : Type} : ∀ {kvs kvs' : List (κ × D)} {ws ws' : List (κ × V)}, RepKV K ca ρ n H kvs ws → RepKV K ca ρ n H kvs' ws' → RepKV K ca ρ n H (kvs ++ kvs') (ws ++ ws')
  | [], _, ws, _, r, q => by simp only [RepKV] at r; subst r; exact q
  | p :: kvs, _, ws, _, r, q => by
    simp only [RepKV] at r
    obtain ⟨v, rs, rfl, r1, r2⟩ := r
    simp only [List.cons_append, RepKV]
    exact ⟨v, _, rfl, r1, RepKV.append r2 q⟩
theorem RepKV.put {κ : Type} [DecidableEq κ] {k : κ} {d : D} {u : V} (hd : Rep K ca ρ n H d u) {kvs : List (κ × D)} {ws : List (κ × V)} (r : RepKV K ca ρ n H kvs ws) : RepKV K ca ρ n H (putD kvs k d) (putK ws k u) := by
  unfold putD putK
  rw [r.any]
  by_cases e : (kvs.any fun kv => decide (kv.1 = k)) = true
  · rw [if_pos e, if_pos e]; exact r.map_put hd
  · rw [if_neg e, if_neg e]
    exact r.append (by simp only [RepKV]; exact ⟨u, [], rfl, hd, rfl⟩)
/-- a dict that stays, by its keys and values -/
def lkDv : List D → List D → Key → Option D
  | k :: ks, v :: vs, x => if keyOf k = some x then some v else lkDv ks vs x
  | _, _, _ => none
theorem keyOf_kD (k : Key) : keyOf (kD k) = some k := by cases k <;> rfl
theorem lkDv_rep {x : Key} : ∀ {kvs : List (Key × V)} {vs : List D}, Reps K ca ρ n H vs (kvs.map (·.2)) →
    (lkDv (kvs.map fun p => kD p.1) vs x = none ∧ valV kvs x = none) ∨ ∃ d v, lkDv (kvs.map fun p => kD p.1) vs x = some d ∧ valV kvs x = some v ∧ Rep K ca ρ n H d v
  | [], vs, r => by
    cases vs <;> exact .inl ⟨rfl, rfl⟩
  | p :: kvs, vs, r => by
    cases vs with
    | nil => simp only [Reps, List.map_cons] at r; cases r
    | cons d vs =>
      simp only [List.map_cons, Reps] at r
      obtain ⟨v, rs, e, r1, r2⟩ := r
      injection e with e1 e2
      subst e1 e2
      by_cases e : p.1 = x
      · exact .inr ⟨d, p.2, by simp [lkDv, keyOf_kD, e], valV_pos e, r1⟩
      · have e' : ¬ (some p.1 = some x) := fun q => e (Option.some.inj q)
        rcases lkDv_rep (x := x) r2 with ⟨h1, h2⟩ | ⟨d', u, h1, h2, h3⟩
        · exact .inl ⟨by simpa [lkDv, keyOf_kD, e] using h1, by rw [valV_neg e]; exact h2⟩
        · exact .inr ⟨d', u, by simpa [lkDv, keyOf_kD, e] using h1, by rw [valV_neg e]; exact h2, h3⟩
/-- what stands in a dict under a key: none: no dict, or no key of its kind -/
def dictLook (st : Sto) (d k : D) : Option (Option D) :=
  match d with
  | .dv ks vs => (keyOf k).map (lkDv ks vs)
  | .obj i => match st[i]? with
    | some (.dic kvs) => (keyOf k).map (valD kvs)
    | some (.dit kvs) => (tkeyOf k).map (valD kvs)
    | some (.lck kvs) => (keyOf k).map (valD kvs)
    | _ => none
  | _ => none
theorem dictLook_rep (s : SRep K ca ρ H st) {d k : D} {v u : V} {o : Option D} (e : dictLook st d k = some o) (r : Rep K ca ρ st.length H d v) (rk : Rep K ca ρ st.length H k u) :
    ∃ a w, v = .ref a ∧ IsD H a ∧ DGet H a u w ∧ ((o = none ∧ w = none) ∨ ∃ d' z, o = some d' ∧ w = some z ∧ Rep K ca ρ st.length H d' z) := by
  cases d with
  | dv ks vs =>
    simp only [dictLook, Option.map_eq_some_iff] at e
    obtain ⟨x, ek, rfl⟩ := e
    simp only [Rep] at r
    obtain ⟨a, kvs, rfl, q, rfl, rv⟩ := r
    have eu := keyOf_rep ek rk
    subst eu
    refine ⟨a, valV kvs x, rfl, .inl ⟨kvs, q.rd⟩, .inl ⟨kvs, x, q.rd, rfl, rfl⟩, ?_⟩
    rcases lkDv_rep (x := x) rv with ⟨h1, h2⟩ | ⟨d', z, h1, h2, h3⟩
    · exact .inl ⟨h1, h2⟩
    · exact .inr ⟨d', z, h1, h2, h3⟩
  | obj i =>
    simp only [dictLook] at e
    simp only [Rep] at r
    obtain ⟨hi, rfl⟩ := r
    cases q : st[i]? with
    | none => simp [q] at e
    | some m =>
      cases m with
      | dic kvs =>
        simp only [q, Option.map_eq_some_iff] at e
        obtain ⟨x, ek, rfl⟩ := e
        obtain ⟨ws, ha, rs⟩ := s.at_ i _ q
        have eu := keyOf_rep ek rk
        subst eu
        refine ⟨_, valV ws x, rfl, .inl ⟨ws, .inl ha⟩, .inl ⟨ws, x, .inl ha, rfl, rfl⟩, ?_⟩
        rcases rs.val (k := x) with ⟨h1, h2⟩ | ⟨d', z, h1, h2, h3⟩
        · exact .inl ⟨h1, h2⟩
        · exact .inr ⟨d', z, h1, h2, h3⟩
      | lck kvs =>
        simp only [q, Option.map_eq_some_iff] at e
        obtain ⟨x, ek, rfl⟩ := e
        obtain ⟨od, ws, ha, rs⟩ := s.at_ i _ q
        have eu := keyOf_rep ek rk
        subst eu
        refine ⟨_, valV ws x, rfl, .inl ⟨ws, .inr ⟨od, ha⟩⟩, .inl ⟨ws, x, .inr ⟨od, ha⟩, rfl, rfl⟩, ?_⟩
        rcases rs.val (k := x) with ⟨h1, h2⟩ | ⟨d', z, h1, h2, h3⟩
        · exact .inl ⟨h1, h2⟩
        · exact .inr ⟨d', z, h1, h2, h3⟩
      | dit kvs =>
        simp only [q, Option.map_eq_some_iff] at e
        obtain ⟨x, ek, rfl⟩ := e
        obtain ⟨ws, ha, rs⟩ := s.at_ i _ q
        obtain ⟨b, rfl, hb⟩ := tkeyOf_rep ek rk
        refine ⟨_, valV ws x, rfl, .inr ⟨ws, .inl ha⟩, .inr ⟨ws, x, b, .inl ha, rfl, hb, rfl⟩, ?_⟩
        rcases rs.val (k := x) with ⟨h1, h2⟩ | ⟨d', z, h1, h2, h3⟩
        · exact .inl ⟨h1, h2⟩
        · exact .inr ⟨d', z, h1, h2, h3⟩
      | _ => simp [q] at e
  | _ => simp [dictLook] at e
end

/-! ### the operations, as functions -/
def okD (d : D) (st : Sto) : R D := .ok d st
def opAdd (d e : D) (st : Sto) : R D :=
  match d, e with
  | .int i, .int j => .ok (.int (i + j)) st
  | .str x, .str y => if x.length + y.length ≤ sizeLine then .ok (.str (x ++ y)) st else .bad
  | .tup ds, .tup es => if ds.length + es.length ≤ sizeLine then .ok (.tup (ds ++ es)) st else .bad
  | _, _ => .bad
/-- the sum of two lists: a list that stays, a new object -/
def opCat (d e : D) (st : Sto) : R D :=
  match mlOf st d, mlOf st e with
  | some ds, some es => if ds.length + es.length ≤ sizeLine then .ok (.lv (ds ++ es)) st else .bad
  | _, _ => .bad
def opCatO (d e : D) (st : Sto) : R D :=
  match mlOf st d, mlOf st e with
  | some ds, some es => if ds.length + es.length ≤ sizeLine then .ok (.obj st.length) (st ++ [.lst (ds ++ es)]) else .bad
  | _, _ => .bad
def opSub (d e : D) (st : Sto) : R D :=
  match d, e with
  | .int i, .int j => .ok (.int (i - j)) st
  | _, _ => .bad
def opMul (d e : D) (st : Sto) : R D :=
  match d, e with
  | .int i, .int j => if (-(2 ^ 64) < i ∧ i < 2 ^ 64) ∨ (-(2 ^ 64) < j ∧ j < 2 ^ 64) then .ok (.int (i * j)) st else .bad
  | _, _ => .bad
def opDiv (d e : D) (st : Sto) : R D :=
  match d, e with
  | .int i, .int j => if 0 < j ∧ j < 1073741824 then .ok (.int (i / j)) st else .bad
  | _, _ => .bad
def opMod (d e : D) (st : Sto) : R D :=
  match d, e with
  | .int i, .int j => if 0 < j then .ok (.int (i % j)) st else .bad
  | _, _ => .bad
def opPow (d e : D) (st : Sto) : R D :=
  match d, e with
  | .int i, .int j => if 0 ≤ j ∧ j ≤ 1000000 ∧ i.natAbs < 2 ^ 64 then .ok (.int (i ^ j.toNat)) st else .bad
  | _, _ => .bad
/-- == of scalars -/
def eqS : D → D → Option Bool
  | .str x, .str y => some (decide (x = y))
  | .int i, .int j => some (decide (i = j))
  | .bl a, .bl b => some (decide (a = b))
  | .non, .non => some true
  | .non, .int _ => some false | .int _, .non => some false | .non, .bl _ => some false | .bl _, .non => some false | .non, .str _ => some false | .str _, .non => some false
  | .int _, .str _ => some false | .str _, .int _ => some false | .bl _, .str _ => some false | .str _, .bl _ => some false
  | _, _ => none
def eqDeep (st : Sto) (d e : D) : Option Bool :=
  match toPyS st d, toPyS st e with
  | some p, some q => if SeqAt.shaped p = true ∧ SeqAt.shaped q = true then some (PyData.eqv p q) else none
  | _, _ => none
def eqD (st : Sto) (d e : D) : Option Bool := match eqS d e with
  | some b => some b
  | none => eqDeep st d e
def ofB (o : Option Bool) (st : Sto) : R D := match o with
  | some b => .ok (.bl b) st
  | none => .bad
def opEq (d e : D) (st : Sto) : R D := ofB (eqD st d e) st
def opNe (d e : D) (st : Sto) : R D := ofB ((eqD st d e).map (!·)) st
def cmpI (p : Int → Int → Bool) (d e : D) (st : Sto) : R D :=
  match d, e with
  | .int i, .int j => .ok (.bl (p i j)) st
  | _, _ => .bad
def opLt := cmpI fun i j => decide (i < j)
def opLe := cmpI fun i j => decide (i ≤ j)
def opGt := cmpI fun i j => decide (j < i)
def opGe := cmpI fun i j => decide (j ≤ i)
def isNonD : D → Bool
  | .non => true
  | _ => false
/-- is None -/
def opIs (d e : D) (st : Sto) : R D :=
  match e with
  | .non => .ok (.bl (isNonD d)) st
  | _ => .bad
def opIsNot (d e : D) (st : Sto) : R D :=
  match e with
  | .non => .ok (.bl (!isNonD d)) st
  | _ => .bad
/-- x in y -/
def memD (st : Sto) (d e : D) : Option Bool :=
  match e with
  | .str z => match d with
    | .str y => some (!(Builtin.Str.occurrences z y 0 z.length 1).isEmpty)
    | _ => none
  | e => match seqOf st e with
    | some es => match flD d, flDs es with
      | some x, some xs => some (inV x xs)
      | _, _ => match listOf st e, toPy d, toPys es with
        | some _, some p, some ps => if SeqAt.shaped p = true ∧ SeqAt.shaped (.list ps) = true then some (ps.any fun z => PyData.eqv z p) else none
        | _, _, _ => none
    | none => (dictLook st e d).map (·.isSome)
def opIn (d e : D) (st : Sto) : R D := ofB (memD st d e) st
def opNotIn (d e : D) (st : Sto) : R D := ofB ((memD st d e).map (!·)) st
def ofO (o : Option D) (st : Sto) : R D := match o with
  | some z => .ok z st
  | none => .bad
theorem ofO_nox (o st) : NoEx (ofO o st) := by unfold ofO NoEx; intros; split <;> (intro h; cases h)
def opIx (d e : D) (st : Sto) : R D :=
  match d with
  | .str z => match e with
    | .int i => if z.length ≤ sizeLine then match atI z.cps.toList i with
      | some c => .ok (.str ⟨#[c]⟩) st
      | none => .bad
      else .bad
    | _ => .bad
  | d => match seqOf st d with
    | some ds => match e with
      | .int i => match atI ds i with
        | some z => .ok z st
        | none => .bad
      | _ => .bad
    | none => match dictLook st d e with
      | some w => ofO w st
      | none => .bad
theorem opAdd_nox (d e st) : NoEx (opAdd d e st) := by unfold opAdd NoEx; intros; split <;> (repeat' split) <;> (intro h; cases h)
theorem opCat_nox (d e st) : NoEx (opCat d e st) := by unfold opCat NoEx; intros; split <;> (repeat' split) <;> (intro h; cases h)
theorem opCatO_nox (d e st) : NoEx (opCatO d e st) := by unfold opCatO NoEx; intros; split <;> (repeat' split) <;> (intro h; cases h)
theorem opSub_nox (d e st) : NoEx (opSub d e st) := by unfold opSub NoEx; intros; split <;> (repeat' split) <;> (intro h; cases h)
theorem opMul_nox (d e st) : NoEx (opMul d e st) := by unfold opMul NoEx; intros; split <;> (repeat' split) <;> (intro h; cases h)
theorem opDiv_nox (d e st) : NoEx (opDiv d e st) := by unfold opDiv NoEx; intros; split <;> (repeat' split) <;> (intro h; cases h)
theorem opMod_nox (d e st) : NoEx (opMod d e st) := by unfold opMod NoEx; intros; split <;> (repeat' split) <;> (intro h; cases h)
theorem opPow_nox (d e st) : NoEx (opPow d e st) := by unfold opPow NoEx; intros; split <;> (repeat' split) <;> (intro h; cases h)
theorem cmpI_nox (p) (d e st) : NoEx (cmpI p d e st) := by unfold cmpI NoEx; intros; split <;> (repeat' split) <;> (intro h; cases h)
theorem ofB_nox (o st) : NoEx (ofB o st) := by unfold ofB NoEx; intros; split <;> (intro h; cases h)
theorem opEq_nox (d e st) : NoEx (opEq d e st) := ofB_nox _ _
theorem opNe_nox (d e st) : NoEx (opNe d e st) := ofB_nox _ _
theorem opIn_nox (d e st) : NoEx (opIn d e st) := ofB_nox _ _
theorem opNotIn_nox (d e st) : NoEx (opNotIn d e st) := ofB_nox _ _
theorem opIs_nox (d e st) : NoEx (opIs d e st) := by unfold opIs NoEx; intros; split <;> (intro h; cases h)
theorem opIsNot_nox (d e st) : NoEx (opIsNot d e st) := by unfold opIsNot NoEx; intros; split <;> (intro h; cases h)
theorem opIx_nox (d e st) : NoEx (opIx d e st) := by unfold opIx ofO NoEx; intros; (repeat' split) <;> (intro h; cases h)
end DL
set_option Elab.async false
set_option linter.all false
set_option maxRecDepth 100000
set_option maxHeartbeats 4000000
namespace DL
open PySem PySem.Spec PyProof.Rows L2
section
variable {X : Cx} {ca : CA} {W : WX} {a b c e : Expr} {es : List Expr} {f g k : FE} {pos : Pos}

theorem opr_imp {o : Value → Value → Sem Value} {r r' : R2} (h : OpR X o r) (i : ∀ x y H Q, r' x y H Q → r x y H Q) : OpR X o r' :=
  fun pins s σ H x y v u Q I rx ry q => h pins s σ H x y v u Q I rx ry (i _ _ _ _ q)

theorem oAdd : OpR X (binaryOp .Add) (rD2 ca X.K opAdd) := by
  refine opr_imp ((op_add (X := X)).or ((op_add_str (X := X)).or (op_catA (X := X)))) fun x y H Q ⟨ρ, st, d, e, rd, re, s, h⟩ => ?_
  unfold opAdd at h
  split at h
  · simp only [Rep] at rd re
    exact .inl ⟨_, _, rd, re, h.here s _ (by simp only [Rep])⟩
  · simp only [Rep] at rd re
    split at h
    · rename_i z
      exact .inr (.inl ⟨_, _, rd, re, z, h.here s _ (by simp only [Rep])⟩)
    · exact h.elim
  · simp only [Rep] at rd re
    obtain ⟨p, xs, rfl, q1, r1⟩ := rd
    obtain ⟨q, ys, rfl, q2, r2⟩ := re
    split at h
    · rename_i z
      refine .inr (.inr ⟨p, q, xs, ys, rfl, rfl, SqT.of q1, SqT.of q2, by rw [r1.length, r2.length]; exact z, fun e => ?_, fun _ e => ?_, fun _ _ t ht => ?_⟩)
      · subst e
        refine h.here s _ ?_
        simp only [Rep]
        exact ⟨q, ys, rfl, q2, by simpa using r1.append r2⟩
      · subst e
        refine h.here s _ ?_
        simp only [Rep]
        exact ⟨p, xs, rfl, q1, by simpa using r1.append r2⟩
      · exact h _ ρ (Ext.upd_new s ht) (s.upd_new ht) _ (rep_tup_new s ht (r1.append r2))
    · exact h.elim
  · exact h.elim
theorem oSub : OpR X (binaryOp .Sub) (rD2 ca X.K opSub) := by
  refine opr_imp (op_sub (X := X)) fun x y H Q ⟨ρ, st, d, e, rd, re, s, h⟩ => ?_
  unfold opSub at h
  split at h
  · simp only [Rep] at rd re
    exact ⟨_, _, rd, re, h.here s _ (by simp only [Rep])⟩
  · exact h.elim
theorem oMul : OpR X (binaryOp .Mult) (rD2 ca X.K opMul) := by
  refine opr_imp (op_mul (X := X)) fun x y H Q ⟨ρ, st, d, e, rd, re, s, h⟩ => ?_
  unfold opMul at h
  split at h
  · simp only [Rep] at rd re
    split at h
    · rename_i z
      exact ⟨_, _, rd, re, z, h.here s _ (by simp only [Rep])⟩
    · exact h.elim
  · exact h.elim
theorem oDiv : OpR X (binaryOp .FloorDiv) (rD2 ca X.K opDiv) := by
  refine opr_imp (op_fdiv (X := X)) fun x y H Q ⟨ρ, st, d, e, rd, re, s, h⟩ => ?_
  unfold opDiv at h
  split at h
  · simp only [Rep] at rd re
    split at h
    · rename_i z
      exact ⟨_, _, rd, re, z, h.here s _ (by simp only [Rep])⟩
    · exact h.elim
  · exact h.elim
theorem oMod : OpR X (binaryOp .Mod) (rD2 ca X.K opMod) := by
  refine opr_imp (op_mod (X := X)) fun x y H Q ⟨ρ, st, d, e, rd, re, s, h⟩ => ?_
  unfold opMod at h
  split at h
  · simp only [Rep] at rd re
    split at h
    · rename_i z
      exact ⟨_, _, rd, re, z, h.here s _ (by simp only [Rep])⟩
    · exact h.elim
  · exact h.elim
theorem oPow : OpR X (binaryOp .Pow) (rD2 ca X.K opPow) := by
  refine opr_imp (op_pow (X := X)) fun x y H Q ⟨ρ, st, d, e, rd, re, s, h⟩ => ?_
  unfold opPow at h
  split at h
  · simp only [Rep] at rd re
    split at h
    · rename_i z
      exact ⟨_, _, rd, re, z, h.here s _ (by simp only [Rep])⟩
    · exact h.elim
  · exact h.elim
theorem oCat : OpR X (binaryOp .Add) (rD2 ca X.K opCat) := by
  refine opr_imp (op_cat (X := X)) fun x y H Q ⟨ρ, st, d, e, rd, re, s, h⟩ => ?_
  unfold opCat at h
  split at h
  · rename_i ds es q1 q2
    obtain ⟨p, xs, rfl, h1, r1⟩ := mlOf_rep s q1 rd
    obtain ⟨q, ys, rfl, h2, r2⟩ := mlOf_rep s q2 re
    split at h
    · rename_i z
      exact ⟨p, q, xs, ys, rfl, rfl, h1, h2, by rw [r1.length, r2.length]; exact z, fun t ht => h _ ρ (Ext.upd_new s ht) (s.upd_new ht) _ (rep_lv_new s ht (r1.append r2))⟩
    · exact h.elim
  · exact h.elim
theorem oCatO : OpR X (binaryOp .Add) (rD2 ca X.K opCatO) := by
  refine opr_imp (op_cat (X := X)) fun x y H Q ⟨ρ, st, d, e, rd, re, s, h⟩ => ?_
  unfold opCatO at h
  split at h
  · rename_i ds es q1 q2
    obtain ⟨p, xs, rfl, h1, r1⟩ := mlOf_rep s q1 rd
    obtain ⟨q, ys, rfl, h2, r2⟩ := mlOf_rep s q2 re
    split at h
    · rename_i z
      exact ⟨p, q, xs, ys, rfl, rfl, h1, h2, by rw [r1.length, r2.length]; exact z, fun t ht => h _ _ (ext_more s ht _) (srep_lst_new s ht (r1.append r2)) _ (rep_obj_new _)⟩
    · exact h.elim
  · exact h.elim
theorem cmp_int {op : CmpOp} {p : Int → Int → Bool} (h : OpR X (compareOp op) (rI0 fun i j => .bl (p i j))) : OpR X (compareOp op) (rD2 ca X.K (cmpI p)) := by
  refine opr_imp h fun x y H Q ⟨ρ, st, d, e, rd, re, s, h⟩ => ?_
  unfold cmpI at h
  split at h
  · simp only [Rep] at rd re
    exact ⟨_, _, rd, re, h.here s _ (by simp only [Rep])⟩
  · exact h.elim
theorem oLt : OpR X (compareOp .Lt) (rD2 ca X.K opLt) := cmp_int op_lt
theorem oLe : OpR X (compareOp .LtE) (rD2 ca X.K opLe) := cmp_int op_le
theorem oGt : OpR X (compareOp .Gt) (rD2 ca X.K opGt) := cmp_int op_gt
theorem oGe : OpR X (compareOp .GtE) (rD2 ca X.K opGe) := cmp_int op_ge
theorem eqS_rep {K : PySem.W.Frag} {ρ : Nat → Addr} {H : Hp} {n : Nat} {d e : D} {v u : V} {b : Bool} (h : eqS d e = some b) (rd : Rep K ca ρ n H d v) (re : Rep K ca ρ n H e u) : scal v u = true ∧ decide (v = u) = b := by
  cases d <;> cases e <;> simp only [eqS, Option.some.injEq, reduceCtorEq] at h <;> simp only [Rep] at rd re <;> subst rd re <;> subst h <;>
    first
    | exact ⟨rfl, by simp⟩
    | exact ⟨rfl, rfl⟩
theorem oEq (hu : X.A.units + 64 < cLine) : OpR X (compareOp .Eq) (rD2 ca X.K opEq) := by
  refine opr_imp ((op_eq (X := X)).or (op_eqD hu)) fun x y H Q ⟨ρ, st, d, e, rd, re, s, h⟩ => ?_
  unfold opEq eqD at h
  cases q : eqS d e with
  | some b =>
    simp only [q, ofB] at h
    obtain ⟨h1, h2⟩ := eqS_rep q rd re
    exact .inl ⟨h1, by rw [h2]; exact h.here s _ (by simp only [Rep])⟩
  | none =>
    simp only [q, eqDeep] at h
    cases e1 : toPyS st d with
    | none => simp only [e1, ofB] at h; exact h.elim
    | some p1 =>
      cases e2 : toPyS st e with
      | none => simp only [e1, e2, ofB] at h; exact h.elim
      | some p2 =>
        simp only [e1, e2] at h
        split at h
        · rename_i hh
          exact .inr ⟨p1, p2, dpS_of s e1 rd, dpS_of s e2 re, hh.1, hh.2, h.here s _ (by simp only [Rep])⟩
        · exact h.elim
theorem oNe (hu : X.A.units + 64 < cLine) : OpR X (compareOp .NotEq) (rD2 ca X.K opNe) := by
  refine opr_imp ((op_ne (X := X)).or (op_neD hu)) fun x y H Q ⟨ρ, st, d, e, rd, re, s, h⟩ => ?_
  unfold opNe eqD at h
  cases q : eqS d e with
  | some b =>
    simp only [q, ofB, Option.map_some] at h
    obtain ⟨h1, h2⟩ := eqS_rep q rd re
    exact .inl ⟨h1, by rw [h2]; exact h.here s _ (by simp only [Rep])⟩
  | none =>
    simp only [q, eqDeep] at h
    cases e1 : toPyS st d with
    | none => simp only [e1, ofB] at h; exact h.elim
    | some p1 =>
      cases e2 : toPyS st e with
      | none => simp only [e1, e2, ofB] at h; exact h.elim
      | some p2 =>
        simp only [e1, e2] at h
        split at h
        · rename_i hh
          exact .inr ⟨p1, p2, dpS_of s e1 rd, dpS_of s e2 re, hh.1, hh.2, h.here s _ (by simp only [Rep])⟩
        · exact h.elim
theorem non_iff {K : PySem.W.Frag} {ρ : Nat → Addr} {H : Hp} {n : Nat} {d : D} {v : V} (rd : Rep K ca ρ n H d v) : decide (v = .non) = isNonD d := by
  cases d <;> simp only [Rep] at rd <;> first
    | (subst rd; rfl)
    | (obtain ⟨_, rfl⟩ := rd; rfl)
    | (obtain ⟨_, _, rfl, _⟩ := rd; rfl)
theorem oIs : OpR X (compareOp .Is) (rD2 ca X.K opIs) := by
  refine opr_imp (op_isN (X := X)) fun x y H Q ⟨ρ, st, d, e, rd, re, s, h⟩ => ?_
  unfold opIs at h
  split at h
  · simp only [Rep] at re
    exact ⟨re, by rw [non_iff rd]; exact h.here s _ (by simp only [Rep])⟩
  · exact h.elim
theorem oIsNot : OpR X (compareOp .IsNot) (rD2 ca X.K opIsNot) := by
  refine opr_imp (op_notN (X := X)) fun x y H Q ⟨ρ, st, d, e, rd, re, s, h⟩ => ?_
  unfold opIsNot at h
  split at h
  · simp only [Rep] at re
    exact ⟨re, by rw [non_iff rd]; exact h.here s _ (by simp only [Rep])⟩
  · exact h.elim

/-! ### the binary operators as expressions -/
theorem je_add (ha : JE X ca W a f) (hb : JE X ca W b g) : JE X ca W (.BinOp a .Add b pos) (fOp opAdd f g) := je_op oAdd opAdd_nox ha hb
theorem je_cat (ha : JE X ca W a f) (hb : JE X ca W b g) : JE X ca W (.BinOp a .Add b pos) (fOp opCat f g) := je_op oCat opCat_nox ha hb
theorem je_catO (ha : JE X ca W a f) (hb : JE X ca W b g) : JE X ca W (.BinOp a .Add b pos) (fOp opCatO f g) := je_op oCatO opCatO_nox ha hb
theorem je_sub (ha : JE X ca W a f) (hb : JE X ca W b g) : JE X ca W (.BinOp a .Sub b pos) (fOp opSub f g) := je_op oSub opSub_nox ha hb
theorem je_mul (ha : JE X ca W a f) (hb : JE X ca W b g) : JE X ca W (.BinOp a .Mult b pos) (fOp opMul f g) := je_op oMul opMul_nox ha hb
theorem je_div (ha : JE X ca W a f) (hb : JE X ca W b g) : JE X ca W (.BinOp a .FloorDiv b pos) (fOp opDiv f g) := je_op oDiv opDiv_nox ha hb
theorem je_mod (ha : JE X ca W a f) (hb : JE X ca W b g) : JE X ca W (.BinOp a .Mod b pos) (fOp opMod f g) := je_op oMod opMod_nox ha hb
theorem je_pow (ha : JE X ca W a f) (hb : JE X ca W b g) : JE X ca W (.BinOp a .Pow b pos) (fOp opPow f g) := je_op oPow opPow_nox ha hb
/-- room for a comparison of data -/
abbrev Deep (X : Cx) : Prop := X.A.units + 65 < cLine
theorem je_eq (hu : Deep X) (ha : JE X ca W a f) (hb : JE X ca W b g) : JE X ca W (.Compare a [.Eq] [b] pos) (fOp opEq f g) := je_cmp (oEq (Nat.lt_of_succ_lt hu)) opEq_nox ha hb (nomark _)
theorem je_ne (hu : Deep X) (ha : JE X ca W a f) (hb : JE X ca W b g) : JE X ca W (.Compare a [.NotEq] [b] pos) (fOp opNe f g) := je_cmp (oNe (Nat.lt_of_succ_lt hu)) opNe_nox ha hb (nomark _)
theorem je_lt (ha : JE X ca W a f) (hb : JE X ca W b g) : JE X ca W (.Compare a [.Lt] [b] pos) (fOp opLt f g) := je_cmp oLt (cmpI_nox _) ha hb (nomark _)
theorem je_le (ha : JE X ca W a f) (hb : JE X ca W b g) : JE X ca W (.Compare a [.LtE] [b] pos) (fOp opLe f g) := je_cmp oLe (cmpI_nox _) ha hb (nomark _)
theorem je_gt (ha : JE X ca W a f) (hb : JE X ca W b g) : JE X ca W (.Compare a [.Gt] [b] pos) (fOp opGt f g) := je_cmp oGt (cmpI_nox _) ha hb (nomark _)
theorem je_ge (ha : JE X ca W a f) (hb : JE X ca W b g) : JE X ca W (.Compare a [.GtE] [b] pos) (fOp opGe f g) := je_cmp oGe (cmpI_nox _) ha hb (nomark _)
theorem je_is (ha : JE X ca W a f) (hb : JE X ca W b g) : JE X ca W (.Compare a [.Is] [b] pos) (fOp opIs f g) := je_cmp oIs opIs_nox ha hb (nomark _)
theorem je_isnot (ha : JE X ca W a f) (hb : JE X ca W b g) : JE X ca W (.Compare a [.IsNot] [b] pos) (fOp opIsNot f g) := je_cmp oIsNot opIsNot_nox ha hb (nomark _)
theorem jb_eq (hu : Deep X) (ha : JE X ca W a f) (hb : JE X ca W b g) : JB X ca W (.Compare a [.Eq] [b] pos) (bOf (fOp opEq f g)) := jb_cmp (oEq (Nat.lt_of_succ_lt hu)) opEq_nox ha hb (nomark _)
theorem jb_ne (hu : Deep X) (ha : JE X ca W a f) (hb : JE X ca W b g) : JB X ca W (.Compare a [.NotEq] [b] pos) (bOf (fOp opNe f g)) := jb_cmp (oNe (Nat.lt_of_succ_lt hu)) opNe_nox ha hb (nomark _)
theorem jb_lt (ha : JE X ca W a f) (hb : JE X ca W b g) : JB X ca W (.Compare a [.Lt] [b] pos) (bOf (fOp opLt f g)) := jb_cmp oLt (cmpI_nox _) ha hb (nomark _)
theorem jb_le (ha : JE X ca W a f) (hb : JE X ca W b g) : JB X ca W (.Compare a [.LtE] [b] pos) (bOf (fOp opLe f g)) := jb_cmp oLe (cmpI_nox _) ha hb (nomark _)
theorem jb_gt (ha : JE X ca W a f) (hb : JE X ca W b g) : JB X ca W (.Compare a [.Gt] [b] pos) (bOf (fOp opGt f g)) := jb_cmp oGt (cmpI_nox _) ha hb (nomark _)
theorem jb_ge (ha : JE X ca W a f) (hb : JE X ca W b g) : JB X ca W (.Compare a [.GtE] [b] pos) (bOf (fOp opGe f g)) := jb_cmp oGe (cmpI_nox _) ha hb (nomark _)
theorem jb_is (ha : JE X ca W a f) (hb : JE X ca W b g) : JB X ca W (.Compare a [.Is] [b] pos) (bOf (fOp opIs f g)) := jb_cmp oIs opIs_nox ha hb (nomark _)
theorem jb_isnot (ha : JE X ca W a f) (hb : JE X ca W b g) : JB X ca W (.Compare a [.IsNot] [b] pos) (bOf (fOp opIsNot f g)) := jb_cmp oIsNot opIsNot_nox ha hb (nomark _)
/-! ### in, not in -/
theorem or_two (o : Value → Value → Sem Value) {r r' : R2} (h : OpR X o r) (h' : OpR X o r') : OpR X o (fun x y H Q => r x y H Q ∨ r' x y H Q) := h.or h'
/-- not a dict -/
theorem oIn0 (hu : Deep X) : OpR X (compareOp .In) (rD2 ca X.K fun d e st => match dictLook st e d with | some _ => .bad | none => opIn d e st) := by
  refine opr_imp ((op_in_str (X := X)).or ((op_in_seq (X := X)).or (op_inD hu))) fun x y H Q ⟨ρ, st, d, e, rd, re, s, h⟩ => ?_
  cases q0 : dictLook st e d with
  | some _ => simp only [q0] at h; exact h.elim
  | none =>
  simp only [q0, opIn, memD] at h
  split at h
  · rename_i z
    split at h
    · simp only [Rep] at rd re
      exact .inl ⟨_, _, rd, re, h.here s _ (by simp only [Rep])⟩
    · exact h.elim
  · cases q1 : seqOf st e with
    | none => simp only [q1, q0, Option.map_none, ofB] at h; exact h.elim
    | some es =>
      obtain ⟨p, xs, rfl, hq, rs⟩ := seqOf_rep s q1 re
      simp only [q1] at h
      split at h
      · rename_i w ws e1 e2
        obtain ⟨rfl, h1⟩ := flD_rep e1 rd
        obtain ⟨rfl, h2⟩ := flDs_rep e2 rs
        exact .inr (.inl ⟨p, _, rfl, hq, h1, h2, h.here s _ (by simp only [Rep] <;> rfl)⟩)
      · split at h
        · rename_i es' pp ps q2 q3 q4
          split at h
          · rename_i hh
            obtain ⟨p2, xs2, e', hq2, rs2⟩ := listOf_rep s q2 re
            cases e'
            have ees : es' = es := by
              cases e <;> simp only [listOf, seqOf, reduceCtorEq] at q1 q2 <;> simp_all
            subst ees
            exact .inr (.inr ⟨pp, ps, dp_of q3 rd, .lst hq2 (dps_of q4 rs2), hh.1, hh.2, h.here s _ (by simp only [Rep])⟩)
          · exact h.elim
        · exact h.elim
theorem oNotIn0 (hu : Deep X) : OpR X (compareOp .NotIn) (rD2 ca X.K fun d e st => match dictLook st e d with | some _ => .bad | none => opNotIn d e st) := by
  refine opr_imp ((op_notin_str (X := X)).or ((op_notIn_seq (X := X)).or (op_notInD hu))) fun x y H Q ⟨ρ, st, d, e, rd, re, s, h⟩ => ?_
  cases q0 : dictLook st e d with
  | some _ => simp only [q0] at h; exact h.elim
  | none =>
  simp only [q0, opNotIn, memD] at h
  split at h
  · rename_i z
    split at h
    · simp only [Rep] at rd re
      exact .inl ⟨_, _, rd, re, h.here s _ (by simp only [Rep])⟩
    · exact h.elim
  · cases q1 : seqOf st e with
    | none => simp only [q1, q0, Option.map_none, ofB] at h; exact h.elim
    | some es =>
      obtain ⟨p, xs, rfl, hq, rs⟩ := seqOf_rep s q1 re
      simp only [q1] at h
      split at h
      · rename_i w ws e1 e2
        obtain ⟨rfl, h1⟩ := flD_rep e1 rd
        obtain ⟨rfl, h2⟩ := flDs_rep e2 rs
        exact .inr (.inl ⟨p, _, rfl, hq, h1, h2, h.here s _ (by simp only [Rep] <;> rfl)⟩)
      · split at h
        · rename_i es' pp ps q2 q3 q4
          split at h
          · rename_i hh
            obtain ⟨p2, xs2, e', hq2, rs2⟩ := listOf_rep s q2 re
            cases e'
            have ees : es' = es := by
              cases e <;> simp only [listOf, seqOf, reduceCtorEq] at q1 q2 <;> simp_all
            subst ees
            exact .inr (.inr ⟨pp, ps, dp_of q3 rd, .lst hq2 (dps_of q4 rs2), hh.1, hh.2, h.here s _ (by simp only [Rep])⟩)
          · exact h.elim
        · exact h.elim
end
end DL
set_option Elab.async false
set_option linter.all false
set_option maxRecDepth 100000
set_option maxHeartbeats 4000000
namespace DL
open PySem PySem.Spec PyProof.Rows L2
section
variable {X : Cx} {ca : CA} {W : WX} {a b c e : Expr} {es rest : List Expr} {f g k : FE} {pos : Pos}
/-- + of anything -/
def opAddA (d e : D) (st : Sto) : R D := match mlOf st d, mlOf st e with
  | some _, some _ => opCat d e st
  | _, _ => opAdd d e st
theorem opAddA_nox (d e st) : NoEx (opAddA d e st) := by
  unfold opAddA; split
  · exact opCat_nox _ _ _
  · exact opAdd_nox _ _ _
theorem oAddA : OpR X (binaryOp .Add) (rD2 ca X.K opAddA) := by
  refine opr_imp ((oCat (X := X) (ca := ca)).or (oAdd (X := X) (ca := ca))) fun x y H Q ⟨ρ, st, d, e, rd, re, s, h⟩ => ?_
  unfold opAddA at h
  split at h
  · exact .inl ⟨ρ, st, d, e, rd, re, s, h⟩
  · exact .inr ⟨ρ, st, d, e, rd, re, s, h⟩
theorem je_addA (ha : JE X ca W a f) (hb : JE X ca W b g) : JE X ca W (.BinOp a .Add b pos) (fOp opAddA f g) := je_op oAddA opAddA_nox ha hb

/-! ### in, not in -/
theorem je_in_aux {op : CmpOp} {o : D → D → Sto → R D} {neg : Bool} (ho : OpR X (compareOp op) (rD2 ca X.K fun d e st => match dictLook st e d with | some _ => .bad | none => o d e st)) (hn : ∀ d e st, NoEx (o d e st))
    (hd : ∀ d e st w, dictLook st e d = some w → o d e st = .ok (.bl (if neg then !w.isSome else w.isSome)) st)
    {t : TE → TE → TE} (hp : ∀ {ta tb : TE}, PE X a ta → PE X b tb → PE X (.Compare a [op] [b] pos) (t ta tb))
    (ht : ∀ ta tb σ H Q, (ta σ H fun y H1 => tb σ H1 fun x H2 => ∃ p o, x = .ref p ∧ DGet H2 p y o ∧ Q (.bl (if neg then !o.isSome else o.isSome)) H2) → t ta tb σ H Q)
    (ha : JE X ca W a f) (hb : JE X ca W b g) (hm : behindInMarks op b = false) : JE X ca W (.Compare a [op] [b] pos) (fOp o f g) := by
  refine pe_imp (pe_or (pe_cmpR ho ha hb hm) (hp ha hb)) fun σ H Q ⟨ρ, st, τ, sl, s, h⟩ => ?_
  by_cases hc : ∃ d st1 e st2 w, f τ st = .ok d st1 ∧ g τ st1 = .ok e st2 ∧ dictLook st2 e d = some w
  · obtain ⟨d, st1, e, st2, w, e1, e2, e3⟩ := hc
    refine .inr (ht _ _ _ _ _ ?_)
    refine at_ofE sl s h fun d' ρ1 st1' H1 q1 x1 sl1 s1 h1 v r1 => ?_
    rw [e1] at q1; cases q1
    refine at_ofE sl1 s1 h1 fun e' ρ2 st2' H2 q2 x2 sl2 s2 h2 u r2 => ?_
    rw [e2] at q2; cases q2
    rw [hd _ _ _ _ e3] at h2
    obtain ⟨p, z, ex, _, hg, hz⟩ := dictLook_rep s2 e3 r2 (r1.ext x2)
    refine ⟨p, z, ex, hg, ?_⟩
    have hw : z.isSome = w.isSome := by
      rcases hz with ⟨h1, h2⟩ | ⟨_, _, h1, h2, _⟩ <;> rw [h1, h2] <;> rfl
    rw [hw]
    exact h2.here s2 _ (by simp only [Rep])
  · refine .inl ?_
    refine at_ofE sl s h fun d ρ1 st1 H1 e1 x1 sl1 s1 h1 v r1 => ?_
    refine at_ofE sl1 s1 h1 fun e ρ2 st2 H2 e2 x2 sl2 s2 h2 u r2 => ?_
    refine ⟨ρ2, st2, d, e, r1.ext x2, r2, s2, ?_⟩
    have e3 : dictLook st2 e d = none := by
      cases q : dictLook st2 e d with
      | none => rfl
      | some w => exact absurd ⟨d, st1, e, st2, w, e1, e2, q⟩ hc
    simp only [e3]
    exact h2.nox (hn _ _ _)
theorem dictLook_str {st : Sto} {z : Str} {d : D} : dictLook st (.str z) d = none := rfl
theorem memD_dict {st : Sto} {d e : D} {w : Option D} (h : dictLook st e d = some w) : memD st d e = some w.isSome := by
  cases e with
  | dv ks vs => simp only [memD, seqOf, listOf, h, Option.map_some]
  | obj i =>
    have q : listOf st (.obj i) = none := by
      simp only [dictLook] at h
      simp only [listOf]
      cases e : st[i]? with
      | none => rfl
      | some m => cases m <;> simp [e] at h ⊢
    simp only [memD, seqOf, q, h, Option.map_some]
  | _ => simp [dictLook] at h
theorem opIn_dict (d e : D) (st : Sto) (w : Option D) (h : dictLook st e d = some w) : opIn d e st = .ok (.bl w.isSome) st := by
  simp only [opIn, memD_dict h, ofB]
theorem opNotIn_dict (d e : D) (st : Sto) (w : Option D) (h : dictLook st e d = some w) : opNotIn d e st = .ok (.bl (!w.isSome)) st := by
  simp only [opNotIn, memD_dict h, ofB, Option.map_some]
theorem deep1 (hu : Deep X) : X.A.units + 1 < cLine := Nat.lt_of_le_of_lt (Nat.add_le_add_left (by decide) _) hu
theorem je_in (hu : Deep X) (ha : JE X ca W a f) (hb : JE X ca W b g) (hm : behindInMarks .In b = false := by with_unfolding_all rfl) : JE X ca W (.Compare a [.In] [b] pos) (fOp opIn f g) :=
  je_in_aux (neg := false) (oIn0 hu) opIn_nox (fun d e st w h => opIn_dict d e st w h) (t := tDIn) (fun p q => pe_cmp (pc_din (deep1 hu) p q) hm) (fun ta tb σ H Q h => h) ha hb hm
theorem je_notin (hu : Deep X) (ha : JE X ca W a f) (hb : JE X ca W b g) (hm : behindInMarks .NotIn b = false := by with_unfolding_all rfl) : JE X ca W (.Compare a [.NotIn] [b] pos) (fOp opNotIn f g) :=
  je_in_aux (neg := true) (oNotIn0 hu) opNotIn_nox (fun d e st w h => opNotIn_dict d e st w h) (t := tDNotIn) (fun p q => pe_cmp (pc_dnotin (deep1 hu) p q) hm) (fun ta tb σ H Q h => h) ha hb hm
/-- a comparison as a test, from it as a value -/
theorem pt_of_cmp {op : CmpOp} {t : TE} (h : PE X (.Compare a [op] [b] pos) t) (hm : behindInMarks op b = false) (hr : ∀ (pins : List (Addr × Obj)) (s : Shared) (σ : L2.St) (H : Hp) (Q : VK), Inv X pins σ H s → t σ H Q → wpAny (model X.prog X.w) X.A (eval (.Compare a [op] [b] pos) X.env) (EP X pins σ Q) X.xe s) : True := True.intro
theorem jb_in_aux {op : CmpOp} {o : D → D → Sto → R D} {neg : Bool} (ho : OpR X (compareOp op) (rD2 ca X.K fun d e st => match dictLook st e d with | some _ => .bad | none => o d e st)) (hn : ∀ d e st, NoEx (o d e st))
    (hd : ∀ d e st w, dictLook st e d = some w → o d e st = .ok (.bl (if neg then !w.isSome else w.isSome)) st)
    {t : TE → TE → TE} (hp : ∀ {ta tb : TE}, PE X a ta → PE X b tb → PC X op a b (t ta tb))
    (ht : ∀ ta tb σ H Q, (ta σ H fun y H1 => tb σ H1 fun x H2 => ∃ p o, x = .ref p ∧ DGet H2 p y o ∧ Q (.bl (if neg then !o.isSome else o.isSome)) H2) → t ta tb σ H Q)
    (ha : JE X ca W a f) (hb : JE X ca W b g) (hm : behindInMarks op b = false) : JB X ca W (.Compare a [op] [b] pos) (bOf (fOp o f g)) := by
  have pt_or : ∀ {t t' : TT}, PT X (.Compare a [op] [b] pos) t → PT X (.Compare a [op] [b] pos) t' → PT X (.Compare a [op] [b] pos) (fun σ H Q => t σ H Q ∨ t' σ H Q) := fun h h' => ⟨fun pins s σ H Q I q => q.elim (h.run pins s σ H Q I) (h'.run pins s σ H Q I)⟩
  refine pt_imp (pt_or (pt_cmpR ho ha hb hm) (pt_cmp (hp ha hb) hm)) fun σ H Q ⟨ρ, st, τ, sl, s, h⟩ => ?_
  simp only [bOf, fOp, R.bind_assoc] at h
  by_cases hc : ∃ d st1 e st2 w, f τ st = .ok d st1 ∧ g τ st1 = .ok e st2 ∧ dictLook st2 e d = some w
  · obtain ⟨d, st1, e, st2, w, e1, e2, e3⟩ := hc
    refine .inr (ht _ _ _ _ _ ?_)
    refine at_ofE sl s h fun d' ρ1 st1' H1 q1 x1 sl1 s1 h1 v r1 => ?_
    rw [e1] at q1; cases q1
    refine at_ofE sl1 s1 h1 fun e' ρ2 st2' H2 q2 x2 sl2 s2 h2 u r2 => ?_
    rw [e2] at q2; cases q2
    rw [hd _ _ _ _ e3] at h2
    obtain ⟨p, z, ex, _, hg, hz⟩ := dictLook_rep s2 e3 r2 (r1.ext x2)
    refine ⟨p, z, ex, hg, _, rfl, ?_⟩
    have hw : z.isSome = w.isSome := by
      rcases hz with ⟨h1, h2⟩ | ⟨_, _, h1, h2, _⟩ <;> rw [h1, h2] <;> rfl
    rw [hw]
    exact h2.here s2
  · refine .inl ?_
    refine at_ofE sl s h fun d ρ1 st1 H1 e1 x1 sl1 s1 h1 v r1 => ?_
    refine at_ofE sl1 s1 h1 fun e ρ2 st2 H2 e2 x2 sl2 s2 h2 u r2 => ?_
    refine ⟨ρ2, st2, d, e, r1.ext x2, r2, s2, ?_⟩
    have e3 : dictLook st2 e d = none := by
      cases q : dictLook st2 e d with
      | none => rfl
      | some w => exact absurd ⟨d, st1, e, st2, w, e1, e2, q⟩ hc
    simp only [e3]
    have h3 := Post.bind h2
    refine (h3.nox (hn _ _ _)).mono fun a ρ3 st3 H3 x3 s3 q v3 r3 => ?_
    obtain ⟨_, _, q⟩ := q
    cases a with
    | bl k => simp only [Rep] at r3; exact ⟨k, r3, q.here s3⟩
    | _ => exact q.elim
theorem jb_in (hu : Deep X) (ha : JE X ca W a f) (hb : JE X ca W b g) (hm : behindInMarks .In b = false := by with_unfolding_all rfl) : JB X ca W (.Compare a [.In] [b] pos) (bOf (fOp opIn f g)) :=
  jb_in_aux (neg := false) (oIn0 hu) opIn_nox (fun d e st w h => opIn_dict d e st w h) (t := tDIn) (fun p q => pc_din (deep1 hu) p q) (fun ta tb σ H Q h => h) ha hb hm
theorem jb_notin (hu : Deep X) (ha : JE X ca W a f) (hb : JE X ca W b g) (hm : behindInMarks .NotIn b = false := by with_unfolding_all rfl) : JB X ca W (.Compare a [.NotIn] [b] pos) (bOf (fOp opNotIn f g)) :=
  jb_in_aux (neg := true) (oNotIn0 hu) opNotIn_nox (fun d e st w h => opNotIn_dict d e st w h) (t := tDNotIn) (fun p q => pc_dnotin (deep1 hu) p q) (fun ta tb σ H Q h => h) ha hb hm

/-! ### a subscript -/
theorem atI_get {K : PySem.W.Frag} {ρ : Nat → Addr} {n : Nat} {H : Hp} {ds : List D} {xs : List V} {i : Int} {z : D} (r : Reps K ca ρ n H ds xs) (h : atI ds i = some z) : ∃ v, atI xs i = some v ∧ Rep K ca ρ n H z v := by
  unfold atI at h ⊢
  rw [r.length]
  cases e : ixN ds.length i with
  | none => rw [e] at h; cases h
  | some j =>
    rw [e] at h
    exact r.get h
theorem oIxS : IxR X (fun x y H Q => ∃ ρ st d e, Rep X.K ca ρ st.length H d x ∧ Rep X.K ca ρ st.length H e y ∧ SRep X.K ca ρ H st ∧ (dictLook st d e = none ∧ Post X.K ca (fun _ _ _ _ => False) ρ st.length H (opIx d e st) (KD X.K ca Q))) := by
  intro value slice pins s σ H x y v u Q I rx ry ⟨ρ, st, d, e, rd, re, sr, q0, h⟩
  refine ix_seq (X := X) value slice pins s σ H x y v u Q I rx ry ?_
  unfold opIx at h
  split at h
  · split at h
    · split at h
      · rename_i z
        split at h
        · rename_i c hc
          simp only [Rep] at rd re
          exact .inr (.inr ⟨_, _, c, rd, re, z, hc, h.here sr _ (by simp only [Rep])⟩)
        · exact h.elim
      · exact h.elim
    · exact h.elim
  · split at h
    · rename_i ds q1
      obtain ⟨p, xs, rfl, hq, rs⟩ := seqOf_rep sr q1 rd
      split at h
      · simp only [Rep] at re
        split at h
        · rename_i z hz
          obtain ⟨v', e', r'⟩ := atI_get rs hz
          rcases hq with hq | hq
          · exact .inl ⟨p, xs, _, v', rfl, re, hq, e', h.here sr _ r'⟩
          · exact .inr (.inl ⟨p, xs, _, v', rfl, re, hq, e', h.here sr _ r'⟩)
        · exact h.elim
      · exact h.elim
    · rw [q0] at h; exact h.elim
theorem je_ix (hu : Deep X) (ha : JE X ca W a f) (hb : JE X ca W b g) (hs : PlainIx b := by exact fun _ _ => rfl) : JE X ca W (.Subscript a b pos) (fOp opIx f g) := by
  refine pe_imp (pe_or (pe_ix (oIxS (ca := ca)) ha hb hs) (pe_dget (deep1 hu) ha hb hs)) fun σ H Q ⟨ρ, st, τ, sl, s, h⟩ => ?_
  by_cases hc : ∃ d st1 e st2 w, f τ st = .ok d st1 ∧ g τ st1 = .ok e st2 ∧ dictLook st2 d e = some w
  · obtain ⟨d, st1, e, st2, w, e1, e2, e3⟩ := hc
    refine .inr ?_
    refine at_ofE sl s h fun d' ρ1 st1' H1 q1 x1 sl1 s1 h1 v r1 => ?_
    rw [e1] at q1; cases q1
    refine at_ofE sl1 s1 h1 fun e' ρ2 st2' H2 q2 x2 sl2 s2 h2 u r2 => ?_
    rw [e2] at q2; cases q2
    obtain ⟨p, z, ex, _, hg, hz⟩ := dictLook_rep s2 e3 (r1.ext x2) r2
    have hix : opIx d e st2 = ofO w st2 := by
      cases d with
      | dv ks vs => simp only [opIx, seqOf, listOf, e3]
      | obj i =>
        have q : listOf st2 (.obj i) = none := by
          simp only [dictLook] at e3
          simp only [listOf]
          cases e : st2[i]? with
          | none => rfl
          | some m => cases m <;> simp [e] at e3 ⊢
        simp only [opIx, seqOf, q, e3]
      | _ => simp [dictLook] at e3
    rw [hix] at h2
    rcases hz with ⟨h3, h4⟩ | ⟨d', v', h3, h4, h5⟩
    · rw [h3] at h2; exact h2.elim
    · rw [h3] at h2
      exact ⟨p, v', ex, by rw [← h4]; exact hg, h2.here s2 _ h5⟩
  · refine .inl ?_
    refine at_ofE sl s h fun d ρ1 st1 H1 e1 x1 sl1 s1 h1 v r1 => ?_
    refine at_ofE sl1 s1 h1 fun e ρ2 st2 H2 e2 x2 sl2 s2 h2 u r2 => ?_
    refine ⟨ρ2, st2, d, e, r1.ext x2, r2, s2, ?_, h2.nox (opIx_nox _ _ _)⟩
    cases q : dictLook st2 d e with
    | none => rfl
    | some w => exact absurd ⟨d, st1, e, st2, w, e1, e2, q⟩ hc

/-! ### slices -/
def cutD (ds : List D) (lo hi : Option Int) : List D := (ds.drop (HT.sIx ds.length 0 lo)).take (HT.sIx ds.length ds.length hi - HT.sIx ds.length 0 lo)
theorem Reps.cut {K : PySem.W.Frag} {ρ : Nat → Addr} {n : Nat} {H : Hp} {ds : List D} {xs : List V} (r : Reps K ca ρ n H ds xs) (lo hi : Option Int) : Reps K ca ρ n H (cutD ds lo hi) (cutV xs lo hi) := by
  unfold cutD cutV
  rw [r.length]
  exact (r.drop _).take _
abbrev FO := Ti → Sto → R (Option Int)
def tDO (K : PySem.W.Frag) (ca : CA) (W : WX) (f : FO) : TO := fun σ H Q => At K ca W f σ H fun o _ _ H1 => Q o H1
def JO (X : Cx) (ca : CA) (W : WX) (e : Option Expr) (f : FO) : Prop := PO X e (tDO X.K ca W f)
def oNo : FO := fun _ st => .ok none st
def oSo (f : FE) : FO := fun τ st => (f τ st).bind fun d st1 => match d with
  | .int i => .ok (some i) st1
  | _ => .bad
theorem po_imp {e : Option Expr} {t t' : TO} (h : PO X e t) (i : ∀ σ H Q, t' σ H Q → t σ H Q) : PO X e t' := ⟨fun pins s σ H Q I q => h.run pins s σ H Q I (i σ H Q q)⟩
theorem jo_none : JO X ca W none oNo := po_imp po_none fun σ H Q ⟨ρ, st, τ, sl, s, h⟩ => h.here s
theorem jo_some (ha : JE X ca W a f) : JO X ca W (some a) (oSo f) := po_imp (po_some ha) fun σ H Q ⟨ρ, st, τ, sl, s, h⟩ =>
  at_of sl s h fun d ρ1 st1 H1 x1 sl1 s1 h1 v r1 => by
    cases d with
    | int i => simp only [Rep] at r1; exact ⟨i, r1, h1.here s1⟩
    | _ => exact h1.elim
/-- a slice: of a list a list that stays -/
def opSl (d : D) (lo hi : Option Int) (st : Sto) : R D :=
  match d with
  | .str z => if z.length ≤ sizeLine then .ok (.str (cutS z lo hi)) st else .bad
  | .tup ds => .ok (.tup (cutD ds lo hi)) st
  | d => match listOf st d with
    | some ds => .ok (.lv (cutD ds lo hi)) st
    | none => .bad
theorem opSl_nox (d lo hi st) : NoEx (opSl d lo hi st) := by unfold opSl NoEx; intros; (repeat' split) <;> (intro h; cases h)
theorem oSl : SlR X (fun x lo hi H Q => ∃ ρ st d, Rep X.K ca ρ st.length H d x ∧ SRep X.K ca ρ H st ∧ Post X.K ca (fun _ _ _ _ => False) ρ st.length H (opSl d lo hi st) (KD X.K ca Q)) := by
  intro pins s σ H x v vl vu lo hi sl Q I rx hs pl pu ⟨ρ, st, d, rd, sr, h⟩
  refine ((sl_str (X := X)).or ((sl_tupA (X := X)).or (sl_list (X := X)))) pins s σ H x v vl vu lo hi sl Q I rx hs pl pu ?_
  unfold opSl at h
  split at h
  · split at h
    · rename_i z
      simp only [Rep] at rd
      exact .inl ⟨_, rd, z, h.here sr _ (by simp only [Rep])⟩
    · exact h.elim
  · rename_i ds
    simp only [Rep] at rd
    obtain ⟨p, xs, rfl, hq, rs⟩ := rd
    refine .inr (.inl ⟨p, xs, rfl, SqT.of hq, fun hw => ?_, fun _ q hp => ?_⟩)
    · refine h.here sr _ ?_
      simp only [Rep]
      refine ⟨p, xs, rfl, hq, ?_⟩
      have e := rs.cut lo hi
      have ec : cutV xs lo hi = xs := by
        unfold cutV
        rw [hw.1, hw.2]
        simp
      rw [ec] at e
      exact e
    · exact h _ ρ (Ext.upd_new sr hp) (sr.upd_new hp) _ (rep_tup_new sr hp (rs.cut lo hi))
  · split at h
    · rename_i ds q1
      obtain ⟨p, xs, rfl, hq, rs⟩ := listOf_rep sr q1 rd
      exact .inr (.inr ⟨p, xs, rfl, hq, fun q hp => h _ ρ (Ext.upd_new sr hp) (sr.upd_new hp) _ (rep_lv_new sr hp (rs.cut lo hi))⟩)
    · exact h.elim
def fSl (f : FE) (lo hi : FO) : FE := fun τ st => (f τ st).bind fun d st1 => (lo τ st1).bind fun l st2 => (hi τ st2).bind fun u st3 => opSl d l u st3
theorem je_sl {lo hi : Option Expr} {fl fh : FO} {p2 : Pos} (ha : JE X ca W a f) (hl : JO X ca W lo fl) (hh : JO X ca W hi fh) : JE X ca W (.Subscript a (.Slice lo hi none p2) pos) (fSl f fl fh) :=
  pe_imp (pe_slice (oSl (ca := ca)) ha hl hh) fun σ H Q ⟨ρ, st, τ, sl, s, h⟩ =>
    at_of sl s h fun d ρ1 st1 H1 x1 sl1 s1 h1 v r1 =>
      at_of sl1 s1 h1 fun l ρ2 st2 H2 x2 sl2 s2 h2 =>
        at_of sl2 s2 h2 fun u ρ3 st3 H3 x3 sl3 s3 h3 => ⟨ρ3, st3, d, r1.ext (x2.trans x3), s3, h3.nox (opSl_nox _ _ _ _)⟩

/-! ### and, or, not, conditions -/
/-- a value's truth -/
def truD (st : Sto) : D → Option Bool
  | .non => some false
  | .bl b => some b
  | .int i => some (i != 0)
  | .str y => if y.length ≤ sizeLine then some ((y.length : Int) != 0) else none
  | .dv ks _ => some (!ks.isEmpty)
  | .obj i => match st[i]? with
    | some (.lst ds) => some (!ds.isEmpty)
    | some (.dic ds) => some (!ds.isEmpty)
    | _ => none
  | d => (seqOf st d).map fun ds => !ds.isEmpty
theorem Reps.isEmpty {K : PySem.W.Frag} {ρ : Nat → Addr} {n : Nat} {H : Hp} {ds : List D} {xs : List V} (r : Reps K ca ρ n H ds xs) : xs.isEmpty = ds.isEmpty := by
  cases ds with
  | nil => simp only [Reps] at r; subst r; rfl
  | cons d ds => simp only [Reps] at r; obtain ⟨v, r, rfl, _⟩ := r; rfl
theorem truD_rep {K : PySem.W.Frag} {ρ : Nat → Addr} {H : Hp} {st : Sto} (s : SRep K ca ρ H st) {d : D} {v : V} {k : Bool} (e : truD st d = some k) (r : Rep K ca ρ st.length H d v) (hd : match d with | .dv _ _ => False | _ => True) : TruV K v H k := by
  cases d with
  | non => simp only [truD, Option.some.injEq] at e; simp only [Rep] at r; subst r e; rfl
  | bl b => simp only [truD, Option.some.injEq] at e; simp only [Rep] at r; subst r e; rfl
  | int b => simp only [truD, Option.some.injEq] at e; simp only [Rep] at r; subst r e; rfl
  | str b =>
    simp only [truD] at e
    split at e
    · rename_i z
      simp only [Option.some.injEq] at e; simp only [Rep] at r; subst r e; exact ⟨z, rfl⟩
    · cases e
  | obj i =>
    simp only [truD] at e
    simp only [Rep] at r
    obtain ⟨hi, rfl⟩ := r
    cases q : st[i]? with
    | none => simp [q] at e
    | some m =>
      cases m with
      | lst ds =>
        simp only [q, Option.some.injEq] at e
        obtain ⟨xs, ha, rs⟩ := s.at_ i _ q
        exact .inl ⟨xs, SqL.of ha, by rw [← e, rs.isEmpty]⟩
      | dic ds =>
        simp only [q, Option.some.injEq] at e
        obtain ⟨xs, ha, rs⟩ := s.at_ i _ q
        refine .inr (.inr ⟨xs, ha, ?_⟩)
        rw [← e]
        have := rs.length
        cases ds <;> cases xs <;> simp_all
      | _ => simp [q] at e
  | dv _ _ => exact hd.elim
  | ty _ => simp [truD, seqOf, listOf] at e
  | glb _ => simp [truD, seqOf, listOf] at e
  | tup ds =>
    simp only [truD, seqOf, Option.map_some, Option.some.injEq] at e
    obtain ⟨p, xs, rfl, hq, rs⟩ := seqOf_rep (ds := ds) s rfl r
    rcases hq with hq | hq
    · exact .inl ⟨xs, hq, by rw [← e, rs.isEmpty]⟩
    · exact .inr (.inl ⟨xs, hq, by rw [← e, rs.isEmpty]⟩)
  | ktup ds =>
    simp only [truD, seqOf, Option.map_some, Option.some.injEq] at e
    obtain ⟨p, xs, rfl, hq, rs⟩ := seqOf_rep (ds := ds) s rfl r
    rcases hq with hq | hq
    · exact .inl ⟨xs, hq, by rw [← e, rs.isEmpty]⟩
    · exact .inr (.inl ⟨xs, hq, by rw [← e, rs.isEmpty]⟩)
  | lv ds =>
    simp only [truD, seqOf, listOf, Option.map_some, Option.some.injEq] at e
    obtain ⟨p, xs, rfl, hq, rs⟩ := seqOf_rep (ds := ds) s rfl r
    rcases hq with hq | hq
    · exact .inl ⟨xs, hq, by rw [← e, rs.isEmpty]⟩
    · exact .inr (.inl ⟨xs, hq, by rw [← e, rs.isEmpty]⟩)
  | kl ds =>
    simp only [truD, seqOf, listOf, Option.map_some, Option.some.injEq] at e
    obtain ⟨p, xs, rfl, hq, rs⟩ := seqOf_rep (ds := ds) s rfl r
    rcases hq with hq | hq
    · exact .inl ⟨xs, hq, by rw [← e, rs.isEmpty]⟩
    · exact .inr (.inl ⟨xs, hq, by rw [← e, rs.isEmpty]⟩)
/-- a value's truth, no dict that stays -/
def tru (st : Sto) (d : D) : Option Bool := match d with
  | .dv _ _ => none
  | d => truD st d
theorem tru_rep {K : PySem.W.Frag} {ρ : Nat → Addr} {H : Hp} {st : Sto} (s : SRep K ca ρ H st) {d : D} {v : V} {k : Bool} (e : tru st d = some k) (r : Rep K ca ρ st.length H d v) : TruV K v H k := by
  cases d with
  | dv _ _ => simp [tru] at e
  | _ => simp only [tru] at e; exact truD_rep s e r True.intro
def bTru (f : FE) : FB := fun τ st => (f τ st).bind fun d st1 => match tru st1 d with
  | some b => .ok b st1
  | none => .bad
/-- an expression as a test, whatever its value (no comparison, and, or, not) -/
theorem jb_tru (ha : JE X ca W a f) (he : ∀ whole, isTrue a X.env whole = (do let v ← whole; standAt a.pos; holding [v] (truthy v)) := by intro _; rfl) : JB X ca W a (bTru f) :=
  pt_imp (pt_truth ha he) fun σ H Q ⟨ρ, st, τ, sl, s, h⟩ =>
    at_of sl s h fun d ρ1 st1 H1 x1 sl1 s1 h1 v r1 => by
      cases e : tru st1 d with
      | none => simp only [e] at h1; exact h1.elim
      | some k => simp only [e] at h1; exact ⟨k, tru_rep s1 e r1, h1.here s1⟩
/-- and, or as tests -/
def JW (X : Cx) (ca : CA) (W : WX) (e : Expr) (f : FB) : Prop := PW X e (tDB X.K ca W f)
theorem JW.jb {fb : FB} (h : JW X ca W e fb) : JB X ca W e fb := PW.pt h
theorem pw_imp {e : Expr} {t t' : TT} (h : PW X e t) (i : ∀ σ H Q, t' σ H Q → t σ H Q) : PW X e t' := ⟨fun wh pins s σ H Q I q => h.run wh pins s σ H Q I (i σ H Q q)⟩
def bAnd (f g : FB) : FB := fun τ st => (f τ st).bind fun x st1 => if x = true then g τ st1 else .ok false st1
def bOr (f g : FB) : FB := fun τ st => (f τ st).bind fun x st1 => if x = true then .ok true st1 else g τ st1
def bNot (f : FB) : FB := fun τ st => (f τ st).bind fun x st1 => .ok (!x) st1
theorem jw_one {op} {fb : FB} (ha : JB X ca W a fb) : JW X ca W (.BoolOp op [a] pos) fb := by
  cases op with
  | And => exact pw_and1 ha
  | Or => exact pw_or1 ha
theorem jw_and {fa fb : FB} (ha : JB X ca W a fa) (hb : JW X ca W (.BoolOp .And (b :: rest) pos) fb) : JW X ca W (.BoolOp .And (a :: b :: rest) pos) (bAnd fa fb) :=
  pw_imp (pw_and ha hb) fun σ H Q ⟨ρ, st, τ, sl, s, h⟩ =>
    at_of sl s h fun k ρ1 st1 H1 x1 sl1 s1 h1 => by
      show if k = true then _ else _
      cases k with
      | true => rw [if_pos rfl] at h1 ⊢; exact ⟨ρ1, st1, τ, sl1, s1, h1⟩
      | false => rw [if_neg (by decide)] at h1 ⊢; exact h1.here s1
theorem jw_or {fa fb : FB} (ha : JB X ca W a fa) (hb : JW X ca W (.BoolOp .Or (b :: rest) pos) fb) : JW X ca W (.BoolOp .Or (a :: b :: rest) pos) (bOr fa fb) :=
  pw_imp (pw_or ha hb) fun σ H Q ⟨ρ, st, τ, sl, s, h⟩ =>
    at_of sl s h fun k ρ1 st1 H1 x1 sl1 s1 h1 => by
      show if k = true then _ else _
      cases k with
      | true => rw [if_pos rfl] at h1 ⊢; exact h1.here s1
      | false => rw [if_neg (by decide)] at h1 ⊢; exact ⟨ρ1, st1, τ, sl1, s1, h1⟩
theorem jb_not {fa : FB} (ha : JB X ca W a fa) : JB X ca W (.UnaryOp .Not a pos) (bNot fa) :=
  pt_imp (pt_not ha) fun σ H Q ⟨ρ, st, τ, sl, s, h⟩ =>
    at_of sl s h fun k ρ1 st1 H1 x1 sl1 s1 h1 => h1.here s1
/-- and, or, not as values: by truth, the value itself -/
def fAnd (f g : FE) : FE := fun τ st => (f τ st).bind fun d st1 => match tru st1 d with
  | some true => g τ st1
  | some false => .ok d st1
  | none => .bad
def fOr (f g : FE) : FE := fun τ st => (f τ st).bind fun d st1 => match tru st1 d with
  | some true => .ok d st1
  | some false => g τ st1
  | none => .bad
def fNot (f : FE) : FE := fun τ st => (f τ st).bind fun d st1 => match tru st1 d with
  | some b => .ok (.bl (!b)) st1
  | none => .bad
theorem je_one {op} (ha : JE X ca W a f) : JE X ca W (.BoolOp op [a] pos) f := pe_one ha
theorem je_and (ha : JE X ca W a f) (hb : JE X ca W (.BoolOp .And (b :: rest) pos) g) : JE X ca W (.BoolOp .And (a :: b :: rest) pos) (fAnd f g) :=
  pe_imp (pe_andT ha hb) fun σ H Q ⟨ρ, st, τ, sl, s, h⟩ =>
    at_of sl s h fun d ρ1 st1 H1 x1 sl1 s1 h1 v r1 => by
      cases e : tru st1 d with
      | none => simp only [e] at h1; exact h1.elim
      | some k =>
        refine ⟨k, tru_rep s1 e r1, ?_⟩
        cases k with
        | true => simp only [e] at h1; rw [if_pos rfl]; exact ⟨ρ1, st1, τ, sl1, s1, h1⟩
        | false => simp only [e] at h1; rw [if_neg (by decide)]; exact h1.here s1 _ r1
theorem je_or (ha : JE X ca W a f) (hb : JE X ca W (.BoolOp .Or (b :: rest) pos) g) : JE X ca W (.BoolOp .Or (a :: b :: rest) pos) (fOr f g) :=
  pe_imp (pe_orT ha hb) fun σ H Q ⟨ρ, st, τ, sl, s, h⟩ =>
    at_of sl s h fun d ρ1 st1 H1 x1 sl1 s1 h1 v r1 => by
      cases e : tru st1 d with
      | none => simp only [e] at h1; exact h1.elim
      | some k =>
        refine ⟨k, tru_rep s1 e r1, ?_⟩
        cases k with
        | true => simp only [e] at h1; rw [if_pos rfl]; exact h1.here s1 _ r1
        | false => simp only [e] at h1; rw [if_neg (by decide)]; exact ⟨ρ1, st1, τ, sl1, s1, h1⟩
theorem je_not (ha : JE X ca W a f) : JE X ca W (.UnaryOp .Not a pos) (fNot f) :=
  pe_imp (pe_notT ha) fun σ H Q ⟨ρ, st, τ, sl, s, h⟩ =>
    at_of sl s h fun d ρ1 st1 H1 x1 sl1 s1 h1 v r1 => by
      cases e : tru st1 d with
      | none => simp only [e] at h1; exact h1.elim
      | some k => simp only [e] at h1; exact ⟨k, tru_rep s1 e r1, h1.here s1 _ (by simp only [Rep])⟩
def fIf (t : FB) (f g : FE) : FE := fun τ st => (t τ st).bind fun x st1 => if x = true then f τ st1 else g τ st1
theorem je_if {t : FB} (hc : JB X ca W c t) (ha : JE X ca W a f) (hb : JE X ca W b g) : JE X ca W (.IfExp c a b pos) (fIf t f g) :=
  pe_imp (pe_ifExp hc ha hb) fun σ H Q ⟨ρ, st, τ, sl, s, h⟩ =>
    at_of sl s h fun k ρ1 st1 H1 x1 sl1 s1 h1 => by
      show if k = true then _ else _
      cases k with
      | true => rw [if_pos rfl] at h1 ⊢; exact ⟨ρ1, st1, τ, sl1, s1, h1⟩
      | false => rw [if_neg (by decide)] at h1 ⊢; exact ⟨ρ1, st1, τ, sl1, s1, h1⟩
end
end DL
set_option Elab.async false
set_option linter.all false
set_option maxRecDepth 100000
set_option maxHeartbeats 4000000
namespace DL
open PySem PySem.Spec PyProof.Rows L2
section
variable {X : Cx} {ca : CA} {W : WX} {a b c e : Expr} {es rest : List Expr} {f g k : FE} {pos : Pos} {s₁ : Stmt} {ss : List Stmt} {u v w : FS}
/-! ### blocks -/
def sSeq (u v : FS) : FS := fun τ st => (u τ st).bind fun o st1 => match o with
  | .nx τ1 => v τ1 st1
  | o => .ok o st1
def sNil : FS := fun τ st => .ok (.nx τ) st
theorem jss_nil : JSs X ca W [] sNil := pss_imp pss_nil fun Dn σ H ⟨ρ, st, τ, sl, s, h⟩ => h.here s σ sl
theorem jss_one (h1 : JS X ca W s₁ u) : JSs X ca W [s₁] u := pss_one h1
theorem jss_cons (h1 : JS X ca W s₁ u) (h2 : JSs X ca W ss v) : JSs X ca W (s₁ :: ss) (sSeq u v) :=
  pss_imp (pss_cons h1 h2) fun Dn σ H ⟨ρ, st, τ, sl, s, h⟩ =>
    at_of sl s h fun o ρ1 st1 H1 x1 sl1 s1 h1 => by
      cases o with
      | nx τ1 => exact fun σ1 sl2 => ⟨ρ1, st1, τ1, sl2, s1, h1⟩
      | rt d => exact h1.here s1
      | bk τ1 => exact h1.here s1
      | ct τ1 => exact h1.here s1
/-! ### small statements -/
def sExp (f : FE) : FS := fun τ st => (f τ st).bind fun _ st1 => .ok (.nx τ) st1
theorem js_expr (ha : JE X ca W a f) (hs : swapsWith a none pos.line X.env = pure false := by rfl) : JS X ca W (.Expr a pos) (sExp f) :=
  ps_imp (ps_expr ha hs) fun Dn σ H ⟨ρ, st, τ, sl, s, h⟩ => at_of sl s h fun d ρ1 st1 H1 x1 sl1 s1 h1 v r1 => h1.here s1 σ sl1
def sRet (f : FE) : FS := fun τ st => (f τ st).bind fun d st1 => .ok (.rt d) st1
theorem js_ret (ha : JE X ca W a f) : JS X ca W (.Return (some a) pos) (sRet f) :=
  ps_imp (ps_ret ha) fun Dn σ H ⟨ρ, st, τ, sl, s, h⟩ => at_of sl s h fun d ρ1 st1 H1 x1 sl1 s1 h1 v r1 => h1.here s1 v r1
def sRetN : FS := fun _ st => .ok (.rt .non) st
theorem js_retN : JS X ca W (.Return none pos) sRetN := ps_imp ps_retN fun Dn σ H ⟨ρ, st, τ, sl, s, h⟩ => h.here s _ (by simp only [Rep])
def sBrk : FS := fun τ st => .ok (.bk τ) st
def sCnt : FS := fun τ st => .ok (.ct τ) st
theorem js_break : JS X ca W (.Break pos) sBrk := ps_imp ps_break fun Dn σ H ⟨ρ, st, τ, sl, s, h⟩ => h.here s σ sl
theorem js_continue : JS X ca W (.Continue pos) sCnt := ps_imp ps_continue fun Dn σ H ⟨ρ, st, τ, sl, s, h⟩ => h.here s σ sl
theorem js_pass : JS X ca W (.Pass pos) sNil := ps_imp ps_pass fun Dn σ H ⟨ρ, st, τ, sl, s, h⟩ => h.here s σ sl
def sIf (t : FB) (u v : FS) : FS := fun τ st => (t τ st).bind fun x st1 => if x = true then u τ st1 else v τ st1
theorem js_if {t : FB} {as bs : List Stmt} (hc : JB X ca W c t) (ha : JSs X ca W as u) (hb : JSs X ca W bs v) : JS X ca W (.If c as bs pos) (sIf t u v) :=
  ps_imp (ps_if hc ha hb) fun Dn σ H ⟨ρ, st, τ, sl, s, h⟩ =>
    at_of sl s h fun k ρ1 st1 H1 x1 sl1 s1 h1 => by
      show if k = true then _ else _
      cases k with
      | true => rw [if_pos rfl] at h1 ⊢; exact ⟨ρ1, st1, τ, sl1, s1, h1⟩
      | false => rw [if_neg (by decide)] at h1 ⊢; exact ⟨ρ1, st1, τ, sl1, s1, h1⟩
/-- name = value -/
def sSet (i : Nat) (f : FE) : FS := fun τ st => (f τ st).bind fun d st1 => .ok (.nx (τ.set i (some d))) st1
theorem js_set (i : Nat) {x : Str} {pos' : Pos} (hN : X.N.Nodup) (ha : JE X ca W a f) (hi : X.N[i]? = some x := by rfl) (hx : Loc X.env.scope x := by first | exact Or.inl rfl | exact Or.inr rfl) (hs : swapsWith a (some (.Name x pos')) pos.line X.env = pure false := by rfl)
    (hf : X.fn x = true ∨ X.env.scope.names.lookup x = some .local := by first | exact .inl rfl | exact .inr rfl | assumption) : JS X ca W (.Assign [.Name x pos'] a pos) (sSet i f) :=
  ps_imp (ps_set (i := i) hN hi hx ha hs hf) fun Dn σ H ⟨ρ, st, τ, sl, s, h⟩ => at_of sl s h fun d ρ1 st1 H1 x1 sl1 s1 h1 v r1 => h1.here s1 _ (sl1.set r1 i)

/-! ### targets -/
abbrev FG := D → Ti → Sto → R Ti
abbrev FGs := List D → Ti → Sto → R Ti
def tDG (K : PySem.W.Frag) (ca : CA) (W : WX) (g : FG) : TG := fun v σ H Q => ∃ ρ st τ d, Slots K ca ρ st.length H τ σ ∧ SRep K ca ρ H st ∧ Rep K ca ρ st.length H d v ∧
  Post K ca W ρ st.length H (g d τ st) fun τ1 ρ1 st1 H1 => ∀ σ1, Slots K ca ρ1 st1.length H1 τ1 σ1 → Q σ1 H1
def tDGs (K : PySem.W.Frag) (ca : CA) (W : WX) (g : FGs) : TGs := fun v σ H Q => ∃ ρ st τ d, Slots K ca ρ st.length H τ σ ∧ SRep K ca ρ H st ∧ Reps K ca ρ st.length H d v ∧
  Post K ca W ρ st.length H (g d τ st) fun τ1 ρ1 st1 H1 => ∀ σ1, Slots K ca ρ1 st1.length H1 τ1 σ1 → Q σ1 H1
def JG (X : Cx) (ca : CA) (W : WX) (e : Expr) (g : FG) : Prop := PG X e (tDG X.K ca W g)
def JGs (X : Cx) (ca : CA) (W : WX) (es : List Expr) (g : FGs) : Prop := PGs X es (tDGs X.K ca W g)
theorem pg_imp {t t' : TG} (h : PG X e t) (i : ∀ v σ H Q, t' v σ H Q → t v σ H Q) : PG X e t' := ⟨fun pins s σ H v u Q I r q => h.run pins s σ H v u Q I r (i _ _ _ _ q)⟩
theorem pgs_imp {t t' : TGs} (h : PGs X es t) (i : ∀ v σ H Q, t' v σ H Q → t v σ H Q) : PGs X es t' := ⟨fun pins s σ H v u Q I r q => h.run pins s σ H v u Q I r (i _ _ _ _ q)⟩
def gN (i : Nat) : FG := fun d τ st => .ok (τ.set i (some d)) st
theorem jg_name (i : Nat) {x : Str} (hN : X.N.Nodup) (hi : X.N[i]? = some x := by rfl) (hx : Loc X.env.scope x := by first | exact Or.inl rfl | exact Or.inr rfl) (hf : X.fn x = true ∨ X.env.scope.names.lookup x = some .local := by first | exact .inl rfl | exact .inr rfl | assumption) : JG X ca W (.Name x pos) (gN i) :=
  pg_imp (pg_name (i := i) hN hi hx hf) fun v σ H Q ⟨ρ, st, τ, d, sl, s, r, h⟩ => h.here s _ (sl.set r i)
def gNilD : FGs := fun ds τ st => match ds with
  | [] => .ok τ st
  | _ => .bad
def gConsD (g : FG) (h : FGs) : FGs := fun ds τ st => match ds with
  | d :: r => (g d τ st).bind fun τ1 st1 => h r τ1 st1
  | [] => .bad
theorem jgs_nil : JGs X ca W [] gNilD := pgs_imp pgs_nil fun v σ H Q ⟨ρ, st, τ, d, sl, s, r, h⟩ => by
  cases d with
  | nil => simp only [Reps] at r; exact ⟨r, h.here s σ sl⟩
  | cons _ _ => exact h.elim
theorem jgs_cons {g₁ : FG} {h₁ : FGs} (hg : JG X ca W e g₁) (hh : JGs X ca W es h₁) (hs : (assignEach (e :: es) X.env).map (·.2) = assign e X.env :: (assignEach es X.env).map (·.2) := by rfl) : JGs X ca W (e :: es) (gConsD g₁ h₁) :=
  pgs_imp (pgs_cons hg hh hs) fun v σ H Q ⟨ρ, st, τ, d, sl, s, r, h⟩ => by
    cases d with
    | nil => exact h.elim
    | cons d ds =>
      simp only [Reps] at r
      obtain ⟨v0, vs, rfl, r1, r2⟩ := r
      refine ⟨v0, vs, rfl, ρ, st, τ, d, sl, s, r1, (Post.bind h).mono fun τ1 ρ1 st1 H1 x1 s1 ⟨_, _, q⟩ σ1 sl1 => ?_⟩
      exact ⟨ρ1, st1, τ1, ds, sl1, s1, r2.ext x1, q⟩
/-- (a, b, ..) = a tuple -/
def gTupD (n : Nat) (h : FGs) : FG := fun d τ st => match d with
  | .tup ds => if ds.length = n then h ds τ st else .bad
  | .ktup ds => if ds.length = n then h ds τ st else .bad
  | _ => .bad
theorem jg_tup {h₁ : FGs} {kk : Nat} {n : Nat} (hc : X.calm = true) (hh : JGs X ca W es h₁) (hn : (assignEach es X.env).length = n := by rfl) (hst : (assignEach es X.env).findIdx? (·.1) = none := by rfl) : JG X ca W (.Tuple es kk pos) (gTupD n h₁) :=
  pg_imp (pg_tup hc hh hn hst) fun v σ H Q ⟨ρ, st, τ, d, sl, s, r, h⟩ => by
    cases d with
    | tup ds =>
      simp only [Rep] at r
      obtain ⟨p, xs, rfl, q, rs⟩ := r
      simp only [gTupD] at h
      split at h
      · rename_i z
        exact ⟨p, xs, rfl, SqT.of q, by rw [rs.length]; exact z, ρ, st, τ, ds, sl, s, rs, h⟩
      · exact h.elim
    | ktup ds =>
      simp only [Rep] at r
      obtain ⟨p, xs, rfl, q, rs⟩ := r
      simp only [gTupD] at h
      split at h
      · rename_i z
        exact ⟨p, xs, rfl, q.seq, by rw [rs.length]; exact z, ρ, st, τ, ds, sl, s, rs, h⟩
      · exact h.elim
    | _ => exact h.elim
/-- target = value -/
def sAsg (f : FE) (g₁ : FG) : FS := fun τ st => (f τ st).bind fun d st1 => (g₁ d τ st1).bind fun τ1 st2 => .ok (.nx τ1) st2
theorem js_asg {tg : Expr} {g₁ : FG} (ha : JE X ca W a f) (hg : JG X ca W tg g₁) (hs : swapsWithSole [tg] a pos.line X.env = pure false := by rfl) (hw : swappedStores [tg] a X.env = pure none := by rfl)
    (h1 : (assignEach [tg] X.env).map (·.2) = [assign tg X.env] := by rfl) : JS X ca W (.Assign [tg] a pos) (sAsg f g₁) :=
  ps_imp (ps_asg ha hg hs hw h1) fun Dn σ H ⟨ρ, st, τ, sl, s, h⟩ => at_of sl s h fun d ρ1 st1 H1 x1 sl1 s1 h1 v r1 =>
    ⟨ρ1, st1, τ, d, sl1, s1, r1, (Post.bind h1).mono fun τ1 ρ2 st2 H2 x2 s2 ⟨_, _, q⟩ σ1 sl2 => q.here s2 σ1 sl2⟩
/-- a, b = x, y: names -/
def sPar (i j : Nat) (f g : FE) : FS := fun τ st => (f τ st).bind fun d st1 => (g τ st1).bind fun e st2 => .ok (.nx ((τ.set i (some d)).set j (some e))) st2
theorem js_par (i j : Nat) {x y : Str} {px py pt : Pos} {kt k2 pt2} (hc : X.calm = true) (hN : X.N.Nodup) (hij : i ≠ j) (ha : JE X ca W a f) (hb : JE X ca W b g) (hi : X.N[i]? = some x := by rfl) (hj : X.N[j]? = some y := by rfl)
    (hx : X.env.scope.names.lookup x = some .local := by rfl) (hy : X.env.scope.names.lookup y = some .local := by rfl)
    (hw : swappedStores [.Tuple [.Name x px, .Name y py] kt pt] (.Tuple [a, b] k2 pt2) X.env = pure (some [x, y]) := by rfl)
    (hs : swapsWithSole [.Tuple [.Name x px, .Name y py] kt pt] (.Tuple [a, b] k2 pt2) pos.line X.env = pure false := by rfl)
    (h1 : starEach [a, b] X.env = (false, eval a X.env) :: starEach [b] X.env := by rfl) (h2 : starEach [b] X.env = (false, eval b X.env) :: starEach [] X.env := by rfl) :
    JS X ca W (.Assign [.Tuple [.Name x px, .Name y py] kt pt] (.Tuple [a, b] k2 pt2) pos) (sPar i j f g) :=
  ps_imp (ps_par (i := i) (j := j) hc hN hi hj hij hx hy (pa_cons ha (pa_cons hb pa_nil h2) h1) hw hs) fun Dn σ H ⟨ρ, st, τ, sl, s, h⟩ =>
    at_of sl s h fun d ρ1 st1 H1 x1 sl1 s1 h1 v r1 =>
      at_of sl1 s1 h1 fun e ρ2 st2 H2 x2 sl2 s2 h2 u r2 => ⟨v, u, rfl, h2.here s2 _ ((sl2.set (r1.ext x2) i).set r2 j)⟩

/-! ### loops -/
/-- the end of a turn -/
def afterTurn (next : Ti → Sto → R Out) : Out → Sto → R Out := fun o st => match o with
  | .nx τ => next τ st
  | .ct τ => next τ st
  | .bk τ => .ok (.nx τ) st
  | .rt d => .ok (.rt d) st
def whileD (t : FB) (u : FS) : Nat → FS
  | 0 => fun _ _ => .bad
  | n + 1 => fun τ st => (t τ st).bind fun x st1 => if x = true then (u τ st1).bind (afterTurn (whileD t u n)) else .ok (.nx τ) st1
theorem js_while (n : Nat) {t : FB} {as : List Stmt} (hp : PassesOwn (model X.prog X.w) X.A X.env X.xe) (hc : JB X ca W c t) (hb : JSs X ca W as u) : JS X ca W (.While c as [] pos) (whileD t u n) :=
  ps_imp (ps_while hp hc hb) fun Dn σ H ⟨ρ, st, τ, sl, s, h⟩ => by
    refine ⟨fun m σ H => ∃ ρ st τ, Slots X.K ca ρ st.length H τ σ ∧ SRep X.K ca ρ H st ∧ Post X.K ca W ρ st.length H (whileD t u m τ st) (KS X.K ca Dn), ⟨n, ρ, st, τ, sl, s, h⟩, fun m σ H ⟨ρ, st, τ, sl, s, h⟩ => ?_⟩
    cases m with
    | zero => exact h.elim
    | succ m =>
      refine at_of sl s h fun x ρ1 st1 H1 x1 sl1 s1 h1 => ?_
      cases x with
      | false => rw [if_neg (by decide)] at h1; exact h1.here s1 σ sl1
      | true =>
        rw [if_pos rfl] at h1
        refine ⟨fun σ H => ∃ ρ st τ, Slots X.K ca ρ st.length H τ σ ∧ SRep X.K ca ρ H st ∧ Post X.K ca W ρ st.length H (whileD t u m τ st) (KS X.K ca Dn), fun σ' H' q => ⟨m, Nat.lt_succ_self _, q⟩, ?_⟩
        refine at_of sl1 s1 h1 fun o ρ2 st2 H2 x2 sl2 s2 h2 => ?_
        cases o with
        | nx τ2 => exact fun σ2 sl3 => ⟨ρ2, st2, τ2, sl3, s2, h2⟩
        | ct τ2 => exact fun σ2 sl3 => ⟨ρ2, st2, τ2, sl3, s2, h2⟩
        | bk τ2 => exact fun σ2 sl3 => h2.here s2 σ2 sl3
        | rt d => exact fun v r => h2.here s2 v r
/-- a walk over items that stay -/
def forD (g₁ : FG) (u : FS) : List D → FS
  | [] => fun τ st => .ok (.nx τ) st
  | d :: ds => fun τ st => (g₁ d τ st).bind fun τ1 st1 => (u τ1 st1).bind (afterTurn (forD g₁ u ds))
/-- J walks these items, whatever comes behind -/
def IsIt (K : PySem.W.Frag) (ca : CA) (J : It) (ds : List D) (ρ : Nat → Addr) (n : Nat) (H : Hp) : Prop :=
  ∀ ca' ρ' n' H', Ext ρ n H ρ' n' H' → RK K ca ρ n H ca' ρ' n' H' → (∀ i d, ds[i]? = some d → J.go i H' ∧ ∀ x H2, J.yld i H' x H2 → (H2 = H' ∨ ∃ T xs, H' T = none ∧ H2 = upd H' T (.tup xs)) ∧ Rep K ca' ρ' n' H2 d x) ∧ ∀ i, ds.length ≤ i → J.stop i H'
theorem ext_same {K : PySem.W.Frag} {ρ : Nat → Addr} {H H2 : Hp} {st : Sto} (s : SRep K ca ρ H st) (h : H2 = H ∨ ∃ T xs, H T = none ∧ H2 = upd H T (.tup xs)) : Ext ρ st.length H ρ st.length H2 ∧ SRep K ca ρ H2 st := by
  rcases h with rfl | ⟨T, xs, hT, rfl⟩
  · exact ⟨Ext.refl _ _ _, s⟩
  · exact ⟨Ext.upd_new s hT, s.upd_new hT⟩
theorem loop_imm {g₁ : FG} {J : It} {ds : List D} {ρ : Nat → Addr} {st : Sto} {τ : Ti} {σ : L2.St} {H : Hp} {Dn : Ends} (hj : IsIt X.K ca J ds ρ st.length H) (sl : Slots X.K ca ρ st.length H τ σ) (s : SRep X.K ca ρ H st)
    (h : Post X.K ca W ρ st.length H (forD g₁ u ds τ st) (KS X.K ca Dn)) :
    ∃ Wi : Nat → Nat → L2.St → Hp → Prop, (∃ m, Wi 0 m σ H) ∧ ∀ i m σ H, Wi i m σ H →
      (J.stop i H ∧ Dn.nx σ H) ∨ (J.go i H ∧ ∃ N : L2.St → Hp → Prop, (∀ σ' H', N σ' H' → ∃ m', m' < m ∧ Wi (i + 1) m' σ' H') ∧
        ∀ x H', J.yld i H x H' → tDG X.K ca W g₁ x σ H' fun σ2 H2 => tDS X.K ca W u { Dn with nx := N, ct := N, bk := Dn.nx } σ2 H2) := by
  refine ⟨fun i m σ' H' => i ≤ ds.length ∧ m = ds.length - i ∧ ∃ ρ' st' τ', Ext ρ st.length H ρ' st'.length H' ∧ Slots X.K ca ρ' st'.length H' τ' σ' ∧ SRep X.K ca ρ' H' st' ∧ Post X.K ca W ρ' st'.length H' (forD g₁ u (ds.drop i) τ' st') (KS X.K ca Dn),
    ⟨ds.length, Nat.zero_le _, rfl, ρ, st, τ, Ext.refl _ _ _, sl, s, h⟩, fun i m σ1 H1 ⟨hi, hm, ρ1, st1, τ1, x1, sl1, s1, h1⟩ => ?_⟩
  obtain ⟨hg, hs⟩ := hj ca ρ1 st1.length H1 x1 x1.rk
  by_cases hl : i < ds.length
  · right
    have e := List.drop_eq_getElem_cons hl
    rw [e] at h1
    obtain ⟨g0, gy⟩ := hg i ds[i] (List.getElem?_eq_getElem hl)
    refine ⟨g0, fun σ2 H2 => ∃ ρ' st' τ', Ext ρ st.length H ρ' st'.length H2 ∧ Slots X.K ca ρ' st'.length H2 τ' σ2 ∧ SRep X.K ca ρ' H2 st' ∧ Post X.K ca W ρ' st'.length H2 (forD g₁ u (ds.drop (i + 1)) τ' st') (KS X.K ca Dn),
      fun σ' H' q => ⟨ds.length - (i + 1), by omega, hl, rfl, q⟩, fun x H2 hy => ?_⟩
    obtain ⟨hh, hr⟩ := gy x H2 hy
    obtain ⟨x2, s2⟩ := ext_same s1 hh
    refine ⟨ρ1, st1, τ1, ds[i], sl1.ext x2, s2, hr, (Post.bind (Post.pre x2 h1)).mono fun τ3 ρ3 st3 H3 x3 s3 ⟨_, _, q⟩ σ3 sl3 => ?_⟩
    refine at_of sl3 s3 q fun o ρ4 st4 H4 x4 sl4 s4 h4 => ?_
    have xx : Ext ρ st.length H ρ4 st4.length H4 := ((x1.trans x2).trans x3).trans x4
    cases o with
    | nx τ5 => exact fun σ5 sl5 => ⟨ρ4, st4, τ5, xx, sl5, s4, h4⟩
    | ct τ5 => exact fun σ5 sl5 => ⟨ρ4, st4, τ5, xx, sl5, s4, h4⟩
    | bk τ5 => exact fun σ5 sl5 => h4.here s4 σ5 sl5
    | rt d => exact fun v r => h4.here s4 v r
  · left
    have e : ds.drop i = [] := List.drop_of_length_le (Nat.le_of_not_lt hl)
    rw [e] at h1
    exact ⟨hs i (Nat.le_of_not_lt hl), h1.here s1 σ1 sl1⟩
/-- a walk over a list of the store, as it stands at each turn -/
def forO (g₁ : FG) (u : FS) (k : Nat) : Nat → Nat → FS
  | 0, _ => fun _ _ => .bad
  | n + 1, i => fun τ st => match st[k]? with
    | some (.lst ds) => match ds[i]? with
      | none => .ok (.nx τ) st
      | some d => (g₁ d τ st).bind fun τ1 st1 => (u τ1 st1).bind (afterTurn (forO g₁ u k n (i + 1)))
    | _ => .bad
theorem loop_obj {g₁ : FG} {k n : Nat} {ρ : Nat → Addr} {st : Sto} {τ : Ti} {σ : L2.St} {H : Hp} {Dn : Ends} (hk : k < st.length) (sl : Slots X.K ca ρ st.length H τ σ) (s : SRep X.K ca ρ H st)
    (h : Post X.K ca W ρ st.length H (forO g₁ u k n 0 τ st) (KS X.K ca Dn)) :
    ∃ Wi : Nat → Nat → L2.St → Hp → Prop, (∃ m, Wi 0 m σ H) ∧ ∀ i m σ H, Wi i m σ H →
      ((Itl X.K (ρ k)).stop i H ∧ Dn.nx σ H) ∨ ((Itl X.K (ρ k)).go i H ∧ ∃ N : L2.St → Hp → Prop, (∀ σ' H', N σ' H' → ∃ m', m' < m ∧ Wi (i + 1) m' σ' H') ∧
        ∀ x H', (Itl X.K (ρ k)).yld i H x H' → tDG X.K ca W g₁ x σ H' fun σ2 H2 => tDS X.K ca W u { Dn with nx := N, ct := N, bk := Dn.nx } σ2 H2) := by
  refine ⟨fun i m σ' H' => ∃ ρ' st' τ', Ext ρ st.length H ρ' st'.length H' ∧ Slots X.K ca ρ' st'.length H' τ' σ' ∧ SRep X.K ca ρ' H' st' ∧ Post X.K ca W ρ' st'.length H' (forO g₁ u k m i τ' st') (KS X.K ca Dn),
    ⟨n, ρ, st, τ, Ext.refl _ _ _, sl, s, h⟩, fun i m σ1 H1 ⟨ρ1, st1, τ1, x1, sl1, s1, h1⟩ => ?_⟩
  cases m with
  | zero => exact h1.elim
  | succ m =>
    simp only [forO] at h1
    cases q : st1[k]? with
    | none => simp only [q] at h1; exact h1.elim
    | some mo =>
      cases mo with
      | lst ds =>
        simp only [q] at h1
        obtain ⟨xs, ha, rs⟩ := s1.at_ k _ q
        rw [x1.same k hk] at ha
        cases q2 : ds[i]? with
        | none =>
          left
          simp only [q2] at h1
          refine ⟨⟨xs, SqL.of ha, ?_⟩, h1.here s1 σ1 sl1⟩
          rw [rs.length]
          exact List.getElem?_eq_none_iff.mp q2
        | some d =>
          right
          simp only [q2] at h1
          obtain ⟨v, e, r⟩ := rs.get q2
          refine ⟨⟨xs, v, SqL.of ha, e⟩, fun σ2 H2 => ∃ ρ' st' τ', Ext ρ st.length H ρ' st'.length H2 ∧ Slots X.K ca ρ' st'.length H2 τ' σ2 ∧ SRep X.K ca ρ' H2 st' ∧ Post X.K ca W ρ' st'.length H2 (forO g₁ u k m (i + 1) τ' st') (KS X.K ca Dn),
            fun σ' H' q => ⟨m, Nat.lt_succ_self _, q⟩, fun x H2 ⟨hy, hz⟩ => ?_⟩
          subst hy
          have ex : x = v := by
            have := hz xs (SqL.of ha)
            rw [e] at this
            exact (Option.some.inj this).symm
          subst ex
          refine ⟨ρ1, st1, τ1, d, sl1, s1, r, (Post.bind h1).mono fun τ3 ρ3 st3 H3 x3 s3 ⟨_, _, q⟩ σ3 sl3 => ?_⟩
          refine at_of sl3 s3 q fun o ρ4 st4 H4 x4 sl4 s4 h4 => ?_
          have xx : Ext ρ st.length H ρ4 st4.length H4 := (x1.trans x3).trans x4
          cases o with
          | nx τ5 => exact fun σ5 sl5 => ⟨ρ4, st4, τ5, xx, sl5, s4, h4⟩
          | ct τ5 => exact fun σ5 sl5 => ⟨ρ4, st4, τ5, xx, sl5, s4, h4⟩
          | bk τ5 => exact fun σ5 sl5 => h4.here s4 σ5 sl5
          | rt d => exact fun v r => h4.here s4 v r
      | _ => simp only [q] at h1; exact h1.elim
/-- the turns of a walk over a list of the store -/
def forMost : Nat := 1000000
/-- the items of what stays -/
def itemsOf : D → Option (List D)
  | .tup ds => some ds
  | .ktup ds => some ds
  | .lv ds => some ds
  | .kl ds => some ds
  | .str z => some (z.cps.toList.map fun c => .str ⟨#[c]⟩)
  | _ => none
theorem isIt_list {K : PySem.W.Frag} {ρ : Nat → Addr} {n : Nat} {H : Hp} {a : Addr} {xs : List V} {ds : List D} (hl : ∀ ρ' n' H', Ext ρ n H ρ' n' H' → SqL K H' a xs) (r : Reps K ca ρ n H ds xs) : IsIt K ca (Itl K a) ds ρ n H := by
  intro ca' ρ' n' H' x rk
  have h1 := hl ρ' n' H' x
  refine ⟨fun i d e => ?_, fun i hi => ⟨xs, h1, by rw [r.length]; exact hi⟩⟩
  obtain ⟨v, e', rv⟩ := r.get e
  refine ⟨⟨xs, v, h1, e'⟩, fun y H2 ⟨hy, hz⟩ => ⟨.inl hy, ?_⟩⟩
  have q := hz xs h1
  rw [e'] at q; cases q
  subst hy
  exact rv.rk rk
theorem isIt_tup {K : PySem.W.Frag} {ρ : Nat → Addr} {n : Nat} {H : Hp} {a : Addr} {xs : List V} {ds : List D} (hl : ∀ ρ' n' H', Ext ρ n H ρ' n' H' → SqT K H' a xs) (r : Reps K ca ρ n H ds xs) : IsIt K ca (Itt K a) ds ρ n H := by
  intro ca' ρ' n' H' x rk
  have h1 := hl ρ' n' H' x
  refine ⟨fun i d e => ?_, fun i hi => ⟨xs, h1, by rw [r.length]; exact hi⟩⟩
  obtain ⟨v, e', rv⟩ := r.get e
  refine ⟨⟨xs, v, h1, e'⟩, fun y H2 ⟨hy, hz⟩ => ⟨.inl hy, ?_⟩⟩
  have q := hz xs h1
  rw [e'] at q; cases q
  subst hy
  exact rv.rk rk
theorem isIt_str {K : PySem.W.Frag} {ρ : Nat → Addr} {n : Nat} {H : Hp} {z : Str} : IsIt K ca (Its z) (z.cps.toList.map fun c => D.str ⟨#[c]⟩) ρ n H := by
  intro ca' ρ' n' H' x rk
  refine ⟨fun i d e => ?_, fun i hi => by simpa [Its] using hi⟩
  rw [List.getElem?_map, Option.map_eq_some_iff] at e
  obtain ⟨c, e, rfl⟩ := e
  have hl : i < z.cps.size := by
    have := (List.getElem?_eq_some_iff.mp e).1
    simpa using this
  refine ⟨hl, fun y H2 ⟨hy, c', hc, ey⟩ => ⟨.inl hy, ?_⟩⟩
  rw [Array.getElem?_toList] at e
  rw [e] at hc; cases hc
  simp only [Rep]; exact ey
end
end DL
set_option Elab.async false
set_option linter.all false
set_option maxRecDepth 100000
set_option maxHeartbeats 4000000
namespace DL
open PySem PySem.Spec PyProof.Rows L2 LamX
section
variable {X : Cx} {ca : CA} {W : WX} {a b c e : Expr} {es rest : List Expr} {f g k : FE} {pos : Pos} {s₁ : Stmt} {ss : List Stmt} {u v w : FS} {tg : Expr}
theorem pi_imp {t t' : TI} (h : PI X tg e t) (i : ∀ σ H R, t' σ H R → t σ H R) : PI X tg e t' := ⟨fun pins s σ H R I q => h.run pins s σ H R I (i _ _ _ q)⟩
theorem pi_or {t t' : TI} (h : PI X tg e t) (h' : PI X tg e t') : PI X tg e (fun σ H R => t σ H R ∨ t' σ H R) := ⟨fun pins s σ H R I q => q.elim (h.run pins s σ H R I) (h'.run pins s σ H R I)⟩
/-- what a loop walks: items that stay, or a list of the store -/
inductive Src where
  | imm (ds : List D)
  | obj (k : Nat)
abbrev FI := Ti → Sto → R Src
/-- J walks it -/
def IsSrc (K : PySem.W.Frag) (ca : CA) (J : It) (src : Src) (ρ : Nat → Addr) (n : Nat) (H : Hp) : Prop :=
  match src with
  | .imm ds => IsIt K ca J ds ρ n H
  | .obj k => k < n ∧ J = Itl K (ρ k)
def tDI (K : PySem.W.Frag) (ca : CA) (W : WX) (f : FI) : TI := fun σ H R => At K ca W f σ H fun src ρ st H1 => ∀ J, IsSrc K ca J src ρ st.length H1 → R J H1
def JI (X : Cx) (ca : CA) (W : WX) (tg e : Expr) (f : FI) : Prop := PI X tg e (tDI X.K ca W f)
def srcOf (st : Sto) (d : D) : Option Src := match d with
  | .obj k => match st[k]? with
    | some (.lst _) => some (.obj k)
    | _ => none
  | d => (itemsOf d).map Src.imm
def kindI : D → Nat
  | .tup _ => 1
  | .ktup _ => 1
  | .str _ => 2
  | _ => 0
def iV (f : FE) : FI := fun τ st => (f τ st).bind fun d st1 => match srcOf st1 d with
  | some s => .ok s st1
  | none => .bad
theorem ji_val (ha : JE X ca W a f) : JI X ca W tg a (iV f) := by
  refine pi_imp (pi_or (pi_list (tg := tg) ha) (pi_or (pi_tup (tg := tg) ha) (pi_str (tg := tg) ha))) fun σ H R ⟨ρ, st, τ, sl, s, h⟩ => ?_
  have lst : (∀ d st1, f τ st = .ok d st1 → kindI d = 0) → iList X.K (tD X.K ca W f) σ H R := fun hn => by
    refine at_ofE sl s h fun d ρ1 st1 H1 e1 x1 sl1 s1 h1 v r1 => ?_
    have n0 := hn d st1 e1
    cases d with
    | lv ds =>
      simp only [srcOf, itemsOf, Option.map_some] at h1
      simp only [Rep] at r1
      obtain ⟨p, xs, rfl, q, rs⟩ := r1
      exact ⟨p, rfl, ⟨xs, q.seq⟩, h1.here s1 _ (isIt_list (fun ρ' n' H' x => (x.lst q).seq) rs)⟩
    | kl ds =>
      simp only [srcOf, itemsOf, Option.map_some] at h1
      simp only [Rep] at r1
      obtain ⟨p, xs, rfl, q, rs⟩ := r1
      exact ⟨p, rfl, ⟨xs, q.seq⟩, h1.here s1 _ (isIt_list (fun ρ' n' H' x => (x.kl q).seq) rs)⟩
    | obj j =>
      simp only [srcOf] at h1
      simp only [Rep] at r1
      cases q : st1[j]? with
      | none => simp only [q] at h1; exact h1.elim
      | some m =>
        cases m with
        | lst ds =>
          simp only [q] at h1
          obtain ⟨xs, ha, _⟩ := s1.at_ j _ q
          exact ⟨_, r1.2, ⟨xs, SqL.of ha⟩, h1.here s1 _ ⟨r1.1, rfl⟩⟩
        | _ => simp only [q] at h1; exact h1.elim
    | tup ds => cases n0
    | ktup ds => cases n0
    | str z => cases n0
    | _ => simp only [srcOf, itemsOf, Option.map_none] at h1; exact h1.elim
  cases e : f τ st with
  | bad => exact .inl (lst fun d st1 q => by rw [e] at q; cases q)
  | ex c fs τ' st' => exact .inl (lst fun d st1 q => by rw [e] at q; cases q)
  | ok d0 st0 =>
    cases hk : kindI d0 with
    | zero => exact .inl (lst fun d st1 q => by rw [e] at q; cases q; exact hk)
    | succ m =>
      cases d0 with
      | tup ds =>
        refine .inr (.inl ?_)
        refine at_ofE sl s h fun d ρ1 st1 H1 e1 x1 sl1 s1 h1 v r1 => ?_
        rw [e] at e1; cases e1
        simp only [srcOf, itemsOf, Option.map_some] at h1
        simp only [Rep] at r1
        obtain ⟨p, xs, rfl, q, rs⟩ := r1
        exact ⟨p, rfl, ⟨xs, SqT.of q⟩, h1.here s1 _ (isIt_tup (fun ρ' n' H' x => SqT.of (x.tups _ _ q)) rs)⟩
      | ktup ds =>
        refine .inr (.inl ?_)
        refine at_ofE sl s h fun d ρ1 st1 H1 e1 x1 sl1 s1 h1 v r1 => ?_
        rw [e] at e1; cases e1
        simp only [srcOf, itemsOf, Option.map_some] at h1
        simp only [Rep] at r1
        obtain ⟨p, xs, rfl, q, rs⟩ := r1
        exact ⟨p, rfl, ⟨xs, q.seq⟩, h1.here s1 _ (isIt_tup (fun ρ' n' H' x => (q.ext x).seq) rs)⟩
      | str z =>
        refine .inr (.inr ?_)
        refine at_ofE sl s h fun d ρ1 st1 H1 e1 x1 sl1 s1 h1 v r1 => ?_
        rw [e] at e1; cases e1
        simp only [srcOf, itemsOf, Option.map_some] at h1
        simp only [Rep] at r1
        exact ⟨z, r1, h1.here s1 _ isIt_str⟩
      | _ => cases hk
/-- range(n), range(a, b) -/
def runD (lo : Int) (n : Nat) : List D := (List.range n).map fun i => D.int (lo + (i : Nat))
theorem isIt_range {K : PySem.W.Frag} {ρ : Nat → Addr} {n : Nat} {H : Hp} {lo : Int} {m : Nat} : IsIt K ca (Itr lo m) (runD lo m) ρ n H := by
  intro ca' ρ' n' H' x rk
  refine ⟨fun i d e => ?_, fun i hi => by simpa [Itr, runD] using hi⟩
  unfold runD at e
  rw [List.getElem?_map, Option.map_eq_some_iff] at e
  obtain ⟨c, e, rfl⟩ := e
  have hl : i < m := by
    have := (List.getElem?_eq_some_iff.mp e).1
    simpa using this
  have hc : c = i := by
    rw [List.getElem?_range hl] at e
    exact (Option.some.inj e).symm
  subst hc
  exact ⟨hl, fun y H2 ⟨hy, ey⟩ => ⟨.inl hy, by simp only [Rep]; exact ey⟩⟩
def smallI (j : Int) : Bool := decide (-(2 ^ 62) ≤ j) && decide (j < 2 ^ 62)
theorem smallI_iff {j : Int} : smallI j = true ↔ -(2 ^ 62) ≤ j ∧ j < 2 ^ 62 := by simp [smallI]
def iRng1D (f : FE) : FI := fun τ st => (f τ st).bind fun d st1 => match d with
  | .int j => if smallI j = true then .ok (.imm (runD 0 j.toNat)) st1 else .bad
  | _ => .bad
def iRng2D (f g : FE) : FI := fun τ st => (f τ st).bind fun d st1 => (g τ st1).bind fun e st2 => match d, e with
  | .int i, .int j => if (smallI i && smallI j) = true then .ok (.imm (runD i (j - i).toNat)) st2 else .bad
  | _, _ => .bad
theorem ji_range1 {p : Pos} (hg : Gl X "range") (hm : X.mg "range" = none) (ha : JE X ca W a f) (hs : starEach [a] X.env = [(false, eval a X.env)] := by rfl) : JI X ca W tg (.Call (.Name "range" p) [a] [] pos) (iRng1D f) :=
  pi_imp (pi_range1 hg hm (pa_cons ha pa_nil hs) hs) fun σ H R ⟨ρ, st, τ, sl, s, h⟩ => at_of sl s h fun d ρ1 st1 H1 x1 sl1 s1 h1 v r1 => by
    cases d with
    | int j =>
      by_cases z : smallI j = true
      · simp only [if_pos z] at h1
        simp only [Rep] at r1
        subst r1
        exact ⟨_, rfl, (smallI_iff.mp z).1, (smallI_iff.mp z).2, h1.here s1 _ isIt_range⟩
      · simp only [if_neg z] at h1; exact h1.elim
    | _ => exact h1.elim
theorem ji_range2 {p : Pos} (hg : Gl X "range") (hm : X.mg "range" = none) (ha : JE X ca W a f) (hb : JE X ca W b g) (hs : starEach [a, b] X.env = [(false, eval a X.env), (false, eval b X.env)] := by rfl) (hs2 : starEach [b] X.env = [(false, eval b X.env)] := by rfl) (hs3 : starEach [a, b] X.env = (false, eval a X.env) :: starEach [b] X.env := by rfl) :
    JI X ca W tg (.Call (.Name "range" p) [a, b] [] pos) (iRng2D f g) :=
  pi_imp (pi_range2 hg hm (pa_cons ha (pa_cons hb pa_nil hs2) hs3) hs hs2) fun σ H R ⟨ρ, st, τ, sl, s, h⟩ => at_of sl s h fun d ρ1 st1 H1 x1 sl1 s1 h1 v r1 => at_of sl1 s1 h1 fun e ρ2 st2 H2 x2 sl2 s2 h2 u r2 => by
    cases d with
    | int i =>
      cases e with
      | int j =>
        by_cases z : (smallI i && smallI j) = true
        · simp only [if_pos z] at h2
          simp only [Rep] at r1 r2
          subst r1 r2
          rw [Bool.and_eq_true] at z
          exact ⟨i, j, rfl, ⟨(smallI_iff.mp z.1).1, (smallI_iff.mp z.1).2, (smallI_iff.mp z.2).1, (smallI_iff.mp z.2).2⟩, h2.here s2 _ isIt_range⟩
        · simp only [if_neg z] at h2; exact h2.elim
      | _ => exact h2.elim
    | _ => exact h2.elim
/-- for target in ..: -/
def sFor (f : FI) (g₁ : FG) (u : FS) : FS := fun τ st => (f τ st).bind fun src st1 => match src with
  | .imm ds => forD g₁ u ds τ st1
  | .obj k => forO g₁ u k forMost 0 τ st1
theorem js_for {fi : FI} {g₁ : FG} (hp : PassesOwn (model X.prog X.w) X.A X.env X.xe) (hc : X.calm = true) (hi : JI X ca W tg a fi) (hg : JG X ca W tg g₁) (hb : JSs X ca W ss u)
    (hs : ∀ x, foldedSetIterable a X.env x = pure x := by intro _; rfl) : JS X ca W (.For tg a ss [] pos) (sFor fi g₁ u) :=
  ps_imp (ps_for hp hc hi hg hb hs) fun Dn σ H ⟨ρ, st, τ, sl, s, h⟩ =>
    at_of sl s h fun src ρ1 st1 H1 x1 sl1 s1 h1 J hJ => by
      cases src with
      | imm ds => exact loop_imm hJ sl1 s1 h1
      | obj k => obtain ⟨hk, rfl⟩ := hJ; exact loop_obj hk sl1 s1 h1

/-! ### a dict is walked: locked meanwhile -/
section
variable {K : PySem.W.Frag} {ρ : Nat → Addr} {st : Sto} {H : Hp} {k : Nat} {kvs : List (Key × D)} {ws : List (Key × V)} {od : Obj}
theorem ext_lock (s : SRep K ca ρ H st) (q : st[k]? = some (.dic kvs)) (ha : H (ρ k) = some (.dK ws)) : Ext ρ st.length H ρ (st.set k (.lck kvs)).length (upd H (ρ k) (.frz od (.dK ws))) := by
  rw [List.length_set]; exact Ext.write s q rfl
theorem srep_lock (s : SRep K ca ρ H st) (q : st[k]? = some (.dic kvs)) (ha : H (ρ k) = some (.dK ws)) (rs : RepKV K ca ρ st.length H kvs ws) : SRep K ca ρ (upd H (ρ k) (.frz od (.dK ws))) (st.set k (.lck kvs)) :=
  s.write q rfl ⟨od, ws, upd_same, rs.ext (Ext.write s q rfl)⟩
/-- .. and open again -/
theorem rk_open {n : Nat} {d : Addr} (h : H d = some (.frz od (.dK ws))) (hn : ∃ i, i < n ∧ ρ i = d) : RK K ca ρ n H ca ρ n (upd H d (.dK ws)) where
  f := rfl
  le := Nat.le_refl _
  same := fun _ _ => rfl
  tup := fun a xs e => by rw [upd_ne (ne_of e h (fun z => nomatch z))]; exact e
  lst := fun a xs e => ⟨by rw [upd_ne (ne_of e.1 h (fun z => nomatch z))]; exact e.1, e.2⟩
  kl := fun a xs e => by
    rcases e with ⟨o, e⟩ | e
    · exact .inl ⟨o, by rw [upd_ne (ne_of e h (fun z => nomatch z))]; exact e⟩
    · exact .inr e
  dv := fun a kvs e => by
    obtain ⟨i, hi, rfl⟩ := hn
    obtain ⟨e, h2⟩ := e
    exact ⟨by rw [upd_ne (Ne.symm (h2 i hi))]; exact e, h2⟩
  frz := fun a o xs e => by rw [upd_ne (ne_of e h (fun z => nomatch z))]; exact e
theorem srep_open (s : SRep K ca ρ H st) (hk : k < st.length) (h : H (ρ k) = some (.frz od (.dK ws))) (rs : RepKV K ca ρ st.length H kvs ws) : SRep K ca ρ (upd H (ρ k) (.dK ws)) (st.set k (.dic kvs)) := by
  have x : RK K ca ρ st.length H ca ρ st.length (upd H (ρ k) (.dK ws)) := rk_open h ⟨k, hk, rfl⟩
  refine ⟨fun i o e => ?_, fun a b ha hb z => s.inj a b (by simpa using ha) (by simpa using hb) z, fun a ha => ?_, tabs_write h ⟨fun _ => nofun, fun c q z => by unfold CodeO at z; cases z⟩ s.tab⟩
  · rw [List.length_set]
    by_cases hi : i = k
    · subst hi
      rw [List.getElem?_set_self hk] at e; cases e
      exact ⟨ws, upd_same, rs.rk x⟩
    · rw [List.getElem?_set_ne (Ne.symm hi)] at e
      have hl := (List.getElem?_eq_some_iff.mp e).1
      have hne : ρ i ≠ ρ k := fun z => hi (s.inj i k hl hk z)
      have r := s.at_ i o e
      cases o with
      | lst ds => obtain ⟨xs, e, r⟩ := r; exact ⟨xs, by rw [upd_ne hne]; exact e, r.rk x⟩
      | dic ks => obtain ⟨xs, e, r⟩ := r; exact ⟨xs, by rw [upd_ne hne]; exact e, r.rk x⟩
      | dit ks => obtain ⟨xs, e, r⟩ := r; exact ⟨xs, by rw [upd_ne hne]; exact e, r.rk x⟩
      | lck ks => obtain ⟨o, xs, e, r⟩ := r; exact ⟨o, xs, by rw [upd_ne hne]; exact e, r.rk x⟩
      | ins c fs => obtain ⟨C, dx, xs, c1, e, d, r⟩ := r; exact ⟨C, dx, xs, c1, by rw [upd_ne hne]; exact e, by rw [upd_ne (ne_of d h (fun z => nomatch z))]; exact d, r.rk x⟩
  · obtain ⟨⟨xs, e⟩, hn⟩ := s.res a ha
    exact ⟨⟨xs, by rw [upd_ne (ne_of e h (fun z => nomatch z))]; exact e⟩, by rw [List.length_set]; exact hn⟩
/-- from ahead of the lock to behind it -/
theorem ext_open {ρ' : Nat → Addr} {st' : Sto} {H' : Hp} (s : SRep K ca ρ H st) (q : st[k]? = some (.dic kvs)) (ha : H (ρ k) = some (.dK ws)) (x : Ext ρ (st.set k (.lck kvs)).length (upd H (ρ k) (.frz od (.dK ws))) ρ' st'.length H') :
    Ext ρ st.length H ρ' st'.length (upd H' (ρ k) (.dK ws)) := by
  have hk := (List.getElem?_eq_some_iff.mp q).1
  have x : Ext ρ st.length H ρ' st'.length H' := (ext_lock s q ha).trans x
  exact ⟨x.le, x.same, x.new, fun a o e nt hn => by rw [upd_ne (Ne.symm (hn k hk))]; exact x.keep a o e nt hn, fun a xs e => by rw [upd_ne (ne_of e ha (fun z => nomatch z))]; exact x.tups a xs e,
    fun a o u e => by rw [upd_ne (ne_of e ha (fun z => nomatch z))]; exact x.frzs a o u e, fun a u e => by rw [upd_ne (ne_of e ha (fun z => nomatch z))]; exact x.owns a u e,
    fun a o e => by
      by_cases h : a = ρ k
      · subst h; exact ⟨_, upd_same⟩
      · rw [upd_ne h]; exact x.there a o e⟩
theorem Slots.rk {τ : Ti} {σ : L2.St} {n n' : Nat} {ρ' : Nat → Addr} {H' : Hp} (x : RK K ca ρ n H ca ρ' n' H') (h : Slots K ca ρ n H τ σ) : Slots K ca ρ' n' H' τ σ := ⟨h.1, fun i d e =>
  let ⟨v, e', r⟩ := h.2 i d e; ⟨v, e', r.rk x⟩⟩
end
/-- behind a statement, a dict is opened again; what a raise leaves stays locked -/
def opened {α : Type} (k : Nat) (kvs : List (Key × D)) (r : R α) : R α := r.bind fun o st => .ok o (st.set k (.dic kvs))
def withLock {α : Type} (f : FE) (u : Ti → Sto → R α) : Ti → Sto → R α := fun τ st => match f τ st with
  | .ok (.obj k) _ => match st[k]? with
    | some (.dic kvs) => opened k kvs (u τ (st.set k (.lck kvs)))
    | _ => .bad
  | _ => .bad
theorem at_lock {α : Type} {K : PySem.W.Frag} {ρ : Nat → Addr} {st : Sto} {H : Hp} {τ : Ti} {σ : L2.St} {u : Ti → Sto → R α} {F : α → (Nat → Addr) → Sto → Hp → Prop} (f : FE) (sl : Slots K ca ρ st.length H τ σ) (s : SRep K ca ρ H st) (h : Post K ca W ρ st.length H (withLock f u τ st) F) :
    ∃ d o, H d = some o ∧ Mut (some o) ∧ ∀ od, At K ca W u σ (upd H d (.frz od o)) fun a ρ1 st1 H1 => H1 d = some (.frz od o) ∧ ∃ st2, RK K ca ρ1 st1.length H1 ca ρ1 st2.length (upd H1 d o) ∧ F a ρ1 st2 (upd H1 d o) := by
  unfold withLock at h
  split at h
  · rename_i k _ _
    split at h
    · rename_i kvs q
      obtain ⟨ws, ha, rs⟩ := s.at_ k _ q
      have hk := (List.getElem?_eq_some_iff.mp q).1
      refine ⟨ρ k, .dK ws, ha, True.intro, fun od => ⟨ρ, st.set k (.lck kvs), τ, sl.ext (ext_lock s q ha), srep_lock s q ha rs, ?_⟩⟩
      cases e : u τ (st.set k (.lck kvs)) with
      | bad => rw [e] at h; exact h
      | ex c fs τ' st' => rw [e] at h; exact fun C σ' dx H' ρ' e1 x => h C σ' dx H' ρ' e1 ((ext_lock s q ha).trans x)
      | ok o st1 =>
        rw [e] at h
        intro H1 ρ1 x s1
        have hz := x.frzs _ _ _ (upd_same (H := H) (a := ρ k) (o := HO.frz od (.dK ws)))
        have hr : ρ1 k = ρ k := x.same k (by rw [List.length_set]; exact hk)
        have hk1 : k < st1.length := Nat.lt_of_lt_of_le (by rw [List.length_set]; exact hk) x.le
        have rs1 : RepKV K ca ρ1 st1.length H1 kvs ws := rs.ext ((ext_lock s q ha).trans x)
        refine ⟨hz, st1.set k (.dic kvs), by rw [List.length_set]; exact rk_open hz ⟨k, hk1, hr⟩, ?_⟩
        have s2 := srep_open s1 hk1 (by rw [hr]; exact hz) rs1
        have x2 := ext_open s q ha x
        rw [hr] at s2
        exact h _ ρ1 (by rw [List.length_set]; exact x2) s2
    · exact h.elim
  · exact h.elim
theorem js_lock (f : FE) (h1 : JS X ca W s₁ u) : JS X ca W s₁ (withLock f u) :=
  ps_imp (ps_lock h1) fun Dn σ H ⟨ρ, st, τ, sl, s, h⟩ => by
    obtain ⟨d, o, hd, mu, g⟩ := at_lock f sl s h
    refine ⟨d, o, hd, mu, fun od => ?_⟩
    obtain ⟨ρ, st, τ, sl, s, g⟩ := g od
    refine ⟨ρ, st, τ, sl, s, g.mono fun o ρ1 st1 H1 x1 s1 ⟨hz, st2, rk, g⟩ => ?_⟩
    cases o with
    | nx τ1 => exact fun σ1 sl1 => ⟨hz, g _ (sl1.rk rk)⟩
    | ct τ1 => exact fun σ1 sl1 => ⟨hz, g _ (sl1.rk rk)⟩
    | bk τ1 => exact fun σ1 sl1 => ⟨hz, g _ (sl1.rk rk)⟩
    | rt v => exact fun v r => ⟨hz, g _ (r.rk rk)⟩
theorem je_lock (f : FE) (h1 : JE X ca W a g) : JE X ca W a (withLock f g) :=
  pe_imp (pe_lock h1) fun σ H Q ⟨ρ, st, τ, sl, s, h⟩ => by
    obtain ⟨d, o, hd, mu, g⟩ := at_lock f sl s h
    refine ⟨d, o, hd, mu, fun od => ?_⟩
    obtain ⟨ρ, st, τ, sl, s, g⟩ := g od
    exact ⟨ρ, st, τ, sl, s, g.mono fun o ρ1 st1 H1 x1 s1 ⟨hz, st2, rk, g⟩ v r => ⟨hz, g _ (r.rk rk)⟩⟩
theorem RepKV.get {κ : Type} {K : PySem.W.Frag} {ρ : Nat → Addr} {n : Nat} {H : Hp} : ∀ {kvs : List (κ × D)} {ws : List (κ × V)} {i : Nat} {p : κ × D}, RepKV K ca ρ n H kvs ws → kvs[i]? = some p → ∃ v, ws[i]? = some (p.1, v) ∧ Rep K ca ρ n H p.2 v
  | [], _, i, p, r, e => by simp at e
  | q :: kvs, ws, 0, p, r, e => by
    simp only [RepKV] at r
    obtain ⟨v, rs, rfl, r1, r2⟩ := r
    simp at e; subst e
    exact ⟨v, rfl, r1⟩
  | q :: kvs, ws, i + 1, p, r, e => by
    simp only [RepKV] at r
    obtain ⟨v, rs, rfl, r1, r2⟩ := r
    obtain ⟨u, e', r'⟩ := RepKV.get (i := i) r2 (by simpa using e)
    exact ⟨u, by simpa using e', r'⟩
theorem rep_kD {ca : CA} {K : PySem.W.Frag} {ρ : Nat → Addr} {n : Nat} {H : Hp} (k : Key) : Rep K ca ρ n H (kD k) (kV k) := by
  cases k <;> simp only [kD, Rep] <;> rfl
/-- the keys, values, pairs of a locked dict -/
theorem isIt_keys {K : PySem.W.Frag} {ρ : Nat → Addr} {n : Nat} {H : Hp} {d : Addr} {o : Obj} {kvs : List (Key × D)} {ws : List (Key × V)} (hd : H d = some (.frz o (.dK ws))) (rs : RepKV K ca ρ n H kvs ws) : IsIt K ca (Itk d o ws) (kvs.map fun p => kD p.1) ρ n H := by
  intro ca' ρ' n' H' x rk
  have hd' := x.frzs _ _ _ hd
  refine ⟨fun i e q => ?_, fun i hi => ⟨hd', by rw [rs.length]; simpa using hi⟩⟩
  rw [List.getElem?_map, Option.map_eq_some_iff] at q
  obtain ⟨p, q, rfl⟩ := q
  obtain ⟨v, q', r⟩ := rs.get q
  refine ⟨⟨hd', (List.getElem?_eq_some_iff.mp q').1⟩, fun y H2 ⟨hy, k, v', hk, ey⟩ => ⟨.inl hy, ?_⟩⟩
  rw [q'] at hk; cases hk
  subst ey
  exact rep_kD _
theorem isIt_vals {K : PySem.W.Frag} {ρ : Nat → Addr} {n : Nat} {H : Hp} {d : Addr} {o : Obj} {kvs : List (Key × D)} {ws : List (Key × V)} (hd : H d = some (.frz o (.dK ws))) (rs : RepKV K ca ρ n H kvs ws) : IsIt K ca (Itd d o ws) (kvs.map fun p => p.2) ρ n H := by
  intro ca' ρ' n' H' x rk
  have hd' := x.frzs _ _ _ hd
  refine ⟨fun i e q => ?_, fun i hi => ⟨hd', by rw [rs.length]; simpa using hi⟩⟩
  rw [List.getElem?_map, Option.map_eq_some_iff] at q
  obtain ⟨p, q, rfl⟩ := q
  obtain ⟨v, q', r⟩ := rs.get q
  refine ⟨⟨hd', (List.getElem?_eq_some_iff.mp q').1⟩, fun y H2 ⟨hy, k, hk⟩ => ⟨.inl hy, ?_⟩⟩
  rw [q'] at hk; cases hk
  subst hy
  exact r.rk rk
theorem isIt_items {K : PySem.W.Frag} {ρ : Nat → Addr} {n : Nat} {H : Hp} {d : Addr} {o : Obj} {kvs : List (Key × D)} {ws : List (Key × V)} (hd : H d = some (.frz o (.dK ws))) (rs : RepKV K ca ρ n H kvs ws) : IsIt K ca (Iti d o ws) (kvs.map fun p => D.tup [kD p.1, p.2]) ρ n H := by
  intro ca' ρ' n' H' x rk
  have hd' := x.frzs _ _ _ hd
  refine ⟨fun i e q => ?_, fun i hi => ⟨hd', by rw [rs.length]; simpa using hi⟩⟩
  rw [List.getElem?_map, Option.map_eq_some_iff] at q
  obtain ⟨p, q, rfl⟩ := q
  obtain ⟨v, q', r⟩ := rs.get q
  refine ⟨⟨hd', (List.getElem?_eq_some_iff.mp q').1⟩, fun y H2 ⟨T, k, v', hk, ey, hT, hy⟩ => ⟨.inr ⟨T, _, hT, hy⟩, ?_⟩⟩
  rw [q'] at hk; cases hk
  subst ey hy
  simp only [Rep]
  refine ⟨T, _, rfl, upd_same, Reps.cons (rep_kD _) (Reps.cons ?_ Reps.nil)⟩
  refine Rep.rk (ca := ca') (ρ := ρ') (n := n') (H := H') ⟨rfl, Nat.le_refl _, fun _ _ => rfl, fun a xs e => ?_, fun a xs e => ⟨?_, e.2⟩, fun a xs e => ?_, fun a kvs e => ⟨?_, e.2⟩, fun a o xs e => by rw [upd_ne (ne_of_none e hT)]; exact e⟩ (r.rk rk)
  · rw [upd_ne (ne_of_none e hT)]; exact e
  · rw [upd_ne (ne_of_none e.1 hT)]; exact e.1
  · rcases e with ⟨o, e⟩ | e
    · exact .inl ⟨o, by rw [upd_ne (ne_of_none e hT)]; exact e⟩
    · exact .inr e
  · rcases e.1 with e | ⟨o, e⟩
    · exact .inl (by rw [upd_ne (ne_of_none e hT)]; exact e)
    · exact .inr ⟨o, by rw [upd_ne (ne_of_none e hT)]; exact e⟩
def lckOf (st : Sto) (d : D) : Option (List (Key × D)) := match d with
  | .obj k => match st[k]? with
    | some (.lck kvs) => some kvs
    | _ => none
  | _ => none
theorem lckOf_rep {K : PySem.W.Frag} {ρ : Nat → Addr} {st : Sto} {H : Hp} (s : SRep K ca ρ H st) {d : D} {kvs : List (Key × D)} {v : V} (e : lckOf st d = some kvs) (r : Rep K ca ρ st.length H d v) : ∃ a o ws, v = .ref a ∧ H a = some (.frz o (.dK ws)) ∧ RepKV K ca ρ st.length H kvs ws := by
  cases d with
  | obj i =>
    simp only [lckOf] at e
    cases q : st[i]? with
    | none => simp [q] at e
    | some m =>
      cases m with
      | lck es =>
        simp only [q, Option.some.injEq] at e; subst e
        simp only [Rep] at r
        obtain ⟨o, xs, ha, rs⟩ := s.at_ i _ q
        exact ⟨_, o, xs, r.2, ha, rs⟩
      | _ => simp [q] at e
  | _ => simp [lckOf] at e
def iLck (m : List (Key × D) → List D) (f : FE) : FI := fun τ st => (f τ st).bind fun d st1 => match lckOf st1 d with
  | some kvs => .ok (.imm (m kvs)) st1
  | none => .bad
theorem ji_keys (ha : JE X ca W a f) : JI X ca W tg a (iLck (fun kvs => kvs.map fun p => kD p.1) f) :=
  pi_imp (pi_keys ha) fun σ H R ⟨ρ, st, τ, sl, s, h⟩ => at_of sl s h fun d ρ1 st1 H1 x1 sl1 s1 h1 v r1 => by
    cases q : lckOf st1 d with
    | none => simp only [q] at h1; exact h1.elim
    | some kvs =>
      simp only [q] at h1
      obtain ⟨p, o, ws, rfl, hp, rs⟩ := lckOf_rep s1 q r1
      exact ⟨p, o, rfl, .inl ⟨ws, hp, h1.here s1 _ (isIt_keys hp rs)⟩⟩
theorem ji_keysM {apos cpos : Pos} (ha : JE X ca W a f) (hbase : attributeBase a "keys" X.env (eval a X.env) = eval a X.env := by rfl) (hline : (apos.endLine == cpos.line) = true := by rfl) : JI X ca W tg (.Call (.Attribute a "keys" apos) [] [] cpos) (iLck (fun kvs => kvs.map fun p => kD p.1) f) :=
  pi_imp (pi_keysM ha hbase hline) fun σ H R ⟨ρ, st, τ, sl, s, h⟩ => at_of sl s h fun d ρ1 st1 H1 x1 sl1 s1 h1 v r1 => by
    cases q : lckOf st1 d with
    | none => simp only [q] at h1; exact h1.elim
    | some kvs =>
      simp only [q] at h1
      obtain ⟨p, o, ws, rfl, hp, rs⟩ := lckOf_rep s1 q r1
      exact ⟨p, o, ws, rfl, hp, h1.here s1 _ (isIt_keys hp rs)⟩
theorem ji_values {apos cpos : Pos} (ha : JE X ca W a f) (hbase : attributeBase a "values" X.env (eval a X.env) = eval a X.env := by rfl) (hline : (apos.endLine == cpos.line) = true := by rfl) : JI X ca W tg (.Call (.Attribute a "values" apos) [] [] cpos) (iLck (fun kvs => kvs.map fun p => p.2) f) :=
  pi_imp (pi_values ha hbase hline) fun σ H R ⟨ρ, st, τ, sl, s, h⟩ => at_of sl s h fun d ρ1 st1 H1 x1 sl1 s1 h1 v r1 => by
    cases q : lckOf st1 d with
    | none => simp only [q] at h1; exact h1.elim
    | some kvs =>
      simp only [q] at h1
      obtain ⟨p, o, ws, rfl, hp, rs⟩ := lckOf_rep s1 q r1
      exact ⟨p, o, ws, rfl, hp, h1.here s1 _ (isIt_vals hp rs)⟩
theorem ji_items {elts : List Expr} {kk : Nat} {tpos apos cpos : Pos} (ha : JE X ca W a f) (hbase : attributeBase a "items" X.env (eval a X.env) = eval a X.env := by rfl) (hline : (apos.endLine == cpos.line) = true := by rfl) : JI X ca W (.Tuple elts kk tpos) (.Call (.Attribute a "items" apos) [] [] cpos) (iLck (fun kvs => kvs.map fun p => D.tup [kD p.1, p.2]) f) :=
  pi_imp (pi_items ha hbase hline) fun σ H R ⟨ρ, st, τ, sl, s, h⟩ => at_of sl s h fun d ρ1 st1 H1 x1 sl1 s1 h1 v r1 => by
    cases q : lckOf st1 d with
    | none => simp only [q] at h1; exact h1.elim
    | some kvs =>
      simp only [q] at h1
      obtain ⟨p, o, ws, rfl, hp, rs⟩ := lckOf_rep s1 q r1
      exact ⟨p, o, ws, rfl, hp, h1.here s1 _ (isIt_items hp rs)⟩
/-- a walk over a value of any kind: a dict is locked -/
def isDic (f : FE) (τ : Ti) (st : Sto) : Bool := match f τ st with
  | .ok (.obj k) _ => match st[k]? with
    | some (.dic _) => true
    | _ => false
  | _ => false
def sForV (f : FE) (g₁ : FG) (u : FS) : FS := fun τ st => if isDic f τ st = true then withLock f (sFor (iLck (fun kvs => kvs.map fun p => kD p.1) f) g₁ u) τ st else sFor (iV f) g₁ u τ st
theorem js_forV {g₁ : FG} (hp : PassesOwn (model X.prog X.w) X.A X.env X.xe) (hc : X.calm = true) (ha : JE X ca W a f) (hg : JG X ca W tg g₁) (hb : JSs X ca W ss u)
    (hs : ∀ x, foldedSetIterable a X.env x = pure x := by intro _; rfl) : JS X ca W (.For tg a ss [] pos) (sForV f g₁ u) :=
  ⟨fun pins s σ H D I ⟨ρ, st, τ, sl, sr, h⟩ => by
    by_cases z : isDic f τ st = true
    · rw [sForV, if_pos z] at h
      exact (js_lock f (js_for hp hc (ji_keys ha) hg hb hs)).run pins s σ H D I ⟨ρ, st, τ, sl, sr, h⟩
    · rw [sForV, if_neg z] at h
      exact (js_for hp hc (ji_val ha) hg hb hs).run pins s σ H D I ⟨ρ, st, τ, sl, sr, h⟩⟩
end
end DL
set_option Elab.async false
set_option linter.all false
set_option maxRecDepth 100000
set_option maxHeartbeats 4000000
namespace DL
open PySem PySem.Spec PyProof.Rows L2 LamX
/-! list comprehensions -/
abbrev W0 : WX := fun _ _ _ _ => False
/-- the same slots, own ones forgotten -/
def wipeT (τ : Ti) : List Nat → Ti
  | [] => τ
  | v :: vs => (wipeT τ vs).set v none
theorem wipeT_length (τ : Ti) : ∀ vs : List Nat, (wipeT τ vs).length = τ.length
  | [] => rfl
  | v :: vs => by unfold wipeT; rw [List.length_set, wipeT_length τ vs]
theorem wipeT_some {τ : Ti} {i : Nat} {x : D} : ∀ {vs : List Nat}, (wipeT τ vs)[i]? = some (some x) → τ[i]? = some (some x) ∧ i ∉ vs
  | [], h => ⟨h, by simp⟩
  | v :: vs, h => by
    unfold wipeT at h
    by_cases hi : v = i
    · subst hi
      by_cases hv : v < (wipeT τ vs).length
      · rw [List.getElem?_set_self hv] at h; cases h
      · rw [List.getElem?_eq_none (by simpa using hv)] at h; cases h
    · rw [List.getElem?_set_ne hi] at h
      obtain ⟨h1, h2⟩ := wipeT_some h
      exact ⟨h1, by simp only [List.mem_cons, not_or]; exact ⟨fun e => hi e.symm, h2⟩⟩
theorem wipe_get : ∀ (σ : L2.St) (vs : List Nat) (j : Nat), (L2.wipe σ vs)[j]? = if j ∈ vs then (σ[j]?).map (fun _ => none) else σ[j]? := by
  intro σ vs
  induction vs with
  | nil => intro j; simp [L2.wipe]
  | cons v vs ih =>
    intro j
    unfold L2.wipe
    rw [List.getElem?_set]
    by_cases hj : v = j
    · subst hj
      simp only [if_true, wipe_length, List.mem_cons, true_or]
      by_cases hl : v < σ.length
      · rw [if_pos hl, List.getElem?_eq_getElem hl]; rfl
      · rw [if_neg hl, List.getElem?_eq_none (by omega)]; rfl
    · rw [if_neg hj, ih]
      simp only [List.mem_cons]
      have : ¬ j = v := fun e => hj e.symm
      simp [this]
theorem wipe_set {σ : L2.St} {i : Nat} {x : Option V} {vs : List Nat} (h : i ∈ vs) : L2.wipe (σ.set i x) vs = L2.wipe σ vs := by
  apply List.ext_getElem?
  intro j
  rw [wipe_get, wipe_get]
  by_cases hj : j ∈ vs
  · rw [if_pos hj, if_pos hj, List.getElem?_set]
    split
    · rename_i q
      subst q
      by_cases hl : i < σ.length
      · simp [hl]
      · simp [hl]
    · rfl
  · rw [if_neg hj, if_neg hj, List.getElem?_set_ne (fun (e : i = j) => hj (by rw [← e]; exact h))]
theorem wipe_wipe {σ : L2.St} {vs : List Nat} : L2.wipe (L2.wipe σ vs) vs = L2.wipe σ vs := by
  apply List.ext_getElem?
  intro j
  rw [wipe_get, wipe_get]
  by_cases hj : j ∈ vs
  · rw [if_pos hj, if_pos hj]; cases σ[j]? <;> rfl
  · rw [if_neg hj, if_neg hj]
section
variable {X : Cx} {ca : CA} {W : WX} {a b c e : Expr} {es rest : List Expr} {f g k : FE} {pos : Pos} {s₁ : Stmt} {ss : List Stmt} {u v w : FS} {tg : Expr}
theorem Slots.wipe {K : PySem.W.Frag} {ρ : Nat → Addr} {n : Nat} {H : Hp} {τ : Ti} {σ : L2.St} (h : Slots K ca ρ n H τ σ) (vs : List Nat) : Slots K ca ρ n H (wipeT τ vs) (L2.wipe σ vs) := by
  refine ⟨by rw [wipeT_length, wipe_length]; exact h.1, fun i d e => ?_⟩
  obtain ⟨e1, e2⟩ := wipeT_some e
  obtain ⟨v, e3, r⟩ := h.2 i d e1
  exact ⟨v, by rw [wipe_out e2]; exact e3, r⟩
theorem Slots.rk2 {K : PySem.W.Frag} {ca' : CA} {τ : Ti} {σ : L2.St} {n n' : Nat} {ρ ρ' : Nat → Addr} {H H' : Hp} (x : RK K ca ρ n H ca' ρ' n' H') (h : Slots K ca ρ n H τ σ) : Slots K ca' ρ' n' H' τ σ := ⟨h.1, fun i d e =>
  let ⟨v, e', r⟩ := h.2 i d e; ⟨v, e', r.rk x⟩⟩
/-! targets that keep all slots but vs -/
def tGw (K : PySem.W.Frag) (ca : CA) (vs : List Nat) (g : FG) : TG := fun v σ H Q => ∃ rv ρ st τ d, Slots K ⟨ca.f, rv⟩ ρ st.length H τ σ ∧ SRep K ⟨ca.f, rv⟩ ρ H st ∧ Rep K ⟨ca.f, rv⟩ ρ st.length H d v ∧
  Post K ⟨ca.f, rv⟩ W0 ρ st.length H (g d τ st) fun τ1 ρ1 st1 H1 => ∀ σ1, Slots K ⟨ca.f, rv⟩ ρ1 st1.length H1 τ1 σ1 → L2.wipe σ1 vs = L2.wipe σ vs → Q σ1 H1
def tGws (K : PySem.W.Frag) (ca : CA) (vs : List Nat) (g : FGs) : TGs := fun v σ H Q => ∃ rv ρ st τ d, Slots K ⟨ca.f, rv⟩ ρ st.length H τ σ ∧ SRep K ⟨ca.f, rv⟩ ρ H st ∧ Reps K ⟨ca.f, rv⟩ ρ st.length H d v ∧
  Post K ⟨ca.f, rv⟩ W0 ρ st.length H (g d τ st) fun τ1 ρ1 st1 H1 => ∀ σ1, Slots K ⟨ca.f, rv⟩ ρ1 st1.length H1 τ1 σ1 → L2.wipe σ1 vs = L2.wipe σ vs → Q σ1 H1
def JGw (X : Cx) (ca : CA) (vs : List Nat) (e : Expr) (g : FG) : Prop := PG X e (tGw X.K ca vs g)
def JGws (X : Cx) (ca : CA) (vs : List Nat) (es : List Expr) (g : FGs) : Prop := PGs X es (tGws X.K ca vs g)
theorem jgw_name {vs : List Nat} (i : Nat) {x : Str} (hv : i ∈ vs) (hN : X.N.Nodup) (hi : X.N[i]? = some x := by rfl) (hx : Loc X.env.scope x := by first | exact Or.inl rfl | exact Or.inr rfl) (hf : X.fn x = true ∨ X.env.scope.names.lookup x = some .local := by first | exact .inl rfl | exact .inr rfl | assumption) : JGw X ca vs (.Name x pos) (gN i) :=
  pg_imp (pg_name (i := i) hN hi hx hf) fun v σ H Q ⟨rv, ρ, st, τ, d, sl, s, r, h⟩ => h.here s _ (sl.set r i) (wipe_set hv)
theorem jgws_nil {vs : List Nat} : JGws X ca vs [] gNilD := pgs_imp pgs_nil fun v σ H Q ⟨rv, ρ, st, τ, d, sl, s, r, h⟩ => by
  cases d with
  | nil => simp only [Reps] at r; exact ⟨r, h.here s σ sl rfl⟩
  | cons _ _ => exact h.elim
theorem jgws_cons {vs : List Nat} {g₁ : FG} {h₁ : FGs} (hg : JGw X ca vs e g₁) (hh : JGws X ca vs es h₁) (hs : (assignEach (e :: es) X.env).map (·.2) = assign e X.env :: (assignEach es X.env).map (·.2) := by rfl) : JGws X ca vs (e :: es) (gConsD g₁ h₁) :=
  pgs_imp (pgs_cons hg hh hs) fun v σ H Q ⟨rv, ρ, st, τ, d, sl, s, r, h⟩ => by
    cases d with
    | nil => exact h.elim
    | cons d ds =>
      simp only [Reps] at r
      obtain ⟨v0, vs0, rfl, r1, r2⟩ := r
      refine ⟨v0, vs0, rfl, rv, ρ, st, τ, d, sl, s, r1, (Post.bind h).mono fun τ1 ρ1 st1 H1 x1 s1 ⟨_, _, q⟩ σ1 sl1 w1 => ?_⟩
      exact ⟨rv, ρ1, st1, τ1, ds, sl1, s1, r2.ext x1, q.mono fun τ2 ρ2 st2 H2 x2 s2 q σ2 sl2 w2 => q σ2 sl2 (w2.trans w1)⟩
theorem jgw_tup {vs : List Nat} {h₁ : FGs} {kk : Nat} {n : Nat} (hc : X.calm = true) (hh : JGws X ca vs es h₁) (hn : (assignEach es X.env).length = n := by rfl) (hst : (assignEach es X.env).findIdx? (·.1) = none := by rfl) : JGw X ca vs (.Tuple es kk pos) (gTupD n h₁) :=
  pg_imp (pg_tup hc hh hn hst) fun v σ H Q ⟨rv, ρ, st, τ, d, sl, s, r, h⟩ => by
    cases d with
    | tup ds =>
      simp only [Rep] at r
      obtain ⟨p, xs, rfl, q, rs⟩ := r
      simp only [gTupD] at h
      split at h
      · rename_i z
        exact ⟨p, xs, rfl, SqT.of q, by rw [rs.length]; exact z, rv, ρ, st, τ, ds, sl, s, rs, h⟩
      · exact h.elim
    | ktup ds =>
      simp only [Rep] at r
      obtain ⟨p, xs, rfl, q, rs⟩ := r
      simp only [gTupD] at h
      split at h
      · rename_i z
        exact ⟨p, xs, rfl, q.seq, by rw [rs.length]; exact z, rv, ρ, st, τ, ds, sl, s, rs, h⟩
      · exact h.elim
    | _ => exact h.elim
/-! the walk -/
def noX {α : Type} : R α → R α
  | .ok a st => .ok a st
  | _ => .bad
def lcD {β : Type} (g₁ : FG) (t : FB) (e : FE) (τ0 : Ti) (fin : List D → Sto → R β) : List D → List D → Sto → R β
  | [], acc => fun st => fin acc st
  | d :: ds, acc => fun st => (noX (g₁ d τ0 st)).bind fun τ1 st1 => (noX (t τ1 st1)).bind fun x st2 =>
    if x = true then (noX (e τ1 st2)).bind fun y st3 => if acc.length < sizeLine then lcD g₁ t e τ0 fin ds (acc ++ [y]) st3 else .bad else lcD g₁ t e τ0 fin ds acc st2
def lcO {β : Type} (g₁ : FG) (t : FB) (e : FE) (τ0 : Ti) (fin : List D → Sto → R β) (k : Nat) : Nat → Nat → List D → Sto → R β
  | 0, _, _ => fun _ => .bad
  | n + 1, i, acc => fun st => match st[k]? with
    | some (.lst ds) => match ds[i]? with
      | none => fin acc st
      | some d => (noX (g₁ d τ0 st)).bind fun τ1 st1 => (noX (t τ1 st1)).bind fun x st2 =>
        if x = true then (noX (e τ1 st2)).bind fun y st3 => if acc.length < sizeLine then lcO g₁ t e τ0 fin k n (i + 1) (acc ++ [y]) st3 else .bad else lcO g₁ t e τ0 fin k n (i + 1) acc st2
    | _ => .bad
def finLv (ys : List D) (st : Sto) : R D := .ok (.lv ys) st
def finO (ys : List D) (st : Sto) : R D := .ok (.obj st.length) (st ++ [.lst ys])
def fLcG (fin : List D → Sto → R D) (f : FI) (g₁ : FG) (vs : List Nat) (t : FB) (e : FE) : FE := fun τ st => (f τ st).bind fun src st1 => match src with
  | .imm ds => lcD g₁ t e (wipeT τ vs) fin ds [] st1
  | .obj k => lcO g₁ t e (wipeT τ vs) fin k forMost 0 [] st1
def bYes : FB := fun _ st => .ok true st
theorem Post.noX {α : Type} {K : PySem.W.Frag} {ρ : Nat → Addr} {n : Nat} {H : Hp} {r : R α} {F : α → (Nat → Addr) → Sto → Hp → Prop} (h : Post K ca W ρ n H (noX r) F) : Post K ca W0 ρ n H r F := by
  cases r with
  | ok a st => exact h
  | _ => exact h.elim
def tEr (K : PySem.W.Frag) (ca : CA) (f : FE) : TE := fun σ H Q => ∃ rv, tD K ⟨ca.f, rv⟩ W0 f σ H Q
def tTr (K : PySem.W.Frag) (ca : CA) (f : FB) : TT := fun σ H Q => ∃ rv, tDB K ⟨ca.f, rv⟩ W0 f σ H Q
section
variable {K : PySem.W.Frag} {ρ ρ' : Nat → Addr} {st st' : Sto} {H H' : Hp} {dd : Addr} {n n' : Nat}
/-- things move at an address that was free -/
theorem Ext.at_new {o : HO} (x : Ext ρ n H ρ' n' H') (h : H dd = none) : Ext ρ n H ρ' n' (upd H' dd o) :=
  ⟨x.le, x.same, x.new, fun a o e hn => by rw [upd_ne (ne_of_none e h)]; exact x.keep a o e hn, fun a xs e => by rw [upd_ne (ne_of_none e h)]; exact x.tups a xs e,
    fun a o u e => by rw [upd_ne (ne_of_none e h)]; exact x.frzs a o u e, fun a u e => by rw [upd_ne (ne_of_none e h)]; exact x.owns a u e,
    fun a o e => by rw [upd_ne (ne_of_none e h)]; exact x.there a o e⟩
/-- into the making -/
theorem Ext.rk_in (x : Ext ρ n H ρ' n' H') (h : H dd = none) : RK K ca ρ n H ⟨ca.f, dd :: ca.rv⟩ ρ' n' H' :=
  ⟨rfl, x.le, x.same, x.tups, fun a xs e => ⟨(x.lst e).1, (x.lst e).2.1, by simp only [List.mem_cons, not_or]; exact ⟨ne_of_none e.1 h, e.2.2⟩⟩, fun _ _ => x.kl, fun _ _ => x.dv, fun a o _ => x.frzs a o _⟩
/-- .. and out -/
theorem rk_out : RK K ⟨ca.f, dd :: ca.rv⟩ ρ n H ca ρ n H :=
  ⟨rfl, Nat.le_refl _, fun _ _ => rfl, fun _ _ e => e, fun a xs e => ⟨e.1, e.2.1, fun z => e.2.2 (List.mem_cons_of_mem _ z)⟩, fun _ _ e => e, fun _ _ e => e, fun _ _ _ e => e⟩
/-- the list in the making is written -/
theorem rk_mk {ca : CA} {xs ys : List V} (h : H dd = some (.lst xs)) (hd : dd ∈ ca.rv) : RK K ca ρ n H ca ρ n (upd H dd (.lst ys)) where
  f := rfl
  le := Nat.le_refl _
  same := fun _ _ => rfl
  tup := fun a xs e => by rw [upd_ne (ne_of e h (fun z => nomatch z))]; exact e
  lst := fun a xs e => ⟨by rw [upd_ne (fun (z : a = dd) => e.2.2 (by rw [z]; exact hd))]; exact e.1, e.2⟩
  kl := fun a xs e => by
    rcases e with ⟨o, e⟩ | e
    · exact .inl ⟨o, by rw [upd_ne (ne_of e h (fun z => nomatch z))]; exact e⟩
    · exact .inr e
  dv := fun a kvs e => by
    refine ⟨?_, e.2⟩
    rcases e.1 with e | ⟨o, e⟩
    · exact .inl (by rw [upd_ne (ne_of e h (fun z => nomatch z))]; exact e)
    · exact .inr ⟨o, by rw [upd_ne (ne_of e h (fun z => nomatch z))]; exact e⟩
  frz := fun a o xs e => by rw [upd_ne (ne_of e h (fun z => nomatch z))]; exact e
theorem ORep.rk {ca ca' : CA} {o : MO} {a : Addr} (x : RK K ca ρ n H ca' ρ' n' H') (hk : ∀ b u, H b = some u → (b = a ∨ u = .own a) → H' b = some u) (h : ORep K ca ρ n H o a) : ORep K ca' ρ' n' H' o a := by
  cases o with
  | lst ds => obtain ⟨xs, e, r⟩ := h; exact ⟨xs, hk _ _ e (.inl rfl), r.rk x⟩
  | dic ks => obtain ⟨xs, e, r⟩ := h; exact ⟨xs, hk _ _ e (.inl rfl), r.rk x⟩
  | dit ks => obtain ⟨xs, e, r⟩ := h; exact ⟨xs, hk _ _ e (.inl rfl), r.rk x⟩
  | lck ks => obtain ⟨o, xs, e, r⟩ := h; exact ⟨o, xs, hk _ _ e (.inl rfl), r.rk x⟩
  | ins c fs => obtain ⟨C, dx, xs, c1, e, d, r⟩ := h; exact ⟨C, dx, xs, by rw [x.f]; exact c1, hk _ _ e (.inl rfl), hk _ _ d (.inr rfl), r.rk x⟩
theorem srep_mk {ca : CA} {xs ys : List V} (s : SRep K ca ρ H st) (h : H dd = some (.lst xs)) (hd : dd ∈ ca.rv) : SRep K ca ρ (upd H dd (.lst ys)) st := by
  refine ⟨fun i o e => (s.at_ i o e).rk (rk_mk h hd) fun b u q z => ?_, s.inj, fun a ha => ⟨?_, (s.res a ha).2⟩, tabs_write h ⟨fun _ => nofun, fun c q z => by unfold CodeO at z; cases z⟩ s.tab⟩
  · rcases z with z | z
    · rw [upd_ne (z ▸ (s.res dd hd).2 i (List.getElem?_eq_some_iff.mp e).1)]; exact q
    · rw [upd_ne (ne_of q h (fun w => by rw [z] at w; cases w))]; exact q
  · by_cases q : a = dd
    · subst q; exact ⟨ys, upd_same⟩
    · rw [upd_ne q]; exact (s.res a ha).1
/-- a new list begins to be made -/
theorem srep_in (s : SRep K ca ρ H st) (h : H dd = none) : SRep K ⟨ca.f, dd :: ca.rv⟩ ρ (upd H dd (.lst [])) st := by
  have s1 := s.upd_new (o := .lst []) h
  have x := Ext.upd_new (o := .lst []) s h
  refine ⟨fun i o e => (s.at_ i o e).rk (x.rk_in h) fun b u q _ => by rw [upd_ne (ne_of_none q h)]; exact q, s.inj, fun a ha => ?_, s1.tab⟩
  rcases List.mem_cons.mp ha with rfl | ha
  · exact ⟨⟨[], upd_same⟩, s.ne_new h⟩
  · exact s1.res a ha
theorem srep_out (s : SRep K ⟨ca.f, dd :: ca.rv⟩ ρ H st) : SRep K ca ρ H st :=
  ⟨fun i o e => (s.at_ i o e).rk rk_out fun _ _ q _ => q, s.inj, fun a ha => s.res a (List.mem_cons_of_mem _ ha), s.tab⟩
end
theorem mk_step {K : PySem.W.Frag} {ca : CA} {ρ2 ρ3 : Nat → Addr} {st2 st3 : Sto} {H2 H3 : Hp} {dd : Addr} {acc : List D} {xs : List V} (s2 : SRep K ca ρ2 H2 st2) (hm : dd ∈ ca.rv) (hd : H2 dd = some (.lst xs)) (rs : Reps K ca ρ2 st2.length H2 acc xs)
    (x : Ext ρ2 st2.length H2 ρ3 st3.length H3) : H3 dd = some (.lst xs) ∧ Reps K ca ρ3 st3.length H3 acc xs :=
  ⟨x.keep _ _ hd (fun _ => nofun) (s2.res dd hm).2, rs.ext x⟩
/-- a turn: from the item to what the rest wants -/
theorem lc_turn {K : PySem.W.Frag} {g₁ : FG} {t : FB} {e : FE} {τ : Ti} {vs : List Nat} {σ : L2.St} {dd : Addr} {ρ1 ρ2 : Nat → Addr} {n1 : Nat} {st2 : Sto} {H1 H2 : Hp} {d : D} {x : V} {acc : List D} {xs : List V} {β : Type} {rest : List D → Sto → R β}
    {F : β → (Nat → Addr) → Sto → Hp → Prop} {Nx : Hp → Prop} (h0 : H1 dd = none) (sl : Slots K ca ρ1 n1 H1 τ σ)
    (x2 : Ext ρ1 n1 H1 ρ2 st2.length H2) (s2 : SRep K ⟨ca.f, dd :: ca.rv⟩ ρ2 H2 st2) (hd : H2 dd = some (.lst xs)) (rs : Reps K ⟨ca.f, dd :: ca.rv⟩ ρ2 st2.length H2 acc xs) (rx : Rep K ⟨ca.f, dd :: ca.rv⟩ ρ2 st2.length H2 d x)
    (h : Post K ca W ρ1 n1 H1 ((noX (g₁ d (wipeT τ vs) st2)).bind fun τ1 st1 => (noX (t τ1 st1)).bind fun b st2 => if b = true then (noX (e τ1 st2)).bind fun y st3 => if acc.length < sizeLine then rest (acc ++ [y]) st3 else .bad else rest acc st2) F)
    (hN : ∀ ρ3 st3 H3 acc' xs', Ext ρ1 n1 H1 ρ3 st3.length H3 → SRep K ⟨ca.f, dd :: ca.rv⟩ ρ3 H3 st3 → H3 dd = some (.lst xs') → Reps K ⟨ca.f, dd :: ca.rv⟩ ρ3 st3.length H3 acc' xs' → Post K ca W ρ1 n1 H1 (rest acc' st3) F → Nx H3) :
    tGw K ca vs g₁ x (L2.wipe σ vs) H2 fun σ2 H2 => L2.wipe σ2 vs = L2.wipe σ vs ∧ tTr K ca t σ2 H2 fun b H3 =>
      if b = true then tEr K ca e σ2 H3 fun y H4 => ∃ acc, H4 dd = some (.lst acc) ∧ acc.length < sizeLine ∧ Nx (upd H4 dd (.lst (acc ++ [y]))) else Nx H3 := by
  have hm : dd ∈ (⟨ca.f, dd :: ca.rv⟩ : CA).rv := List.mem_cons_self
  refine ⟨dd :: ca.rv, ρ2, st2, wipeT τ vs, d, (sl.rk2 (x2.rk_in h0)).wipe vs, s2, rx, ?_⟩
  cases e1 : g₁ d (wipeT τ vs) st2 with
  | bad => rw [e1] at h; exact h
  | ex c fs τ' st' => rw [e1] at h; exact h.elim
  | ok τ1 st3 =>
    rw [e1] at h
    intro H3 ρ3 x3 s3 σ3 sl3 w3
    obtain ⟨hd3, rs3⟩ := mk_step s2 hm hd rs x3
    refine ⟨by rw [w3, wipe_wipe], dd :: ca.rv, ρ3, st3, τ1, sl3, s3, ?_⟩
    replace h : Post K ca W ρ1 n1 H1 ((noX (t τ1 st3)).bind fun b st2 => if b = true then (noX (e τ1 st2)).bind fun y st3 => if acc.length < sizeLine then rest (acc ++ [y]) st3 else .bad else rest acc st2) F := h
    cases e2 : t τ1 st3 with
    | bad => rw [e2] at h; exact h
    | ex c fs τ' st' => rw [e2] at h; exact h.elim
    | ok b st4 =>
      rw [e2] at h
      intro H4 ρ4 x4 s4
      obtain ⟨hd4, rs4⟩ := mk_step s3 hm hd3 rs3 x4
      have xx := (x2.trans x3).trans x4
      show if b = true then _ else _
      cases b with
      | false =>
        replace h : Post K ca W ρ1 n1 H1 (rest acc st4) F := h
        rw [if_neg (by decide)]
        exact hN _ _ _ _ _ xx s4 hd4 rs4 h
      | true =>
        replace h : Post K ca W ρ1 n1 H1 ((noX (e τ1 st4)).bind fun y st3 => if acc.length < sizeLine then rest (acc ++ [y]) st3 else .bad) F := h
        rw [if_pos rfl]
        refine ⟨dd :: ca.rv, ρ4, st4, τ1, sl3.ext x4, s4, ?_⟩
        cases e3 : e τ1 st4 with
        | bad => rw [e3] at h; exact h
        | ex c fs τ' st' => rw [e3] at h; exact h.elim
        | ok y st5 =>
          rw [e3] at h
          replace h : Post K ca W ρ1 n1 H1 (if acc.length < sizeLine then rest (acc ++ [y]) st5 else .bad) F := h
          intro H5 ρ5 x5 s5 v rv
          obtain ⟨hd5, rs5⟩ := mk_step s4 hm hd4 rs4 x5
          by_cases z : acc.length < sizeLine
          · rw [if_pos z] at h
            refine ⟨xs, hd5, by rw [rs5.length]; exact z, hN _ _ _ _ _ ((xx.trans x5).at_new h0) (srep_mk s5 hd5 hm) upd_same ?_ h⟩
            exact (rs5.append (Reps.cons rv Reps.nil)).rk (rk_mk hd5 hm)
          · rw [if_neg z] at h; exact h.elim
/-- what the end makes of the new list -/
def FinOk (fin : List D → Sto → R D) : Prop := ∀ (K : PySem.W.Frag) (ca : CA) (W : WX) (ρ1 : Nat → Addr) (n1 : Nat) (H1 : Hp) (ρ2 : Nat → Addr) (st2 : Sto) (H2 : Hp) (dd : Addr) (ys : List D) (xs : List V) (Q : VK), H1 dd = none → Ext ρ1 n1 H1 ρ2 st2.length H2 →
  dd ∉ ca.rv → SRep K ⟨ca.f, dd :: ca.rv⟩ ρ2 H2 st2 → H2 dd = some (.lst xs) → Reps K ⟨ca.f, dd :: ca.rv⟩ ρ2 st2.length H2 ys xs → Post K ca W ρ1 n1 H1 (fin ys st2) (KD K ca Q) → Q (.ref dd) H2
theorem finLv_ok : FinOk finLv := fun K ca W ρ1 n1 H1 ρ2 st2 H2 dd ys xs Q h0 x hn s hd rs h => by
  refine h H2 ρ2 x (srep_out s) _ ?_
  simp only [Rep]
  exact ⟨dd, xs, rfl, ⟨hd, (s.res dd List.mem_cons_self).2, hn⟩, rs.rk rk_out⟩
theorem finO_ok : FinOk finO := fun K ca W ρ1 n1 H1 ρ2 st2 H2 dd ys xs Q h0 x hn s hd rs h => by
  have hne := (s.res dd List.mem_cons_self).2
  have rk : RK K ⟨ca.f, dd :: ca.rv⟩ ρ2 st2.length H2 ca (more ρ2 st2.length dd) (st2.length + 1) H2 :=
    ⟨rfl, Nat.le_succ _, fun i hi => more_lt hi, fun _ _ e => e, fun a xs e => ⟨e.1, fun i hi => by
      by_cases q : i < st2.length
      · rw [more_lt q]; exact e.2.1 i q
      · have : i = st2.length := by omega
        subst this
        rw [more_same]
        exact fun z => e.2.2 (by rw [← z]; exact List.mem_cons_self), fun z => e.2.2 (List.mem_cons_of_mem _ z)⟩, fun _ _ e => e, fun a kvs e => ⟨e.1, fun i hi => by
      by_cases q : i < st2.length
      · rw [more_lt q]; exact e.2 i q
      · have : i = st2.length := by omega
        subst this
        rw [more_same]
        intro z
        subst z
        rcases e.1 with e | ⟨o, e⟩ <;> (rw [hd] at e; cases e)⟩, fun _ _ _ e => e⟩
  have hs : SRep K ca (more ρ2 st2.length dd) H2 (st2 ++ [.lst ys]) := by
    refine ⟨fun i o e => ?_, fun i j hi hj q => ?_, fun a ha => ⟨(s.res a (List.mem_cons_of_mem _ ha)).1, fun i hi => ?_⟩, s.tab⟩
    · rw [List.length_append, List.length_singleton]
      by_cases h : i < st2.length
      · rw [List.getElem?_append_left h] at e
        rw [more_lt h]
        exact (s.at_ i o e).rk rk fun _ _ q _ => q
      · have hi : i = st2.length := by
          have := (List.getElem?_eq_some_iff.mp e).1
          simp at this; omega
        subst hi
        simp at e; subst e
        rw [more_same]
        exact ⟨xs, hd, rs.rk rk⟩
    · simp at hi hj
      by_cases h : i < st2.length
      · by_cases h' : j < st2.length
        · rw [more_lt h, more_lt h'] at q; exact s.inj i j h h' q
        · have hj : j = st2.length := by omega
          subst hj
          rw [more_lt h, more_same] at q
          exact absurd q (hne i h)
      · have hi : i = st2.length := by omega
        subst hi
        by_cases h' : j < st2.length
        · rw [more_lt h', more_same] at q
          exact absurd q.symm (hne j h')
        · omega
    · simp at hi
      by_cases h : i < st2.length
      · rw [more_lt h]; exact (s.res a (List.mem_cons_of_mem _ ha)).2 i h
      · have : i = st2.length := by omega
        subst this
        rw [more_same]
        exact fun z => hn (z ▸ ha)
  refine h H2 (more ρ2 st2.length dd) ?_ hs _ (rep_obj_new _)
  rw [List.length_append, List.length_singleton]
  exact ⟨Nat.le_succ_of_le x.le, fun i hi => by rw [more_lt (Nat.lt_of_lt_of_le hi x.le)]; exact x.same i hi, fun i h1 h2 => by
    by_cases h : i < st2.length
    · rw [more_lt h]; exact x.new i h1 h
    · have : i = st2.length := by omega
      subst this
      rw [more_same]; exact h0, x.keep, x.tups, x.frzs, x.owns, x.there⟩
theorem lc_tLc {fin : List D → Sto → R D} (hf : FinOk fin) {K : PySem.W.Frag} {fi : FI} {g₁ : FG} {vs : List Nat} {t : FB} {e : FE} {σ : L2.St} {H : Hp} {Q : VK}
    (h : tD K ca W (fLcG fin fi g₁ vs t e) σ H Q) : tLc (tDI K ca W fi) (tGw K ca vs g₁) (tTr K ca t) (tEr K ca e) vs σ H Q := by
  obtain ⟨ρ, st, τ, sl, s, h⟩ := h
  refine at_of sl s h fun src ρ1 st1 H1 x1 sl1 s1 h1 J hJ dd h0 => ?_
  have hn : dd ∉ ca.rv := s1.not_res h0
  have hm : dd ∈ (⟨ca.f, dd :: ca.rv⟩ : CA).rv := List.mem_cons_self
  have s2 := srep_in (ca := ca) s1 h0
  have x2 := Ext.upd_new (o := .lst []) s1 h0
  cases src with
  | imm ds =>
    refine ⟨fun i m H' => i ≤ ds.length ∧ m = ds.length - i ∧ ∃ ρ' st' acc xs, Ext ρ1 st1.length H1 ρ' st'.length H' ∧ SRep K ⟨ca.f, dd :: ca.rv⟩ ρ' H' st' ∧ H' dd = some (.lst xs) ∧ Reps K ⟨ca.f, dd :: ca.rv⟩ ρ' st'.length H' acc xs ∧
        Post K ca W ρ1 st1.length H1 (lcD g₁ t e (wipeT τ vs) fin (ds.drop i) acc st') (KD K ca Q),
      ⟨ds.length, Nat.zero_le _, rfl, ρ1, st1, [], [], x2, s2, upd_same, Reps.nil, h1⟩, fun i m H2 ⟨hi, hm', ρ2, st2, acc, xs, x3, s3, hd, rs, h2⟩ => ?_⟩
    obtain ⟨hg, hs⟩ := hJ ⟨ca.f, dd :: ca.rv⟩ ρ2 st2.length H2 x3 (x3.rk_in h0)
    by_cases hl : i < ds.length
    · right
      rw [List.drop_eq_getElem_cons hl] at h2
      obtain ⟨g0, gy⟩ := hg i ds[i] (List.getElem?_eq_getElem hl)
      refine ⟨g0, fun H2 => ∃ ρ' st' acc xs, Ext ρ1 st1.length H1 ρ' st'.length H2 ∧ SRep K ⟨ca.f, dd :: ca.rv⟩ ρ' H2 st' ∧ H2 dd = some (.lst xs) ∧ Reps K ⟨ca.f, dd :: ca.rv⟩ ρ' st'.length H2 acc xs ∧
        Post K ca W ρ1 st1.length H1 (lcD g₁ t e (wipeT τ vs) fin (ds.drop (i + 1)) acc st') (KD K ca Q), fun H' q => ⟨ds.length - (i + 1), by omega, hl, rfl, q⟩, fun x H4 hy => ?_⟩
      obtain ⟨hh, hr⟩ := gy x H4 hy
      obtain ⟨x4, s4⟩ := ext_same s3 hh
      obtain ⟨hd4, rs4⟩ := mk_step s3 hm hd rs x4
      exact lc_turn (W := W) h0 sl1 (x3.trans x4) s4 hd4 rs4 hr (rest := fun acc st => lcD g₁ t e (wipeT τ vs) fin (ds.drop (i + 1)) acc st) h2 fun ρ3 st3 H3 acc' xs' xx ss hdd rr pp => ⟨ρ3, st3, acc', xs', xx, ss, hdd, rr, pp⟩
    · left
      have e : ds.drop i = [] := List.drop_of_length_le (Nat.le_of_not_lt hl)
      rw [e] at h2
      exact ⟨hs i (Nat.le_of_not_lt hl), hf K ca W _ _ _ _ _ _ _ _ _ _ h0 x3 hn s3 hd rs h2⟩
  | obj k =>
    obtain ⟨hk, rfl⟩ := hJ
    refine ⟨fun i m H' => ∃ ρ' st' acc xs, Ext ρ1 st1.length H1 ρ' st'.length H' ∧ SRep K ⟨ca.f, dd :: ca.rv⟩ ρ' H' st' ∧ H' dd = some (.lst xs) ∧ Reps K ⟨ca.f, dd :: ca.rv⟩ ρ' st'.length H' acc xs ∧
        Post K ca W ρ1 st1.length H1 (lcO g₁ t e (wipeT τ vs) fin k m i acc st') (KD K ca Q),
      ⟨forMost, ρ1, st1, [], [], x2, s2, upd_same, Reps.nil, h1⟩, fun i m H2 ⟨ρ2, st2, acc, xs, x3, s3, hd, rs, h2⟩ => ?_⟩
    cases m with
    | zero => exact h2.elim
    | succ m =>
      simp only [lcO] at h2
      cases q : st2[k]? with
      | none => simp only [q] at h2; exact h2.elim
      | some mo =>
        cases mo with
        | lst ds =>
          simp only [q] at h2
          obtain ⟨ys, ha, rr⟩ := s3.at_ k _ q
          rw [x3.same k hk] at ha
          cases q2 : ds[i]? with
          | none =>
            left
            simp only [q2] at h2
            refine ⟨⟨ys, SqL.of ha, ?_⟩, hf K ca W _ _ _ _ _ _ _ _ _ _ h0 x3 hn s3 hd rs h2⟩
            rw [rr.length]
            exact List.getElem?_eq_none_iff.mp q2
          | some d =>
            right
            simp only [q2] at h2
            obtain ⟨v, ev, r⟩ := rr.get q2
            refine ⟨⟨ys, v, SqL.of ha, ev⟩, fun H2 => ∃ ρ' st' acc xs, Ext ρ1 st1.length H1 ρ' st'.length H2 ∧ SRep K ⟨ca.f, dd :: ca.rv⟩ ρ' H2 st' ∧ H2 dd = some (.lst xs) ∧ Reps K ⟨ca.f, dd :: ca.rv⟩ ρ' st'.length H2 acc xs ∧
              Post K ca W ρ1 st1.length H1 (lcO g₁ t e (wipeT τ vs) fin k m (i + 1) acc st') (KD K ca Q), fun H' q => ⟨m, Nat.lt_succ_self _, q⟩, fun x H4 ⟨hy, hz⟩ => ?_⟩
            subst hy
            have ex : x = v := by
              have := hz ys (SqL.of ha)
              rw [ev] at this
              exact (Option.some.inj this).symm
            subst ex
            exact lc_turn (W := W) h0 sl1 x3 s3 hd rs r (rest := fun acc st => lcO g₁ t e (wipeT τ vs) fin k m (i + 1) acc st) h2 fun ρ3 st3 H3 acc' xs' xx ss hdd rr pp => ⟨ρ3, st3, acc', xs', xx, ss, hdd, rr, pp⟩
        | _ => simp only [q] at h2; exact h2.elim
theorem pe_ex {ι : Type} {t : ι → TE} (h : ∀ i, PE X a (t i)) : PE X a (fun σ H Q => ∃ i, t i σ H Q) := ⟨fun pins s σ H Q I ⟨i, q⟩ => (h i).run pins s σ H Q I q⟩
theorem pts_ex {ι : Type} {ifs : List Expr} {t : ι → TT} (h : ∀ i, PTs X ifs (t i)) : PTs X ifs (fun σ H Q => ∃ i, t i σ H Q) := ⟨fun pins s σ H Q I ⟨i, q⟩ => (h i).run pins s σ H Q I q⟩
theorem pts_imp {ifs : List Expr} {t t' : TT} (h : PTs X ifs t) (i : ∀ σ H Q, t' σ H Q → t σ H Q) : PTs X ifs t' := ⟨fun pins s σ H Q I q => h.run pins s σ H Q I (i σ H Q q)⟩
/-- what stands in a comprehension's block -/
def JEb (X : Cx) (ca : CA) (scope : Scope) (e : Expr) (f : FE) : Prop := ∀ (s : Shared) (H : Hp) (C : Addr) (cl : List (Str × Addr)) (fp : List Addr) (rv : List Addr), JE (X.blk s H scope (compEnvC scope cl C X.env) fp) ⟨ca.f, rv⟩ W0 e f
def JTs (X : Cx) (ca : CA) (scope : Scope) (ifs : List Expr) (t : FB) : Prop := ∀ (s : Shared) (H : Hp) (C : Addr) (cl : List (Str × Addr)) (fp : List Addr), PTs (X.blk s H scope (compEnvC scope cl C X.env) fp) ifs (tTr X.K ca t)
def JGb (X : Cx) (ca : CA) (scope : Scope) (vs : List Nat) (e : Expr) (g : FG) : Prop := ∀ (s : Shared) (H : Hp) (C : Addr) (cl : List (Str × Addr)) (fp : List Addr), JGw (X.blk s H scope (compEnvC scope cl C X.env) fp) ca vs e g
theorem jts_nil {scope : Scope} : JTs X ca scope [] bYes := fun s H C cl fp => pts_imp pts_nil fun σ H Q ⟨rv, ρ, st, τ, sl, s, h⟩ => h.here s
theorem jts_one {scope : Scope} {t : FB} (h : ∀ (s : Shared) (H : Hp) (C : Addr) (cl : List (Str × Addr)) (fp : List Addr) (rv : List Addr), JB (X.blk s H scope (compEnvC scope cl C X.env) fp) ⟨ca.f, rv⟩ W0 c t) : JTs X ca scope [c] t :=
  fun s H C cl fp => pts_ex fun rv => pts_one (h s H C cl fp rv)
theorem je_lc {iter elt : Expr} {ifs : List Expr} {scope : Scope} {own : List (Str × Nat)} {fin : List D → Sto → R D} {fi : FI} {g₁ : FG} {t : FB} {e : FE} (hf : FinOk fin) (hc : X.calm = true) (hN : X.N.Nodup) (hi : JI X ca W tg iter fi) (ok : BlkOk X.N X.env.scope scope own)
    (hg : JGb X ca scope (own.map (·.2)) tg g₁) (ht : JTs X ca scope ifs t) (he : JEb X ca scope elt e) (hs : ∀ x, foldedSetIterable iter X.env x = pure x := by intro _; rfl) : JE X ca W (.ListComp elt [⟨tg, iter, ifs, 0⟩] scope pos) (fLcG fin fi g₁ (own.map (·.2)) t e) :=
  pe_imp (pe_lc (own := own) (g := tGw X.K ca (own.map (fun p : Str × Nat => p.2)) g₁) (tt := tTr X.K ca t) (te := tEr X.K ca e) hc hN hi ok hg ht (fun s H C cl fp => pe_ex (t := fun rv => tD X.K ⟨ca.f, rv⟩ W0 e) fun rv => he s H C cl fp rv) hs) fun σ H Q h => lc_tLc hf h
theorem js_setLc (i : Nat) {y : Str} {py spos : Pos} {iter elt : Expr} {ifs : List Expr} {scope : Scope} {own : List (Str × Nat)} {fin : List D → Sto → R D} {fi : FI} {g₁ : FG} {t : FB} {e : FE} (hf : FinOk fin) (hc : X.calm = true) (hN : X.N.Nodup) (hi : JI X ca W tg iter fi) (ok : BlkOk X.N X.env.scope scope own)
    (hg : JGb X ca scope (own.map (·.2)) tg g₁) (ht : JTs X ca scope ifs t) (he : JEb X ca scope elt e) (hy : X.N[i]? = some y := by rfl) (hyl : X.env.scope.names.lookup y = some .local := by rfl)
    (hsw : swapsWith (.ListComp elt [⟨tg, iter, ifs, 0⟩] scope pos) (some (.Name y py)) spos.line X.env = pure true := by exact sw_true rfl rfl rfl rfl) (hs : ∀ x, foldedSetIterable iter X.env x = pure x := by intro _; rfl) :
    JS X ca W (.Assign [.Name y py] (.ListComp elt [⟨tg, iter, ifs, 0⟩] scope pos) spos) (sSet i (fLcG fin fi g₁ (own.map (·.2)) t e)) :=
  ps_imp (ps_setLc (own := own) (g := tGw X.K ca (own.map (fun p : Str × Nat => p.2)) g₁) (tt := tTr X.K ca t) (te := tEr X.K ca e) hc hN hy hyl hsw hi ok hg ht (fun s H C cl fp => pe_ex (t := fun rv => tD X.K ⟨ca.f, rv⟩ W0 e) fun rv => he s H C cl fp rv) hs) fun Dn σ H ⟨ρ, st, τ, sl, s, h⟩ => lc_tLc hf ⟨ρ, st, τ, sl, s, (Post.bind h).mono fun d ρ1 st1 H1 x1 s1 ⟨_, _, q⟩ v r => q.here s1 _ ((sl.ext x1).set r i)⟩
end
end DL
set_option Elab.async false
set_option linter.all false
set_option maxRecDepth 100000
set_option maxHeartbeats 4000000
namespace DL
open PySem PySem.Spec PyProof.Rows L2
/-! calls: a def's promise by a function over values and the store; nothing is being told by repr when it is called -/
/-- frames that a level may take -/
def frm : Nat := 1
structure RoomL (k : Nat) (A : Around) : Prop where
  hd : A.handled = none
  dp : A.depth + frm * k + 60 < recursionLimit
  un : A.units + 7 * (frm * k) + 2500 < cLine
theorem frm_succ (k : Nat) : frm * k + 1 ≤ frm * (k + 1) := by
  rw [Nat.mul_succ]; exact Nat.add_le_add_left (by decide) _
theorem RoomL.mono {j k : Nat} {A : Around} (r : RoomL k A) (h : j ≤ k) : RoomL j A := by
  have m : frm * j ≤ frm * k := Nat.mul_le_mul_left _ h
  exact ⟨r.hd, by have := r.dp; omega, by have := r.un; omega⟩
theorem RoomL.deeper {k : Nat} {A : Around} (r : RoomL (k + 1) A) (env : Env) : RoomL k (A.deeper env) := by
  have m := frm_succ k
  exact ⟨r.hd, by have := r.dp; show A.depth + 1 + frm * k + 60 < _; omega, by have := r.un; show A.units + 3 + 7 * (frm * k) + 2500 < _; omega⟩
theorem RoomL.make {k : Nat} {A : Around} (r : RoomL (k + 2) A) (C : Addr) (us : List Value) (kw : List (Str × Value)) : RoomL k (A.under (.builtin "type.__call__" ⟨.ref C :: us, kw⟩)) := by
  have m := frm_succ k
  have m2 : frm * (k + 1) + 1 ≤ frm * (k + 2) := frm_succ (k + 1)
  exact ⟨r.hd, by have := r.dp; rw [make_depth]; omega, by have := r.un; rw [make_units]; omega⟩
theorem RoomL.depth {k : Nat} {A : Around} (r : RoomL k A) : A.depth < recursionLimit := by have := r.dp; omega
theorem RoomL.room {k : Nat} {A : Around} (r : RoomL k A) : Room 12 A := ⟨r.hd, by have := r.dp; omega, by have := r.un; omega⟩
structure FnG (P : Program) (w : World) (K : PySem.W.Frag) (mg : Str → Option Value) (base : Heap) (k : Nat)
    (f : Addr) (fd : FuncData) (ps : List Str) (sp : Sp) : Prop where
  len : ∀ xs H Q E, sp xs H Q E → xs.length = ps.length
  run : ∀ (A : Around) (outer : List Env) (s : Shared) (H : Hp) (args : Args) (us : List Value) (xs : List V) (Q : VK) (E : XK),
    RoomL k A → A.guards = some [] → Env0 P w K mg base A outer s H → BindsTo s fd args (ps.zip us) → Vals xs us → sp xs H Q E →
      codeAny (model P w) A (.call (.ref f) args) (CR (L2.CX P w) outer P w H s Q E) s
section
variable {P : Program} {w : World} {K : PySem.W.Frag} {mg : Str → Option Value} {base : Heap} {k j : Nat} {f : Addr} {fd : FuncData} {ps : List Str} {sp : Sp}
theorem FnG.up (F : FnG P w K mg base j f fd ps sp) (h : j ≤ k) : FnG P w K mg base k f fd ps sp :=
  ⟨F.len, fun A outer s H args us xs Q E hr => F.run A outer s H args us xs Q E (hr.mono h)⟩
end
section
variable {X : Cx} {k : Nat} {f C : Addr} {fd : FuncData} {ps : List Str} {sp : Sp} {W : WX} {x m : Str} {p pos apos : Pos} {e o : Expr} {es : List Expr} {ta : TE} {t : TA}
theorem run_g {pins : List (Addr × Obj)} {σ : L2.St} {H : Hp} {s : Shared} {Q : VK} {us : List Value} {xs : List V} (F : FnG X.prog X.w X.K X.mg X.base k f fd ps sp) (hr : RoomL k X.A)
    (hg : X.A.guards = some []) (hb : Binds X.K fd ps []) (tk : Takes X W) (I : Inv X pins σ H s) (r : Vals xs us) (h : sp xs H Q (WE W σ)) :
    wpAny (model X.prog X.w) X.A (call (.ref f) us) (EP X pins σ Q) X.xe s := by
  have hl : (us ++ []).length = ps.length := by rw [List.append_nil, ← r.length]; exact F.len _ _ _ _ h
  have bb := hb s us I.kIn hl
  rw [List.append_nil] at bb
  refine wpAny_call (codeAny_mono (F.run X.A X.stack s H ⟨us, []⟩ us xs Q (WE W σ) hr hg I.env0 bb r h) fun res s2 q => ?_)
  match res, q with
  | .error ev, q => exact passAt tk σ pins H s ev s2 I q
  | .ok (.ret u), q => exact I.after q
/-- f(e, ..) -/
def tCallG (sp : Sp) (W : WX) (t : TA) : TE := fun σ H Q => t σ H fun xs H1 => sp xs H1 Q (WE W σ)
theorem pe_callG (F : FnG X.prog X.w X.K X.mg X.base k f fd ps sp) (hr : RoomL k X.A) (hgd : X.A.guards = some []) (hg : Gl X x) (hm : X.mg x = some (.ref f)) (hk : PySem.W.keepIn X.K (.ref f) = true)
    (hb : Binds X.K fd ps []) (tk : Takes X W) (ha : PA X (e :: es) t) (hdb : (x == ("__debug__" : Str)) = false) (he : starEach (e :: es) X.env = (false, eval e X.env) :: starEach es X.env)
    (hpl : (backTo pos (starEach es X.env)).any (·.1) = false) : PE X (.Call (.Name x p) (e :: es) [] pos) (tCallG sp W t) :=
  ⟨fun pins s σ H Q I h => wpAny_Call_Name_kw (ld_glob I hg hm
    (PySem.W.callWith_K (h₀ := X.base) I.ok.mod.kin hk (thn (ha.run pos pins s σ H _ I h) fun us s1 ⟨xs, H1, I1, r, q⟩ => ⟨I1.kIn, run_g F hr hgd hb tk I1 r q⟩) he hpl) hdb)⟩
theorem pe_callG0 (F : FnG X.prog X.w X.K X.mg X.base k f fd ps sp) (hr : RoomL k X.A) (hgd : X.A.guards = some []) (hg : Gl X x) (hm : X.mg x = some (.ref f)) (hk : PySem.W.keepIn X.K (.ref f) = true)
    (hb : Binds X.K fd ps []) (tk : Takes X W) (hdb : (x == ("__debug__" : Str)) = false) : PE X (.Call (.Name x p) [] [] pos) (tCallG sp W tNil) :=
  ⟨fun pins s σ H Q I h => wpAny_Call_Name_kw (ld_glob I hg hm (PySem.W.callWith_K0 I.kIn hk (run_g (us := []) F hr hgd hb tk I .nil h)) hdb)⟩
/-- o.m(e, ..) -/
def tMethG (C : Addr) (m : Str) (sp : Sp) (W : WX) (ta : TE) (t : TA) : TE := fun σ H Q => ta σ H fun y H1 => ∃ a dx fs, y = .ref a ∧ H1 a = some (.ins C dx fs) ∧ fs.lookup m = none ∧
  t σ H1 fun xs H2 => sp (y :: xs) H2 Q (WE W σ)
abbrev MethTree (pl : Sem Bool) (o : Expr) (m : Str) (apos pos : Pos) (args : List Expr) (env : Env) : Prop := eval (.Call (.Attribute o m apos) args [] pos) env = (do
      let ov ← eval o env
      standAt apos.atName
      let (f, first) ← holding [ov] (getMethod ov m pl)
      callWith pos f first (backTo pos (starEach args env)) (backToKw pos (keywordEach [] env)))
theorem pe_methG {pl : Sem Bool} (he : PE X o ta) (c : Cls X.K C) (hm : Meth X.K C m f) (F : FnG X.prog X.w X.K X.mg X.base k f fd ps sp) (hr : RoomL k X.A) (hgd : X.A.guards = some []) (hb : Binds X.K fd ps [])
    (tk : Takes X W) (ha : PA X (e :: es) t) (hst : starEach (e :: es) X.env = (false, eval e X.env) :: starEach es X.env) (hpl : (backTo pos (starEach es X.env)).any (·.1) = false)
    (ht : MethTree pl o m apos pos (e :: es) X.env) : PE X (.Call (.Attribute o m apos) (e :: es) [] pos) (tMethG C m sp W ta t) := by
  refine ⟨fun pins s σ H Q I h => PySem.W.methodCall_KW (pl := pl) (thn (he.run pins s σ H _ I h) fun u s1 ⟨y, H1, I1, ry, a, dx, fs, ey, ea, l, q⟩ => ?_) ht⟩
  subst ey
  cases (show u = Value.ref a from ry)
  exact getmeth_ok I1 ea c hm l (PySem.W.callWith_K (first := [.ref a]) (h₀ := X.base) I1.ok.mod.kin hm.kp (thn (ha.run pos pins s1 σ H1 _ I1 q) fun us s2 ⟨xs, H2, I2, r, q2⟩ =>
    ⟨I2.kIn, run_g (us := .ref a :: us) (xs := .ref a :: xs) F hr hgd hb tk I2 (.cons rfl r) q2⟩) hst hpl)
theorem pe_methG0 {pl : Sem Bool} (he : PE X o ta) (c : Cls X.K C) (hm : Meth X.K C m f) (F : FnG X.prog X.w X.K X.mg X.base k f fd ps sp) (hr : RoomL k X.A) (hgd : X.A.guards = some []) (hb : Binds X.K fd ps [])
    (tk : Takes X W) (ht : MethTree pl o m apos pos [] X.env) : PE X (.Call (.Attribute o m apos) [] [] pos) (tMethG C m sp W ta tNil) := by
  refine ⟨fun pins s σ H Q I h => PySem.W.methodCall_KW (pl := pl) (thn (he.run pins s σ H _ I h) fun u s1 ⟨y, H1, I1, ry, a, dx, fs, ey, ea, l, q⟩ => ?_) ht⟩
  subst ey
  cases (show u = Value.ref a from ry)
  exact getmeth_ok I1 ea c hm l (PySem.W.callWith_K0 (first := [.ref a]) I1.kIn hm.kp (run_g (us := [.ref a]) (xs := [.ref a]) F hr hgd hb tk I1 (.cons rfl .nil) q))
/-- C(..) -/
def tMakeG (C : Addr) (sp : Sp) (W : WX) (t : TA) : TE := fun σ H Q => t σ H fun xs H1 => ∀ y dx, H1 y = none → H1 dx = none → dx ≠ y →
  sp (.ref y :: xs) (upd (upd H1 dx (.own y)) y (.ins C dx [])) (fun v H2 => v = .non ∧ Q (.ref y) H2) (WE W σ)
theorem guards_make {A : Around} {C : Addr} {us : List Value} {kw : List (Str × Value)} : (A.under (.builtin "type.__call__" ⟨.ref C :: us, kw⟩)).guards = A.guards := by
  first | rfl | simp [Around.under, Code.weight, Code.isCreation, Code.isGuard, Code.isCaller, Code.frames, Code.isFrame, guardIds]
theorem run_mk {pins : List (Addr × Obj)} {σ : L2.St} {H : Hp} {s : Shared} {Q : VK} {us : List Value} {xs : List V} (M : Mk X.K C f) (F : FnG X.prog X.w X.K X.mg X.base k f fd ps sp) (hr : RoomL (k + 2) X.A)
    (hgd : X.A.guards = some []) (hb : Binds X.K fd ps []) (tk : Takes X W) (I : Inv X pins σ H s) (r : Vals xs us)
    (h : ∀ y dx, H y = none → H dx = none → dx ≠ y → sp (.ref y :: xs) (upd (upd H dx (.own y)) y (.ins C dx [])) (fun v H2 => v = .non ∧ Q (.ref y) H2) (WE W σ)) :
    wpAny (model X.prog X.w) X.A (call (.ref C) us) (EP X pins σ Q) X.xe s := by
  have ne : s.heap.objs.size ≠ s.heap.objs.size + 1 := Nat.ne_of_lt (Nat.lt_succ_self _)
  have q0 := h (s.heap.objs.size + 1) s.heap.objs.size (I.hok.fresh (Nat.le_succ _)) (I.hok.fresh (Nat.le_refl _)) ne
  have I2 := Inv.made (C := C) I
  have rr : Vals (V.ref (s.heap.objs.size + 1) :: xs) (Value.ref (s.heap.objs.size + 1) :: us) := .cons rfl r
  have hl : ((Value.ref (s.heap.objs.size + 1) :: us) ++ []).length = ps.length := by rw [List.append_nil, ← rr.length]; exact F.len _ _ _ _ q0
  have bb := hb _ (Value.ref (s.heap.objs.size + 1) :: us) I2.kIn hl
  rw [List.append_nil] at bb
  refine wpAny_call (make_map (f := f) I.kIn M.makes M.init (beq_iff_eq.mp M.fn) (codeAny_mono (F.run _ X.stack _ _ ⟨Value.ref (s.heap.objs.size + 1) :: us, []⟩ _ _ _ (WE W σ) (hr.make C us [])
    (guards_make.trans hgd) (I2.env0.make C us []) bb rr q0) fun res s2 q => ?_))
  match res, q with
  | .error ev, q => exact passAt tk σ pins _ _ ev s2 I2 q
  | .ok (.ret u), q =>
    obtain ⟨v, H3, I3, rv, ev, q3⟩ := I2.after q
    subst ev
    exact ⟨rv, ⟨V.ref (s.heap.objs.size + 1), H3, I3, rfl, q3⟩⟩
theorem pe_makeG (M : Mk X.K C f) (F : FnG X.prog X.w X.K X.mg X.base k f fd ps sp) (hr : RoomL (k + 2) X.A) (hgd : X.A.guards = some []) (hg : Gl X x) (hm : X.mg x = some (.ref C))
    (hb : Binds X.K fd ps []) (tk : Takes X W) (ha : PA X (e :: es) t) (hdb : (x == ("__debug__" : Str)) = false) (he : starEach (e :: es) X.env = (false, eval e X.env) :: starEach es X.env)
    (hpl : (backTo pos (starEach es X.env)).any (·.1) = false) : PE X (.Call (.Name x p) (e :: es) [] pos) (tMakeG C sp W t) :=
  ⟨fun pins s σ H Q I h => wpAny_Call_Name_kw (ld_glob I hg hm
    (PySem.W.callWith_K (h₀ := X.base) I.ok.mod.kin M.kp (thn (ha.run pos pins s σ H _ I h) fun us s1 ⟨xs, H1, I1, r, q⟩ => ⟨I1.kIn, run_mk M F hr hgd hb tk I1 r q⟩) he hpl) hdb)⟩
theorem pe_makeG0 (M : Mk X.K C f) (F : FnG X.prog X.w X.K X.mg X.base k f fd ps sp) (hr : RoomL (k + 2) X.A) (hgd : X.A.guards = some []) (hg : Gl X x) (hm : X.mg x = some (.ref C))
    (hb : Binds X.K fd ps []) (tk : Takes X W) (hdb : (x == ("__debug__" : Str)) = false) : PE X (.Call (.Name x p) [] [] pos) (tMakeG C sp W tNil) :=
  ⟨fun pins s σ H Q I h => wpAny_Call_Name_kw (ld_glob I hg hm (PySem.W.callWith_K0 I.kIn M.kp (run_mk (us := []) M F hr hgd hb tk I .nil h)) hdb)⟩
end
/-! ### the data layer's promise -/
abbrev Fn := List D → Sto → R D
def spD (K : PySem.W.Frag) (cf : CF) (n : Nat) (r : Fn) : Sp := fun xs H Q E => xs.length = n ∧ ∃ rv ρ st ds, Reps K ⟨cf, rv⟩ ρ st.length H ds xs ∧ SRep K ⟨cf, rv⟩ ρ H st ∧
  Post K ⟨cf, rv⟩ (fun c d _ H => E c d H) ρ st.length H (r ds st) (KD K ⟨cf, rv⟩ Q)
/-- a raise leaves the slots as they are -/
def exAt {α : Type} (τ : Ti) : R α → R α
  | .ex c fs _ st => .ex c fs τ st
  | r => r
def fCall (r : Fn) (h : FA) : FE := fun τ st => (h τ st).bind fun ds st1 => exAt τ (r ds st1)
/-- a body's end -/
def runB (u : FS) (N : Nat) : Fn := fun ds st => (u (ds.map some ++ List.replicate (N - ds.length) none) st).bind fun o st1 => match o with
  | .rt d => .ok d st1
  | .nx _ => .ok .non st1
  | _ => .bad
/-- a def that may be called by its name -/
structure CalG (P : Program) (w : World) (K : PySem.W.Frag) (mg : Str → Option Value) (base : Heap) (cf : CF) (k : Nat) (x : Str) (n : Nat) (r : Fn) : Prop where
  ex : ∃ (f : Addr) (fd : FuncData) (ps : List Str), FnG P w K mg base k f fd ps (spD K cf n r) ∧ mg x = some (.ref f) ∧ PySem.W.keepIn K (.ref f) = true ∧ Binds K fd ps []
structure MetG (P : Program) (w : World) (K : PySem.W.Frag) (mg : Str → Option Value) (base : Heap) (cf : CF) (k : Nat) (c m : Str) (n : Nat) (r : Fn) : Prop where
  ex : ∃ (C f : Addr) (fd : FuncData) (ps : List Str), cf c = some C ∧ Cls K C ∧ Meth K C m f ∧ FnG P w K mg base k f fd ps (spD K cf n r) ∧ Binds K fd ps []
structure MakG (P : Program) (w : World) (K : PySem.W.Frag) (mg : Str → Option Value) (base : Heap) (cf : CF) (k : Nat) (c : Str) (n : Nat) (r : Fn) : Prop where
  ex : ∃ (C f : Addr) (fd : FuncData) (ps : List Str), cf c = some C ∧ mg c = some (.ref C) ∧ Mk K C f ∧ FnG P w K mg base k f fd ps (spD K cf n r) ∧ Binds K fd ps []
section
variable {X : Cx} {ca : CA} {W : WX} {k j n : Nat} {x c m : Str} {p pos apos : Pos} {e o : Expr} {es : List Expr} {f : FE} {h : FA} {r : Fn}
theorem Post.atCall {ρ : Nat → Addr} {n : Nat} {H : Hp} {τ : Ti} {σ : L2.St} {q : R D} {F : D → (Nat → Addr) → Sto → Hp → Prop} {K : PySem.W.Frag} (sl : Slots K ca ρ n H τ σ)
    (h : Post K ca W ρ n H (exAt τ q) F) : Post K ca (fun c d _ H => WE W σ c d H) ρ n H q F := by
  cases q with
  | ok d st => exact h
  | bad => exact h
  | ex c fs τ' st => exact fun C σ' dx H' ρ' e x _ r s => h C σ dx H' ρ' e x (sl.ext x) r s
theorem call_spD {K : PySem.W.Frag} {σ : L2.St} {H : Hp} {Q : VK} {τ : Ti} {st : Sto} {ρ : Nat → Addr} {ds : List D} {xs : List V} (sl : Slots K ca ρ st.length H τ σ) (s : SRep K ca ρ H st) (rs : Reps K ca ρ st.length H ds xs) (hn : xs.length = n)
    (h : Post K ca W ρ st.length H (exAt τ (r ds st)) (KD K ca Q)) : spD K ca.f n r xs H Q (WE W σ) :=
  ⟨hn, ca.rv, ρ, st, ds, rs, s, h.atCall sl⟩
theorem pa_len {n : Nat} {K : PySem.W.Frag} (hn : es.length = n) {f : FA} : True := trivial
/-- how many values an argument list has -/
def lenA (n : Nat) (h : FA) : FA := fun τ st => (h τ st).bind fun ds st1 => if ds.length = n then .ok ds st1 else .bad
def fCallN (n : Nat) (r : Fn) (h : FA) : FE := fun τ st => (h τ st).bind fun ds st1 => if ds.length = n then exAt τ (r ds st1) else .bad
theorem je_call (cl : CalG X.prog X.w X.K X.mg X.base ca.f k x n r) (hr : RoomL j X.A) (hj : k ≤ j) (hgd : X.A.guards = some []) (tk : Takes X W) (hg : Gl X x) (ha : JA X ca W (e :: es) h)
    (hdb : (x == ("__debug__" : Str)) = false := by decide) (he : starEach (e :: es) X.env = (false, eval e X.env) :: starEach es X.env := by rfl)
    (hpl : (backTo pos (starEach es X.env)).any (·.1) = false := by rfl) : JE X ca W (.Call (.Name x p) (e :: es) [] pos) (fCallN n r h) := by
  obtain ⟨f, fd, ps, F, hm, hk, hb⟩ := cl.ex
  refine pe_imp (pe_callG F (hr.mono hj) hgd hg hm hk hb tk ha hdb he hpl) fun σ H Q ⟨ρ, st, τ, sl, s, h⟩ => ?_
  refine at_of sl s h fun ds ρ1 st1 H1 x1 sl1 s1 h1 xs rs => ?_
  by_cases z : ds.length = n
  · rw [if_pos z] at h1; exact call_spD sl1 s1 rs (by rw [rs.length]; exact z) h1
  · rw [if_neg z] at h1; exact h1.elim
theorem je_call0 (cl : CalG X.prog X.w X.K X.mg X.base ca.f k x 0 r) (hr : RoomL j X.A) (hj : k ≤ j) (hgd : X.A.guards = some []) (tk : Takes X W) (hg : Gl X x)
    (hdb : (x == ("__debug__" : Str)) = false := by decide) : JE X ca W (.Call (.Name x p) [] [] pos) (fCallN 0 r aNil) := by
  obtain ⟨f, fd, ps, F, hm, hk, hb⟩ := cl.ex
  refine pe_imp (pe_callG0 F (hr.mono hj) hgd hg hm hk hb tk hdb) fun σ H Q ⟨ρ, st, τ, sl, s, h⟩ => ?_
  exact call_spD sl s Reps.nil rfl h
def insOf (st : Sto) (c : Str) : D → Option (List (Str × D))
  | .obj i => match st[i]? with
    | some (.ins c' fs) => if c' = c then some fs else none
    | _ => none
  | _ => none
theorem insOf_rep {K : PySem.W.Frag} {ρ : Nat → Addr} {st : Sto} {H : Hp} {d : D} {fs : List (Str × D)} {v : V} (s : SRep K ca ρ H st) (q : insOf st c d = some fs) (rv : Rep K ca ρ st.length H d v) :
    ∃ a C dx ws, v = .ref a ∧ ca.f c = some C ∧ H a = some (.ins C dx ws) ∧ H dx = some (.own a) ∧ RepKV K ca ρ st.length H fs ws := by
  cases d with
  | obj i =>
    simp only [insOf] at q
    cases e : st[i]? with
    | none => simp [e] at q
    | some mo =>
      cases mo with
      | ins c' fs' =>
        simp only [e] at q
        split at q
        · rename_i z
          cases q
          subst z
          simp only [Rep] at rv
          obtain ⟨C, dx, ws, hc, ha, hd, rk⟩ := s.at_ i _ e
          exact ⟨_, C, dx, ws, rv.2, hc, ha, hd, rk⟩
        · cases q
      | _ => simp [e] at q
  | _ => simp [insOf] at q
theorem RepKV.lookup {K : PySem.W.Frag} {ρ : Nat → Addr} {n : Nat} {H : Hp} {y : Str} : ∀ {fs : List (Str × D)} {ws : List (Str × V)}, RepKV K ca ρ n H fs ws →
    (fs.lookup y = none ∧ ws.lookup y = none) ∨ ∃ d v, fs.lookup y = some d ∧ ws.lookup y = some v ∧ Rep K ca ρ n H d v
  | [], ws, r => by simp only [RepKV] at r; subst r; exact .inl ⟨rfl, rfl⟩
  | p :: fs, ws, r => by
    simp only [RepKV] at r
    obtain ⟨v, rs, rfl, r1, r2⟩ := r
    by_cases z : y = p.1
    · have zb : (y == p.1) = true := beq_iff_eq.mpr z
      exact .inr ⟨p.2, v, by rw [List.lookup_cons, zb], by rw [List.lookup_cons, zb], r1⟩
    · have zb : (y == p.1) = false := beq_eq_false_iff_ne.mpr z
      rcases RepKV.lookup (y := y) r2 with ⟨h1, h2⟩ | ⟨d, u, h1, h2, h3⟩
      · exact .inl ⟨by rw [List.lookup_cons, zb]; exact h1, by rw [List.lookup_cons, zb]; exact h2⟩
      · exact .inr ⟨d, u, by rw [List.lookup_cons, zb]; exact h1, by rw [List.lookup_cons, zb]; exact h2, h3⟩
def fMethN (c m : Str) (n : Nat) (r : Fn) (f : FE) (h : FA) : FE := fun τ st => (f τ st).bind fun d st1 => match insOf st1 c d with
  | some fs => if fs.lookup m = none then (h τ st1).bind fun ds st2 => if ds.length + 1 = n then exAt τ (r (d :: ds) st2) else .bad else .bad
  | none => .bad
theorem je_meth {pl : Sem Bool} (cl : MetG X.prog X.w X.K X.mg X.base ca.f k c m n r) (hr : RoomL j X.A) (hj : k ≤ j) (hgd : X.A.guards = some []) (tk : Takes X W) (ho : JE X ca W o f) (ha : JA X ca W (e :: es) h)
    (hst : starEach (e :: es) X.env = (false, eval e X.env) :: starEach es X.env := by rfl) (hpl : (backTo pos (starEach es X.env)).any (·.1) = false := by rfl)
    (ht : MethTree pl o m apos pos (e :: es) X.env := by rfl) : JE X ca W (.Call (.Attribute o m apos) (e :: es) [] pos) (fMethN c m n r f h) := by
  obtain ⟨C, g, fd, ps, hc, hC, hm, F, hb⟩ := cl.ex
  refine pe_imp (pe_methG (pl := pl) ho hC hm F (hr.mono hj) hgd hb tk ha hst hpl ht) fun σ H Q ⟨ρ, st, τ, sl, s, h⟩ => ?_
  refine at_of sl s h fun d ρ1 st1 H1 x1 sl1 s1 h1 v rv => ?_
  cases q : insOf st1 c d with
  | none => simp only [q] at h1; exact h1.elim
  | some fs =>
    simp only [q] at h1
    obtain ⟨a, C', dx, ws, rfl, hc', ha', _, rk⟩ := insOf_rep s1 q rv
    rw [hc] at hc'; cases hc'
    by_cases l : fs.lookup m = none
    · rw [if_pos l] at h1
      have l' : ws.lookup m = none := by
        rcases rk.lookup (y := m) with ⟨_, h2⟩ | ⟨d, u, h1, _⟩
        · exact h2
        · rw [l] at h1; cases h1
      refine ⟨a, dx, ws, rfl, ha', l', at_of sl1 s1 h1 fun ds ρ2 st2 H2 x2 sl2 s2 h2 xs rs => ?_⟩
      by_cases z : ds.length + 1 = n
      · rw [if_pos z] at h2
        exact call_spD sl2 s2 (Reps.cons (rv.ext x2) rs) (by rw [List.length_cons, rs.length]; exact z) h2
      · rw [if_neg z] at h2; exact h2.elim
    · rw [if_neg l] at h1; exact h1.elim
theorem je_meth0 {pl : Sem Bool} (cl : MetG X.prog X.w X.K X.mg X.base ca.f k c m n r) (hr : RoomL j X.A) (hj : k ≤ j) (hgd : X.A.guards = some []) (tk : Takes X W) (ho : JE X ca W o f)
    (ht : MethTree pl o m apos pos [] X.env := by rfl) : JE X ca W (.Call (.Attribute o m apos) [] [] pos) (fMethN c m n r f aNil) := by
  obtain ⟨C, g, fd, ps, hc, hC, hm, F, hb⟩ := cl.ex
  refine pe_imp (pe_methG0 (pl := pl) ho hC hm F (hr.mono hj) hgd hb tk ht) fun σ H Q ⟨ρ, st, τ, sl, s, h⟩ => ?_
  refine at_of sl s h fun d ρ1 st1 H1 x1 sl1 s1 h1 v rv => ?_
  cases q : insOf st1 c d with
  | none => simp only [q] at h1; exact h1.elim
  | some fs =>
    simp only [q] at h1
    obtain ⟨a, C', dx, ws, rfl, hc', ha', _, rk⟩ := insOf_rep s1 q rv
    rw [hc] at hc'; cases hc'
    by_cases l : fs.lookup m = none
    · rw [if_pos l] at h1
      have l' : ws.lookup m = none := by
        rcases rk.lookup (y := m) with ⟨_, h2⟩ | ⟨d, u, h1, _⟩
        · exact h2
        · rw [l] at h1; cases h1
      refine ⟨a, dx, ws, rfl, ha', l', ?_⟩
      replace h1 : Post X.K ca W ρ1 st1.length H1 (if ([] : List D).length + 1 = n then exAt τ (r [d] st1) else .bad) (KD X.K ca Q) := h1
      by_cases z : ([] : List D).length + 1 = n
      · rw [if_pos z] at h1
        exact call_spD sl1 s1 (Reps.cons rv Reps.nil) z h1
      · rw [if_neg z] at h1; exact h1.elim
    · rw [if_neg l] at h1; exact h1.elim
def fMakeN (c : Str) (n : Nat) (r : Fn) (h : FA) : FE := fun τ st => (h τ st).bind fun ds st1 => if ds.length + 1 = n then (exAt τ (r (.obj st1.length :: ds) (st1 ++ [.ins c []]))).bind fun d st2 => match d with
  | .non => .ok (.obj st1.length) st2
  | _ => .bad
  else .bad
theorem make_spD {K : PySem.W.Frag} {C : Addr} {σ : L2.St} {H : Hp} {Q : VK} {τ : Ti} {st : Sto} {ρ : Nat → Addr} {ds : List D} {xs : List V} (hc : ca.f c = some C) (sl : Slots K ca ρ st.length H τ σ) (s : SRep K ca ρ H st)
    (rs : Reps K ca ρ st.length H ds xs) (hn : xs.length + 1 = n)
    (h : Post K ca W ρ st.length H ((exAt τ (r (.obj st.length :: ds) (st ++ [.ins c []]))).bind fun d st2 => match d with | .non => .ok (.obj st.length) st2 | _ => .bad) (KD K ca Q)) :
    ∀ y dx, H y = none → H dx = none → dx ≠ y → spD K ca.f n r (.ref y :: xs) (upd (upd H dx (.own y)) y (.ins C dx [])) (fun v H2 => v = .non ∧ Q (.ref y) H2) (WE W σ) := by
  intro y dx hy hd hne
  have kp : ∀ a u, H a = some u → upd (upd H dx (.own y)) y (.ins C dx []) a = some u := fun a u e => by
    rw [upd_ne (ne_of_none e hy), upd_ne (ne_of_none e hd)]; exact e
  have x1 := Ext.more s hy kp
  have s1 : SRep K ca (more ρ st.length y) (upd (upd H dx (.own y)) y (.ins C dx [])) (st ++ [.ins c []]) :=
    s.more hy kp ⟨C, dx, [], hc, upd_same, by rw [upd_ne hne, upd_same], by simp only [RepKV]⟩
  have x1' : Ext ρ st.length H (more ρ st.length y) (st ++ [MO.ins c []]).length (upd (upd H dx (.own y)) y (.ins C dx [])) := by
    rw [List.length_append, List.length_singleton]; exact x1
  refine ⟨by rw [List.length_cons]; exact hn, ca.rv, more ρ st.length y, st ++ [.ins c []], .obj st.length :: ds, Reps.cons (rep_obj_new _) (rs.ext x1'), s1, ?_⟩
  have h2 : Post K ca W (more ρ st.length y) (st ++ [MO.ins c []]).length (upd (upd H dx (.own y)) y (.ins C dx [])) (exAt τ (r (.obj st.length :: ds) (st ++ [.ins c []]))) _ := Post.bind (Post.pre x1' h)
  refine (h2.atCall (sl.ext x1')).mono fun d ρ2 st2 H2 x2 s2 q v rv => ?_
  obtain ⟨x3, s3, q⟩ := q
  cases d with
  | non =>
    simp only [Rep] at rv
    refine ⟨rv, q.here s2 _ ?_⟩
    have r0 : Rep K ca (more ρ st.length y) (st ++ [MO.ins c []]).length (upd (upd H dx (.own y)) y (.ins C dx [])) (.obj st.length) (.ref y) := rep_obj_new _
    exact r0.ext x2
  | _ => exact q.elim
theorem je_make (cl : MakG X.prog X.w X.K X.mg X.base ca.f k c n r) (hr : RoomL j X.A) (hj : k + 2 ≤ j) (hgd : X.A.guards = some []) (tk : Takes X W) (hg : Gl X c) (ha : JA X ca W (e :: es) h)
    (hdb : (c == ("__debug__" : Str)) = false := by decide) (he : starEach (e :: es) X.env = (false, eval e X.env) :: starEach es X.env := by rfl)
    (hpl : (backTo pos (starEach es X.env)).any (·.1) = false := by rfl) : JE X ca W (.Call (.Name c p) (e :: es) [] pos) (fMakeN c n r h) := by
  obtain ⟨C, f, fd, ps, hc, hm, M, F, hb⟩ := cl.ex
  refine pe_imp (pe_makeG M F (hr.mono hj) hgd hg hm hb tk ha hdb he hpl) fun σ H Q ⟨ρ, st, τ, sl, s, h⟩ => ?_
  refine at_of sl s h fun ds ρ1 st1 H1 x1 sl1 s1 h1 xs rs => ?_
  by_cases z : ds.length + 1 = n
  · rw [if_pos z] at h1; exact make_spD hc sl1 s1 rs (by rw [rs.length]; exact z) h1
  · rw [if_neg z] at h1; exact h1.elim
theorem je_make0 (cl : MakG X.prog X.w X.K X.mg X.base ca.f k c 1 r) (hr : RoomL j X.A) (hj : k + 2 ≤ j) (hgd : X.A.guards = some []) (tk : Takes X W) (hg : Gl X c)
    (hdb : (c == ("__debug__" : Str)) = false := by decide) : JE X ca W (.Call (.Name c p) [] [] pos) (fMakeN c 1 r aNil) := by
  obtain ⟨C, f, fd, ps, hc, hm, M, F, hb⟩ := cl.ex
  refine pe_imp (pe_makeG0 M F (hr.mono hj) hgd hg hm hb tk hdb) fun σ H Q ⟨ρ, st, τ, sl, s, h⟩ => ?_
  exact make_spD hc sl s Reps.nil rfl h
end
/-! ### the body -/
/-- what stands around a body -/
structure Cz (X : Cx) (W : WX) (k : Nat) : Prop where
  tk : Takes X W
  hr : RoomL k X.A
  sl : X.A.depth + frm * k + 59 + frm < recursionLimit
  hg : X.A.guards = some []
  hc : X.calm = true
theorem Cz.blk {X : Cx} {W : WX} {k : Nat} (z : Cz X W k) {s : Shared} {H : Hp} {scope : Scope} {cenv : Env} {fp : List Addr} : Cz (X.blk s H scope cenv fp) W0 k := ⟨takes0, z.hr, z.sl, z.hg, z.hc⟩
theorem Cz.deep2 {X : Cx} {W : WX} {k : Nat} (z : Cz X W k) : X.A.units + 2002 < cLine := by
  have := z.hr.un
  omega
theorem Cz.deep {X : Cx} {W : WX} {k : Nat} (z : Cz X W k) : Deep X := by
  have := z.hr.un
  show X.A.units + 65 < cLine
  omega
section
variable {P : Program} {w : World} {K : PySem.W.Frag} {mg : Str → Option Value} {base : Heap} {k n : Nat} {f : Addr} {fd : FuncData} {N ps : List Str}
theorem slots_start {K : PySem.W.Frag} {ca : CA} {ρ : Nat → Addr} {n : Nat} {H : Hp} {ds : List D} {xs : List V} (N : List Str) (r : Reps K ca ρ n H ds xs) : Slots K ca ρ n H (ds.map some ++ List.replicate (N.length - ds.length) none) (L2.start N xs) := by
  have hl := r.length
  refine ⟨by unfold L2.start; simp [hl], fun i d e => ?_⟩
  have hi : i < ds.length := by
    by_cases hi : i < ds.length
    · exact hi
    · rw [List.getElem?_append_right (by simpa using hi), List.getElem?_replicate] at e
      split at e <;> cases e
  rw [List.getElem?_append_left (by simpa using hi), List.getElem?_map] at e
  cases q : ds[i]? with
  | none => rw [q] at e; cases e
  | some d' =>
    rw [q] at e
    cases e
    obtain ⟨v, q', rv⟩ := r.get q
    refine ⟨v, ?_, rv⟩
    unfold L2.start
    rw [List.getElem?_append_left (by simpa [hl] using hi), List.getElem?_map, q']
    rfl
theorem fnG_of {x qual : Str} {params : Arguments} {body : List Stmt} {scope : Scope} {cf : CF} {u : FS} (F : FunD K x qual params body scope [] [] f fd) (S : FnScope N ps scope)
    (hbody : ∀ (cdv : Value), (∃ oc od osl c, K.lookup f = some ⟨oc, od, .func fd, osl⟩ ∧ fd.code = .ref c ∧ cdv = .ref c) → ∀ (A : Around) (outer : List Env) (s : Shared) (H : Hp) (E : XK) (rv : List Addr),
      Cz (cxOf (L2.CX P w) P w K mg base N qual scope f cdv A outer s H E) (fun c d _ H => E c d H) k → PassesOwn (model P w) (A.deeper (envOfC qual scope s.heap.objs.size f cdv)) (envOfC qual scope s.heap.objs.size f cdv) (cxOf (L2.CX P w) P w K mg base N qual scope f cdv A outer s H E).xe →
      JSs (cxOf (L2.CX P w) P w K mg base N qual scope f cdv A outer s H E) ⟨cf, rv⟩ (fun c d _ H => E c d H) body u) :
    FnG P w K mg base (k + 1) f fd ps (spD K cf ps.length (runB u N.length)) := by
  obtain ⟨oc, od, dV, kV, doc, pm, an, cdv, ct, osl, rfl, lk, hcd, _, _⟩ := F.ex
  have cdi : ∃ oc1 od1 osl1 c, K.lookup f = some ⟨oc1, od1, .func (PySem.W.fnOf x qual params body scope dV kV doc pm an cdv ct), osl1⟩ ∧ (PySem.W.fnOf x qual params body scope dV kV doc pm an cdv ct).code = .ref c ∧ cdv = .ref c := by
    cases cdv with
    | ref c => exact ⟨_, _, _, c, lk, rfl, rfl⟩
    | _ => cases hcd
  refine ⟨fun xs H Q E h => h.1, fun A outer s H args us xs Q E hr hg e0 hb r hsp => ?_⟩
  have KX : K.In s.heap := e0.mod.kin.keeps fun b o q => (e0.bs b o q).1
  have nl : s.heap.NoLimit := e0.mod.nolimit.keeps fun b o q => (e0.bs b o q).1
  have kd : ∀ y ∈ ps.zip us, scope.names.lookup y.1 = some .local ∨ (scope.names.lookup y.1 = some .cell ∧ ((cellsFrom (s.heap.objs.size + 1) scope.names []).lookup y.1).isSome = true) := fun y hy =>
    (S.par y.1 (List.of_mem_zip (a := y.1) (b := y.2) hy).1).elim .inl fun q => .inr ⟨q, PySem.W.cellsFrom_some _ _ _ (.inl q)⟩
  refine codeAny_call_function hr.depth (KX _ _ lk) rfl S.co S.gen rfl (PySem.W.codeRec_of KX hcd) (hb _ _ _ _ (wpAny_newFunctionEnv_cells S.kind kd fun env he s1 hx => ?_))
  subst he
  refine ⟨nl.keeps hx.toInCall.keep, codeAny_func ?_⟩
  obtain ⟨hl, rv, ρ, st, ds, rs, sr, hp⟩ := hsp
  have tk : Takes (cxOf (L2.CX P w) P w K mg base N qual scope f cdv A outer s H E) (fun c d _ H => E c d H) := takes_of rfl rfl rfl rfl
  have cz : Cz (cxOf (L2.CX P w) P w K mg base N qual scope f cdv A outer s H E) (fun c d _ H => E c d H) k := ⟨tk, hr.deeper _, (by have := hr.dp; rw [Nat.mul_succ] at this; show A.depth + 1 + frm * k + 59 + frm < _; omega), hg, rfl⟩
  have po : PassesOwn (model P w) (A.deeper (envOfC qual scope s.heap.objs.size f cdv)) (envOfC qual scope s.heap.objs.size f cdv) (cxOf (L2.CX P w) P w K mg base N qual scope f cdv A outer s H E).xe := passes_of (X := cxOf (L2.CX P w) P w K mg base N qual scope f cdv A outer s H E) rfl
  have I : Inv (cxOf (L2.CX P w) P w K mg base N qual scope f cdv A outer s H E) [] (L2.start N xs) H s1 := inv_start S hr.hd e0 hl r hx
  have done : ∀ {σ' : L2.St} {H' : Hp} {v : V} {z : Value} {s2 : Shared}, Inv (cxOf (L2.CX P w) P w K mg base N qual scope f cdv A outer s H E) [] σ' H' s2 → RelV v z → Q v H' → CE outer P w H s Q z s2 :=
    fun {σ' H' v z s2} J rv q => ⟨v, H', J.os, J.bare, J.base, J.hok, rv, q⟩
  have q0 : tDS K ⟨cf, rv⟩ (fun c d _ H => E c d H) u { nx := fun _ H' => Q .non H', rt := Q } (L2.start N xs) H := by
    refine at_of (slots_start N rs) sr (f := u) (σ := L2.start N xs) hp fun o ρ1 st1 H1 x1 sl1 s1 h1 => ?_
    cases o with
    | nx τ1 => exact fun σ1 _ => h1.here s1 _ (by simp only [Rep])
    | rt d => exact fun v r => h1.here s1 v r
    | bk τ1 => exact h1.elim
    | ct τ1 => exact h1.elim
  refine wpAny_mono ((hbody cdv cdi A outer s H E rv cz po).run [] s1 (L2.start N xs) H _ I q0) (fun fl s2 hs => ?_) fun _ _ hs => hs
  match fl, hs with
  | .ret z, ⟨v, σ', H', J, rv', q⟩ => exact done J rv' q
  | .next, ⟨σ', H', J, q⟩ => exact done (v := V.non) (z := Value.none) J rfl q
  | .brk, ⟨_, _, _, q⟩ => exact False.elim q
  | .cont, ⟨_, _, _, q⟩ => exact False.elim q
end
end DL
set_option Elab.async false
set_option linter.all false
set_option maxRecDepth 100000
set_option maxHeartbeats 4000000
namespace DL
open PySem PySem.Spec PyProof.Rows L2
section
variable {X : Cx} {ca : CA} {W : WX} {a b c e o : Expr} {es rest : List Expr} {f g k : FE} {h : FA} {pos p apos : Pos} {x : Str}
/-! ### built-ins by name -/
theorem CallR.imp {f : Value} {r r' : List V → Hp → VK → Prop} (h : CallR X f r) (i : ∀ xs H Q, r' xs H Q → r xs H Q) : CallR X f r' := fun pins s σ H xs us Q I rv q => h pins s σ H xs us Q I rv (i _ _ _ q)
theorem CallR.or {f : Value} {r r' : List V → Hp → VK → Prop} (h : CallR X f r) (h' : CallR X f r') : CallR X f (fun xs H Q => r xs H Q ∨ r' xs H Q) := fun pins s σ H xs us Q I rv q => q.elim (h pins s σ H xs us Q I rv) (h' pins s σ H xs us Q I rv)
def fB (r : Fn) (h : FA) : FE := fun τ st => (h τ st).bind fun ds st1 => r ds st1
theorem je_callB {id : String} {r : Fn} (hc : CallR X (.builtin id) (rDL ca X.K r)) (hn : ∀ ds st, NoEx (r ds st)) (hg : Gl X x) (hm : X.mg x = none) (hv : bootBuiltins x = some (.builtin id)) (ha : JA X ca W (e :: es) h)
    (hnm : x ≠ "__name__" := by decide) (hdb : (x == ("__debug__" : Str)) = false := by decide) (he : starEach (e :: es) X.env = (false, eval e X.env) :: starEach es X.env := by rfl)
    (hpl : (backTo pos (starEach es X.env)).any (·.1) = false := by rfl) : JE X ca W (.Call (.Name x p) (e :: es) [] pos) (fB r h) :=
  pe_imp (pe_callB hc hg hm hv ha hnm hdb he hpl) fun σ H Q ⟨ρ, st, τ, sl, s, h⟩ => at_of sl s h fun ds ρ1 st1 H1 x1 sl1 s1 h1 xs rs => ⟨ρ1, st1, ds, rs, s1, h1.nox (hn _ _)⟩
theorem je_callTy {T : String} {r : Fn} (hc : CallR X (.type T) (rDL ca X.K r)) (hn : ∀ ds st, NoEx (r ds st)) (hg : Gl X x) (hm : X.mg x = none) (hv : bootBuiltins x = some (.type T)) (ha : JA X ca W (e :: es) h)
    (hnm : x ≠ "__name__" := by decide) (hdb : (x == ("__debug__" : Str)) = false := by decide) (he : starEach (e :: es) X.env = (false, eval e X.env) :: starEach es X.env := by rfl)
    (hpl : (backTo pos (starEach es X.env)).any (·.1) = false := by rfl) : JE X ca W (.Call (.Name x p) (e :: es) [] pos) (fB r h) :=
  pe_imp (pe_callTy hc hg hm hv ha hnm hdb he hpl) fun σ H Q ⟨ρ, st, τ, sl, s, h⟩ => at_of sl s h fun ds ρ1 st1 H1 x1 sl1 s1 h1 xs rs => ⟨ρ1, st1, ds, rs, s1, h1.nox (hn _ _)⟩
section
variable {K : PySem.W.Frag} {ρ : Nat → Addr} {n : Nat} {H : Hp}
theorem Reps.one {d : D} {xs : List V} (r : Reps K ca ρ n H [d] xs) : ∃ v, xs = [v] ∧ Rep K ca ρ n H d v := by
  simp only [Reps] at r
  obtain ⟨v, t, rfl, rv, rfl⟩ := r
  exact ⟨v, rfl, rv⟩
theorem Reps.two {d e : D} {xs : List V} (r : Reps K ca ρ n H [d, e] xs) : ∃ v u, xs = [v, u] ∧ Rep K ca ρ n H d v ∧ Rep K ca ρ n H e u := by
  simp only [Reps] at r
  obtain ⟨v, t, rfl, rv, u, t', rfl, ru, rfl⟩ := r
  exact ⟨v, u, rfl, rv, ru⟩
end
/-! len -/
def lenD (st : Sto) (d : D) : Option Nat := match d with
  | .str y => if y.length ≤ sizeLine then some y.length else none
  | .obj i => match st[i]? with
    | some (.lst ds) => some ds.length
    | some (.dic kvs) => some kvs.length
    | _ => none
  | d => (seqOf st d).map (·.length)
def oLen : Fn := fun ds st => match ds with
  | [d] => match lenD st d with
    | some n => .ok (.int n) st
    | none => .bad
  | _ => .bad
theorem nox_okint {d : D} {st : Sto} : NoEx (.ok d st : R D) := fun _ _ _ _ z => nomatch z
theorem nox_bad {α : Type} : NoEx (.bad : R α) := fun _ _ _ _ z => nomatch z
theorem oLen_nox (ds : List D) (st : Sto) : NoEx (oLen ds st) := by
  intro c fs τ st' q
  unfold oLen at q
  split at q
  · split at q <;> cases q
  · cases q
theorem cr_len : CallR X (.builtin "len") (rDL ca X.K oLen) := CallR.imp (CallR.or call_len call_lenD) fun xs H Q ⟨ρ, st, ds, rs, s, q⟩ => by
  match ds, rs, q with
  | [d], rs, q =>
    obtain ⟨v, rfl, rv⟩ := rs.one
    simp only [oLen] at q
    cases hl : lenD st d with
    | none => simp only [hl] at q; exact q.elim
    | some m =>
      simp only [hl] at q
      have fin : Q (.int m) H := q.here s _ (by simp only [Rep])
      have seq : ∀ {ds : List D}, seqOf st d = some ds → m = ds.length → ((∃ x n, [v] = [x] ∧ LenV X.K x H n ∧ Q (.int n) H)) := fun {ds} e em => by
        obtain ⟨a, xs, rfl, hq, rr⟩ := seqOf_rep s e rv
        refine ⟨_, m, rfl, ?_, fin⟩
        rcases hq with hq | hq
        · exact .inl ⟨xs, hq, by rw [em, rr.length]⟩
        · exact .inr ⟨xs, hq, by rw [em, rr.length]⟩
      cases d with
      | str y =>
        simp only [lenD] at hl
        split at hl
        · rename_i z
          cases hl
          simp only [Rep] at rv
          subst rv
          exact .inl ⟨_, _, rfl, ⟨z, rfl⟩, fin⟩
        · cases hl
      | obj i =>
        simp only [lenD] at hl
        cases e : st[i]? with
        | none => simp [e] at hl
        | some mo =>
          cases mo with
          | lst es => simp only [e, Option.some.injEq] at hl; exact .inl (seq (by simp only [seqOf, listOf, e]) hl.symm)
          | dic kvs =>
            simp only [e, Option.some.injEq] at hl
            simp only [Rep] at rv
            obtain ⟨ws, ha, rr⟩ := s.at_ i _ e
            exact .inr ⟨_, ws, by rw [rv.2], ha, by rw [rr.length, hl]; exact fin⟩
          | _ => simp [e] at hl
      | _ =>
        simp only [lenD, Option.map_eq_some_iff] at hl
        obtain ⟨es, e, em⟩ := hl
        exact .inl (seq e em.symm)
  | [], _, q => exact q.elim
  | _ :: _ :: _, _, q => exact q.elim
/-! int -/
def oInt : Fn := fun ds st => match ds with
  | [.int i] => .ok (.int i) st
  | [.bl k] => .ok (.int (if k then 1 else 0)) st
  | _ => .bad
theorem oInt_nox (ds : List D) (st : Sto) : NoEx (oInt ds st) := by
  intro c fs τ st' q
  unfold oInt at q
  split at q <;> cases q
theorem cr_int : CallR X (.type "int") (rDL ca X.K oInt) := CallR.imp call_int1 fun xs H Q ⟨ρ, st, ds, rs, s, q⟩ => by
  unfold oInt at q
  split at q
  · obtain ⟨v, rfl, rv⟩ := rs.one
    simp only [Rep] at rv
    subst rv
    exact .inl ⟨_, rfl, q.here s _ (by simp only [Rep])⟩
  · obtain ⟨v, rfl, rv⟩ := rs.one
    simp only [Rep] at rv
    subst rv
    exact .inr ⟨_, rfl, q.here s _ (by simp only [Rep])⟩
  · exact q.elim
/-! str of an int -/
def oStr : Fn := fun ds st => match ds with
  | [.int i] => if i.natAbs.log2 < 1920 then .ok (.str (toString i)) st else .bad
  | _ => .bad
theorem oStr_nox (ds : List D) (st : Sto) : NoEx (oStr ds st) := by
  intro c fs τ st' q
  unfold oStr at q
  split at q
  · split at q <;> cases q
  · cases q
theorem cr_str : CallR X (.type "str") (rDL ca X.K oStr) := CallR.imp call_str_int fun xs H Q ⟨ρ, st, ds, rs, s, q⟩ => by
  unfold oStr at q
  split at q
  · obtain ⟨v, rfl, rv⟩ := rs.one
    simp only [Rep] at rv
    subst rv
    split at q
    · rename_i z
      exact ⟨_, rfl, z, q.here s _ (by simp only [Rep])⟩
    · exact q.elim
  · exact q.elim
/-! tuple, list of a list or a tuple -/
def oTup (d : D) (st : Sto) : R D := match d with
  | .tup ds => .ok (.tup ds) st
  | .ktup ds => .ok (.ktup ds) st
  | d => match listOf st d with
    | some ds => .ok (.tup ds) st
    | none => .bad
def fTupOf (f : FE) : FE := fun τ st => (f τ st).bind fun d st1 => oTup d st1
theorem je_tupleOf (hg : Gl X "tuple") (hm : X.mg "tuple" = none) (ha : JE X ca W a f) (na : starEach [a] X.env = (false, eval a X.env) :: starEach [] X.env := by rfl) : JE X ca W (.Call (.Name "tuple" p) [a] [] pos) (fTupOf f) :=
  pe_imp (pe_tupleOf hg hm ha na) fun σ H Q ⟨ρ, st, τ, sl, s, h⟩ => at_of sl s h fun d ρ1 st1 H1 x1 sl1 s1 h1 v rv => by
    have lst : ∀ {ds : List D}, listOf st1 d = some ds → Post X.K ca W ρ1 st1.length H1 (.ok (.tup ds) st1) (KD X.K ca Q) → kTup X.K v H1 Q := fun {ds} e q => by
      obtain ⟨a, xs, rfl, hq, rr⟩ := listOf_rep s1 e rv
      exact .inl ⟨a, xs, rfl, hq, fun l hl => q _ _ (Ext.upd_new s1 hl) (s1.upd_new hl) _ (rep_tup_new s1 hl rr)⟩
    cases d with
    | tup ds =>
      have rv' := rv
      simp only [Rep] at rv'
      obtain ⟨a, xs, rfl, q, _⟩ := rv'
      exact .inr ⟨a, xs, rfl, SqT.of q, h1.here s1 _ rv⟩
    | ktup ds =>
      have rv' := rv
      simp only [Rep] at rv'
      obtain ⟨a, xs, rfl, q, _⟩ := rv'
      exact .inr ⟨a, xs, rfl, q.seq, h1.here s1 _ rv⟩
    | lv ds => exact lst (ds := ds) rfl h1
    | kl ds => exact lst (ds := ds) rfl h1
    | obj i =>
      simp only [oTup] at h1
      cases e : listOf st1 (.obj i) with
      | none => simp only [e] at h1; exact h1.elim
      | some ds => simp only [e] at h1; exact lst e h1
    | _ => exact h1.elim
def oListV : Fn := fun ds st => match ds with
  | [d] => match seqOf st d with
    | some es => .ok (.lv es) st
    | none => .bad
  | _ => .bad
def oListO : Fn := fun ds st => match ds with
  | [d] => match seqOf st d with
    | some es => .ok (.obj st.length) (st ++ [.lst es])
    | none => .bad
  | _ => .bad
theorem oListV_nox (ds : List D) (st : Sto) : NoEx (oListV ds st) := by
  intro c fs τ st' q
  unfold oListV at q
  split at q
  · split at q <;> cases q
  · cases q
theorem oListO_nox (ds : List D) (st : Sto) : NoEx (oListO ds st) := by
  intro c fs τ st' q
  unfold oListO at q
  split at q
  · split at q <;> cases q
  · cases q
theorem cr_listV : CallR X (.type "list") (rDL ca X.K oListV) := CallR.imp call_list_of fun xs H Q ⟨ρ, st, ds, rs, s, q⟩ => by
  match ds, rs, q with
  | [d], rs, q =>
    obtain ⟨v, rfl, rv⟩ := rs.one
    simp only [oListV] at q
    cases e : seqOf st d with
    | none => simp only [e] at q; exact q.elim
    | some es =>
      simp only [e] at q
      obtain ⟨a, xs, rfl, hq, rr⟩ := seqOf_rep s e rv
      exact ⟨a, xs, rfl, hq, fun l hl => q _ _ (Ext.upd_new s hl) (s.upd_new hl) _ (rep_lv_new s hl rr)⟩
  | [], _, q => exact q.elim
  | _ :: _ :: _, _, q => exact q.elim
theorem cr_listO : CallR X (.type "list") (rDL ca X.K oListO) := CallR.imp call_list_of fun xs H Q ⟨ρ, st, ds, rs, s, q⟩ => by
  match ds, rs, q with
  | [d], rs, q =>
    obtain ⟨v, rfl, rv⟩ := rs.one
    simp only [oListO] at q
    cases e : seqOf st d with
    | none => simp only [e] at q; exact q.elim
    | some es =>
      simp only [e] at q
      obtain ⟨a, xs, rfl, hq, rr⟩ := seqOf_rep s e rv
      exact ⟨a, xs, rfl, hq, fun l hl => q _ _ (ext_more s hl _) (srep_lst_new s hl rr) _ (rep_obj_new _)⟩
  | [], _, q => exact q.elim
  | _ :: _ :: _, _, q => exact q.elim
/-! repr -/
def oRepr : Fn := fun ds st => match ds with
  | [d] => match toPyS st d with
    | some p => if p.showable = true ∧ p.hasDict = false ∧ p.depth ≤ 2000 ∧ p.shown.length ≤ sizeLine ∧ (seqOf st d).isSome = true then .ok (.str p.shown) st else .bad
    | none => .bad
  | _ => .bad
theorem oRepr_nox (ds : List D) (st : Sto) : NoEx (oRepr ds st) := by
  intro c fs τ st' q
  unfold oRepr at q
  split at q
  · split at q
    · split at q <;> cases q
    · cases q
  · cases q
theorem cr_repr (hg : X.A.guards = some []) (hu : X.A.units + 2002 < cLine) : CallR X (.builtin "repr") (rDL ca X.K oRepr) := by
  intro pins s σ H xs us Q I r ⟨ρ, st, ds, rs, sr, q⟩
  match ds, rs, q with
  | [d], rs, q =>
    obtain ⟨v, rfl, rv⟩ := rs.one
    obtain ⟨u, rfl, ru⟩ := r.one
    simp only [oRepr] at q
    cases e : toPyS st d with
    | none => simp only [e] at q; exact q.elim
    | some pd =>
      simp only [e] at q
      split at q
      · rename_i z
        obtain ⟨z1, z2, z3, z4, z5⟩ := z
        obtain ⟨es, ez⟩ := Option.isSome_iff_exists.mp z5
        obtain ⟨a, ys, rfl, _, _⟩ := seqOf_rep sr ez rv
        obtain ⟨as, rd⟩ := Dp.reads I pd _ u (dpS_of sr e rv) ru
        cases (show u = Value.ref a from ru)
        refine repr_of_reads' rd z1 (PyData.noDict_hsm z2) hg (by omega) (fun _ _ e => e) (fun h' u tk hk => ?_) z4
        exact ⟨.str pd.shown, H, I.kept hk, ⟨u, rfl⟩, q.here sr _ (by simp only [Rep])⟩
      · exact q.elim
  | [], _, q => exact q.elim
  | _ :: _ :: _, _, q => exact q.elim
/-! isinstance by a built-in type -/
def tyD (st : Sto) : D → Option String
  | .non => some "NoneType"
  | .bl _ => some "bool"
  | .int _ => some "int"
  | .str _ => some "str"
  | .tup _ => some "tuple"
  | .ktup _ => some "tuple"
  | .lv _ => some "list"
  | .kl _ => some "list"
  | .dv _ _ => some "dict"
  | .obj i => match st[i]? with
    | some (.lst _) => some "list"
    | some (.dic _) => some "dict"
    | some (.dit _) => some "dict"
    | some (.lck _) => some "dict"
    | _ => none
  | _ => none
def isiB (T a : String) : Bool := a == T || (a == "bool" && T == "int")
def oIsi (T : String) (d : D) (st : Sto) : R D := match tyD st d with
  | some a => .ok (.bl (isiB T a)) st
  | none => .bad
end
section
variable {X : Cx} {ca : CA} {W : WX} {a b c e o : Expr} {es rest : List Expr} {f g k : FE} {h : FA} {pos p apos : Pos} {x : Str}
theorem kit_isi {K : PySem.W.Frag} : ∀ {T a : String}, T ∈ ["tuple", "list", "int", "str", "bool", "dict"] → a ∈ ["NoneType", "bool", "int", "str", "tuple", "list", "dict"] → PySem.W.kitOne K (.type a) (.type T) = some (isiB T a) := by
  intro T a hT ha
  simp only [List.mem_cons, List.mem_nil_iff, or_false] at hT ha
  rcases hT with rfl | rfl | rfl | rfl | rfl | rfl <;> rcases ha with rfl | rfl | rfl | rfl | rfl | rfl | rfl <;> kernel_rfl
end
end DL
set_option Elab.async false
set_option linter.all false
set_option maxRecDepth 100000
set_option maxHeartbeats 4000000
namespace DL
open PySem PySem.Spec PyProof.Rows L2
section
variable {X : Cx} {ca : CA} {W : WX} {a b c e o : Expr} {es rest : List Expr} {f g k : FE} {h : FA} {pos p apos : Pos} {x : Str} {s₁ : Stmt} {ss : List Stmt} {u v w : FS}
/-! ### isinstance(e, T) -/
theorem isiTy_of {K : PySem.W.Frag} {ρ : Nat → Addr} {st : Sto} {H : Hp} {d : D} {v : V} {T : String} (s : SRep K ca ρ H st) (e : tyD st d = some T) (r : Rep K ca ρ st.length H d v) : TyX K H v (.type T) ∧ T ∈ ["NoneType", "bool", "int", "str", "tuple", "list", "dict"] := by
  cases d with
  | non => simp only [tyD, Option.some.injEq] at e; subst e; simp only [Rep] at r; subst r; exact ⟨.base .non, by decide⟩
  | bl k => simp only [tyD, Option.some.injEq] at e; subst e; simp only [Rep] at r; subst r; exact ⟨.base (.bl k), by decide⟩
  | int k => simp only [tyD, Option.some.injEq] at e; subst e; simp only [Rep] at r; subst r; exact ⟨.base (.int k), by decide⟩
  | str k => simp only [tyD, Option.some.injEq] at e; subst e; simp only [Rep] at r; subst r; exact ⟨.base (.str k), by decide⟩
  | tup ds =>
    simp only [tyD, Option.some.injEq] at e; subst e
    simp only [Rep] at r
    obtain ⟨a, xs, rfl, q, _⟩ := r
    exact ⟨.base (.tup q), by decide⟩
  | ktup ds =>
    simp only [tyD, Option.some.injEq] at e; subst e
    simp only [Rep] at r
    obtain ⟨a, xs, rfl, hq, _⟩ := r
    rcases hq with ⟨ob, q, _⟩ | ⟨_, ob, its, m, q, hc, _⟩
    · exact ⟨.fTuple q, by decide⟩
    · exact ⟨.kTuple q hc, by decide⟩
  | lv ds =>
    simp only [tyD, Option.some.injEq] at e; subst e
    simp only [Rep] at r
    obtain ⟨a, xs, rfl, q, _⟩ := r
    exact ⟨.base (.lst q.1), by decide⟩
  | kl ds =>
    simp only [tyD, Option.some.injEq] at e; subst e
    simp only [Rep] at r
    obtain ⟨a, xs, rfl, q, _⟩ := r
    rcases q with ⟨ob, q⟩ | ⟨ob, its, m, q, hc, _⟩
    · exact ⟨.base (.frz q), by decide⟩
    · exact ⟨.kList q hc, by decide⟩
  | dv ks vs =>
    simp only [tyD, Option.some.injEq] at e; subst e
    simp only [Rep] at r
    obtain ⟨a, kvs, rfl, q, _⟩ := r
    rcases q.1 with q | ⟨ob, q⟩
    · exact ⟨.base (.dK q), by decide⟩
    · exact ⟨.fDict q, by decide⟩
  | obj i =>
    simp only [tyD] at e
    simp only [Rep] at r
    cases q : st[i]? with
    | none => simp [q] at e
    | some m =>
      cases m with
      | lst es =>
        simp only [q, Option.some.injEq] at e; subst e
        obtain ⟨xs, ha, _⟩ := s.at_ i _ q
        rw [r.2]
        exact ⟨.base (.lst ha), by decide⟩
      | dic es =>
        simp only [q, Option.some.injEq] at e; subst e
        obtain ⟨xs, ha, _⟩ := s.at_ i _ q
        rw [r.2]
        exact ⟨.base (.dK ha), by decide⟩
      | dit es =>
        simp only [q, Option.some.injEq] at e; subst e
        obtain ⟨xs, ha, _⟩ := s.at_ i _ q
        rw [r.2]
        exact ⟨.base (.dT ha), by decide⟩
      | lck es =>
        simp only [q, Option.some.injEq] at e; subst e
        obtain ⟨o, xs, ha, _⟩ := s.at_ i _ q
        rw [r.2]
        exact ⟨.fDict ha, by decide⟩
      | ins c fs => simp [q] at e
  | ty n => simp [tyD] at e
  | glb n => simp [tyD] at e
def oIsi2 : Fn := fun ds st => match ds with
  | [d, .ty T] => if T ∈ ["tuple", "list", "int", "str", "bool", "dict"] then oIsi T d st else .bad
  | _ => .bad
theorem oIsi2_nox (ds : List D) (st : Sto) : NoEx (oIsi2 ds st) := by
  intro c fs τ st' q
  unfold oIsi2 at q
  split at q
  · split at q
    · unfold oIsi at q
      split at q <;> cases q
    · cases q
  · cases q
theorem cr_isi : CallR X (.builtin "isinstance") (rDL ca X.K oIsi2) := CallR.imp call_isi fun xs H Q ⟨ρ, st, ds, rs, s, q⟩ => by
  unfold oIsi2 at q
  split at q
  · rename_i d T
    obtain ⟨v, u, rfl, rv, ru⟩ := rs.two
    split at q
    · rename_i hT
      unfold oIsi at q
      cases e : tyD st d with
      | none => simp only [e] at q; exact q.elim
      | some a =>
        simp only [e] at q
        obtain ⟨ty, ha⟩ := isiTy_of s e rv
        simp only [Rep] at ru
        subst ru
        exact ⟨v, .ty T, _, .type T, isiB T a, rfl, .ty T, ty, kit_isi hT ha, q.here s _ (by simp only [Rep])⟩
    · exact q.elim
  · exact q.elim
/-- a built-in type's name -/
theorem je_ty {T : String} (hg : Gl X x) (hm : X.mg x = none) (hv : bootBuiltins x = some (.type T)) (hn : x ≠ "__name__" := by decide) (hdb : (x == ("__debug__" : Str)) = false := by decide) : JE X ca W (.Name x pos) (fC (.ty T)) :=
  je_const (pe_bltn (v := .ty T) hg hm hv rfl hn hdb) fun _ _ _ => by simp only [Rep]
/-! ### methods of lists -/
def oAppend (d : D) (ds : List D) (st : Sto) : R D := match d, ds with
  | .obj i, [y] => match st[i]? with
    | some (.lst xs) => if xs.length < sizeLine then .ok .non (st.set i (.lst (xs ++ [y]))) else .bad
    | _ => .bad
  | _, _ => .bad
def oExtend (d : D) (ds : List D) (st : Sto) : R D := match d, ds with
  | .obj i, [y] => match st[i]?, mlOf st y with
    | some (.lst xs), some zs => if xs.length + zs.length ≤ sizeLine then .ok .non (st.set i (.lst (xs ++ zs))) else .bad
    | _, _ => .bad
  | _, _ => .bad
def oPop (d : D) (ds : List D) (st : Sto) : R D := match d, ds with
  | .obj i, [] => match st[i]? with
    | some (.lst xs) => match xs[xs.length - 1]? with
      | some y => .ok y (st.set i (.lst xs.dropLast))
      | none => .bad
    | _ => .bad
  | _, _ => .bad
def fMt (r : D → List D → Sto → R D) (f : FE) (h : FA) : FE := fun τ st => (f τ st).bind fun d st1 => match mlOf st1 d with
  | some _ => (h τ st1).bind fun ds st2 => r d ds st2
  | none => .bad
theorem tyV_list {K : PySem.W.Frag} {ρ : Nat → Addr} {st : Sto} {H : Hp} {d : D} {ds : List D} {v : V} (s : SRep K ca ρ H st) (e : mlOf st d = some ds) (r : Rep K ca ρ st.length H d v) : tyV K "list" v H := by
  obtain ⟨a, xs, rfl, q, _⟩ := mlOf_rep s e r
  exact .inl ⟨rfl, xs, SqL.of q⟩
theorem je_mt {name : Str} {id : String} {rr : V → List V → Hp → VK → Prop} {r : D → List D → Sto → R D} (slot : Slot "list" name id) (hty : typeOf (.builtin id) = pure (.type "method_descriptor")) (hm : MtR X id rr)
    (hi : ∀ x xs H Q, rDM ca X.K r x xs H Q → rr x xs H Q) (hn : ∀ d ds st, NoEx (r d ds st)) (ho : JE X ca W o f) (ha : JA X ca W (e :: es) h)
    (hbase : attributeBase o name X.env (eval o X.env) = eval o X.env := by rfl)
    (hfew : ((backTo pos (starEach (e :: es) X.env)).all (fun x => !x.1) && (backToKw pos (keywordEach [] X.env)).all (fun x => x.1.isSome)
      && decide ((e :: es).length + ([] : List Keyword).length + (if ([] : List Keyword).isEmpty then 0 else 1) < 30)) = true := by rfl)
    (hline : (apos.endLine == pos.line) = true := by rfl) (hs : starEach (e :: es) X.env = (false, eval e X.env) :: starEach es X.env := by rfl) (hplain : (backTo pos (starEach es X.env)).any (·.1) = false := by rfl) :
    JE X ca W (.Call (.Attribute o name apos) (e :: es) [] pos) (fMt r f h) :=
  pe_imp (pe_bm PySem.F.plainAttrs_list slot hty hm ho ha hbase hfew hline hs hplain) fun σ H Q ⟨ρ, st, τ, sl, s, h⟩ => at_of sl s h fun d ρ1 st1 H1 x1 sl1 s1 h1 v rv => by
    cases e : mlOf st1 d with
    | none => simp only [e] at h1; exact h1.elim
    | some ds =>
      simp only [e] at h1
      exact ⟨tyV_list s1 e rv, at_of sl1 s1 h1 fun ds ρ2 st2 H2 x2 sl2 s2 h2 xs rs => hi _ _ _ _ ⟨ρ2, st2, d, ds, rv.ext x2, rs, s2, h2.nox (hn _ _ _)⟩⟩
theorem je_mt0 {name : Str} {id : String} {rr : V → List V → Hp → VK → Prop} {r : D → List D → Sto → R D} (slot : Slot "list" name id) (hty : typeOf (.builtin id) = pure (.type "method_descriptor")) (hm : MtR X id rr)
    (hi : ∀ x xs H Q, rDM ca X.K r x xs H Q → rr x xs H Q) (hn : ∀ d ds st, NoEx (r d ds st)) (ho : JE X ca W o f)
    (hbase : attributeBase o name X.env (eval o X.env) = eval o X.env := by rfl) (hline : (apos.endLine == pos.line) = true := by rfl) :
    JE X ca W (.Call (.Attribute o name apos) [] [] pos) (fMt r f aNil) :=
  pe_imp (pe_bm0 PySem.F.plainAttrs_list slot hty hm ho hbase hline) fun σ H Q ⟨ρ, st, τ, sl, s, h⟩ => at_of sl s h fun d ρ1 st1 H1 x1 sl1 s1 h1 v rv => by
    cases e : mlOf st1 d with
    | none => simp only [e] at h1; exact h1.elim
    | some ds =>
      simp only [e] at h1
      exact ⟨tyV_list s1 e rv, hi _ _ _ _ ⟨ρ1, st1, d, [], rv, Reps.nil, s1, Post.nox (hn _ _ _) (W := W) h1⟩⟩
section
variable {K : PySem.W.Frag} {ρ : Nat → Addr} {st : Sto} {H : Hp} {i : Nat}
theorem lst_at (s : SRep K ca ρ H st) {xs : List D} (e : st[i]? = some (.lst xs)) : ∃ ys, H (ρ i) = some (.lst ys) ∧ Reps K ca ρ st.length H xs ys := s.at_ i _ e
theorem lst_put (s : SRep K ca ρ H st) {xs ys : List D} {vs : List V} (e : st[i]? = some (.lst xs)) (r : Reps K ca ρ st.length H ys vs) : SRep K ca ρ (upd H (ρ i) (.lst vs)) (st.set i (.lst ys)) ∧ Ext ρ st.length H ρ (st.set i (.lst ys)).length (upd H (ρ i) (.lst vs)) :=
  ⟨s.write e rfl ⟨vs, upd_same, r.ext (Ext.write s e rfl)⟩, by rw [List.length_set]; exact Ext.write s e rfl⟩
end
theorem oAppend_nox (d : D) (ds : List D) (st : Sto) : NoEx (oAppend d ds st) := by
  intro c fs τ st' q
  unfold oAppend at q
  split at q
  · split at q
    · split at q <;> cases q
    · cases q
  · cases q
theorem oExtend_nox (d : D) (ds : List D) (st : Sto) : NoEx (oExtend d ds st) := by
  intro c fs τ st' q
  unfold oExtend at q
  split at q
  · split at q
    · split at q <;> cases q
    · cases q
  · cases q
theorem oPop_nox (d : D) (ds : List D) (st : Sto) : NoEx (oPop d ds st) := by
  intro c fs τ st' q
  unfold oPop at q
  split at q
  · split at q
    · split at q <;> cases q
    · cases q
  · cases q
theorem hi_append {K : PySem.W.Frag} (x : V) (xs : List V) (H : Hp) (Q : VK) : rDM ca K oAppend x xs H Q → rAppend x xs H Q := fun ⟨ρ, st, d, ds, rd, rs, s, q⟩ => by
  unfold oAppend at q
  split at q
  · rename_i i y
    split at q
    · rename_i es e
      obtain ⟨v, rfl, rv⟩ := rs.one
      simp only [Rep] at rd
      obtain ⟨ys, ha, rr⟩ := lst_at s e
      split at q
      · rename_i z
        have rn := rr.append (Reps.cons rv Reps.nil)
        obtain ⟨s2, x2⟩ := lst_put s e rn
        exact ⟨ρ i, ys, v, rd.2, rfl, ha, by rw [rr.length]; exact z, q _ ρ x2 s2 _ (by simp only [Rep])⟩
      · exact q.elim
    · exact q.elim
  · exact q.elim
theorem hi_extend {K : PySem.W.Frag} (x : V) (xs : List V) (H : Hp) (Q : VK) : rDM ca K oExtend x xs H Q → rExtend x xs H Q := fun ⟨ρ, st, d, ds, rd, rs, s, q⟩ => by
  unfold oExtend at q
  split at q
  · rename_i i y
    split at q
    · rename_i es zs e e2
      obtain ⟨v, rfl, rv⟩ := rs.one
      simp only [Rep] at rd
      obtain ⟨ys, ha, rr⟩ := lst_at s e
      obtain ⟨b, ws, rfl, hb, rw'⟩ := mlOf_rep s e2 rv
      split at q
      · rename_i z
        have rn := rr.append rw'
        obtain ⟨s2, x2⟩ := lst_put s e rn
        exact ⟨ρ i, b, ys, ws, rd.2, rfl, ha, hb, by rw [rr.length, rw'.length]; exact z, q _ ρ x2 s2 _ (by simp only [Rep])⟩
      · exact q.elim
    · exact q.elim
  · exact q.elim
theorem Reps.dropLast {K : PySem.W.Frag} {ρ : Nat → Addr} {n : Nat} {H : Hp} : ∀ {ds : List D} {vs : List V}, Reps K ca ρ n H ds vs → Reps K ca ρ n H ds.dropLast vs.dropLast
  | [], vs, h => by simp only [Reps] at h; subst h; exact Reps.nil
  | [d], vs, h => by obtain ⟨v, rfl, _⟩ := h.one; exact Reps.nil
  | d :: e :: ds, vs, h => by
    simp only [Reps] at h
    obtain ⟨v, t, rfl, rv, u, t', rfl, ru, rt⟩ := h
    have := Reps.dropLast (Reps.cons ru rt)
    exact Reps.cons rv this
theorem hi_pop {K : PySem.W.Frag} (x : V) (xs : List V) (H : Hp) (Q : VK) : rDM ca K oPop x xs H Q → rPop x xs H Q := fun ⟨ρ, st, d, ds, rd, rs, s, q⟩ => by
  unfold oPop at q
  split at q
  · rename_i i
    split at q
    · rename_i es e
      simp only [Reps] at rs
      subst rs
      simp only [Rep] at rd
      obtain ⟨ys, ha, rr⟩ := lst_at s e
      split at q
      · rename_i y e2
        obtain ⟨v, e3, rv⟩ := rr.get e2
        obtain ⟨s2, x2⟩ := lst_put s e rr.dropLast
        exact ⟨ρ i, ys, v, rd.2, rfl, ha, by rw [rr.length]; exact e3, q _ ρ x2 s2 _ (rv.ext x2)⟩
      · exact q.elim
    · exact q.elim
  · exact q.elim
theorem je_append (ho : JE X ca W o f) (ha : JE X ca W e g) (hbase : attributeBase o "append" X.env (eval o X.env) = eval o X.env := by rfl)
    (hfew : ((backTo pos (starEach [e] X.env)).all (fun x => !x.1) && (backToKw pos (keywordEach [] X.env)).all (fun x => x.1.isSome) && decide ([e].length + ([] : List Keyword).length + (if ([] : List Keyword).isEmpty then 0 else 1) < 30)) = true := by rfl)
    (hline : (apos.endLine == pos.line) = true := by rfl) (hs : starEach [e] X.env = (false, eval e X.env) :: starEach [] X.env := by rfl) : JE X ca W (.Call (.Attribute o "append" apos) [e] [] pos) (fMt oAppend f (aCons g aNil)) :=
  je_mt PySem.F.slot_list_append PySem.F.type_list_append mt_append hi_append oAppend_nox ho (ja_cons ha ja_nil hs) hbase hfew hline hs
theorem je_extend (ho : JE X ca W o f) (ha : JE X ca W e g) (hbase : attributeBase o "extend" X.env (eval o X.env) = eval o X.env := by rfl)
    (hfew : ((backTo pos (starEach [e] X.env)).all (fun x => !x.1) && (backToKw pos (keywordEach [] X.env)).all (fun x => x.1.isSome) && decide ([e].length + ([] : List Keyword).length + (if ([] : List Keyword).isEmpty then 0 else 1) < 30)) = true := by rfl)
    (hline : (apos.endLine == pos.line) = true := by rfl) (hs : starEach [e] X.env = (false, eval e X.env) :: starEach [] X.env := by rfl) : JE X ca W (.Call (.Attribute o "extend" apos) [e] [] pos) (fMt oExtend f (aCons g aNil)) :=
  je_mt PySem.F.slot_list_extend PySem.F.type_list_extend mt_extend hi_extend oExtend_nox ho (ja_cons ha ja_nil hs) hbase hfew hline hs
theorem je_pop (ho : JE X ca W o f) (hbase : attributeBase o "pop" X.env (eval o X.env) = eval o X.env := by rfl)
    (hline : (apos.endLine == pos.line) = true := by rfl) : JE X ca W (.Call (.Attribute o "pop" apos) [] [] pos) (fMt oPop f aNil) :=
  je_mt0 PySem.F.slot_list_pop PySem.F.type_list_pop mt_pop hi_pop oPop_nox ho hbase hline
/-! ### o[i] = v -/
def putItem (o i d : D) (st : Sto) : R Unit := match o with
  | .obj k => match st[k]? with
    | some (.lst xs) => match i with
      | .int j => match ixN xs.length j with
        | some m => .ok () (st.set k (.lst (xs.set m d)))
        | none => .bad
      | _ => .bad
    | some (.dic kvs) => match keyOf i with
      | some y => if kvs.length < sizeLine then .ok () (st.set k (.dic (putD kvs y d))) else .bad
      | none => .bad
    | some (.dit kvs) => match tkeyOf i with
      | some y => if kvs.length < sizeLine then .ok () (st.set k (.dit (putD kvs y d))) else .bad
      | none => .bad
    | _ => .bad
  | _ => .bad
theorem PSet.or {t t' : TSet} (h : PSet X t) (h' : PSet X t') : PSet X (fun o i v H Q => t o i v H Q ∨ t' o i v H Q) := fun pins s σ H o i v ov iv u Q I ro ri rv q => q.elim (h pins s σ H o i v ov iv u Q I ro ri rv) (h' pins s σ H o i v ov iv u Q I ro ri rv)
theorem putItem_ok {K : PySem.W.Frag} {ρ : Nat → Addr} {st : Sto} {H : Hp} {o i d : D} {ov iv v : V} {F : Unit → (Nat → Addr) → Sto → Hp → Prop} {Q : Hp → Prop} (s : SRep K ca ρ H st) (ro : Rep K ca ρ st.length H o ov) (ri : Rep K ca ρ st.length H i iv) (rv : Rep K ca ρ st.length H d v)
    (h : Post K ca W ρ st.length H (putItem o i d st) F) (hq : ∀ ρ1 st1 H1, Ext ρ st.length H ρ1 st1.length H1 → SRep K ca ρ1 H1 st1 → F () ρ1 st1 H1 → Q H1) : rSetL ov iv v H Q ∨ rSetD ov iv v H Q := by
  unfold putItem at h
  split at h
  · rename_i k
    simp only [Rep] at ro
    split at h
    · rename_i xs e
      obtain ⟨ys, ha, rr⟩ := lst_at s e
      split at h
      · rename_i j
        split at h
        · rename_i m hm
          simp only [Rep] at ri
          obtain ⟨s2, x2⟩ := lst_put s e (rr.set rv m)
          exact .inl ⟨ρ k, ys, j, m, ro.2, ri, ha, by rw [rr.length]; exact hm, hq _ _ _ x2 s2 (h _ ρ x2 s2)⟩
        · exact h.elim
      · exact h.elim
    · rename_i kvs e
      obtain ⟨ws, ha, rr⟩ := s.at_ k _ e
      split at h
      · rename_i y ey
        split at h
        · rename_i z
          have x2 : Ext ρ st.length H ρ (st.set k (.dic (putD kvs y d))).length (upd H (ρ k) (.dK (putK ws y v))) := by rw [List.length_set]; exact Ext.write s e rfl
          have s2 : SRep K ca ρ (upd H (ρ k) (.dK (putK ws y v))) (st.set k (.dic (putD kvs y d))) := s.write e rfl ⟨_, upd_same, (rr.put rv).ext (Ext.write s e rfl)⟩
          exact .inr ⟨ρ k, _, ro.2, .inl ⟨ws, y, ha, keyOf_rep ey ri, by rw [rr.length]; exact z, rfl⟩, hq _ _ _ x2 s2 (h _ ρ x2 s2)⟩
        · exact h.elim
      · exact h.elim
    · rename_i kvs e
      obtain ⟨ws, ha, rr⟩ := s.at_ k _ e
      split at h
      · rename_i y ey
        split at h
        · rename_i z
          have x2 : Ext ρ st.length H ρ (st.set k (.dit (putD kvs y d))).length (upd H (ρ k) (.dT (putK ws y v))) := by rw [List.length_set]; exact Ext.write s e rfl
          have s2 : SRep K ca ρ (upd H (ρ k) (.dT (putK ws y v))) (st.set k (.dit (putD kvs y d))) := s.write e rfl ⟨_, upd_same, (rr.put rv).ext (Ext.write s e rfl)⟩
          obtain ⟨b, rfl, hb⟩ := tkeyOf_rep ey ri
          exact .inr ⟨ρ k, _, ro.2, .inr ⟨ws, y, b, ha, rfl, hb, by rw [rr.length]; exact z, rfl⟩, hq _ _ _ x2 s2 (h _ ρ x2 s2)⟩
        · exact h.elim
      · exact h.elim
    · exact h.elim
  · exact h.elim
def gSubD (f g : FE) : FG := fun d τ st => (f τ st).bind fun o st1 => (g τ st1).bind fun i st2 => (putItem o i d st2).bind fun _ st3 => .ok τ st3
theorem jg_sub (hu : X.A.units + 1 < cLine) (ho : JE X ca W o f) (hi : JE X ca W e g) (ha : ∀ v, assign (.Subscript o e pos) X.env v = (do
      let ov ← holding [v] (eval o X.env)
      let iv ← holding [v, ov] (eval e X.env)
      standAt pos
      holding [v, ov, iv] (setItem ov iv v)
      release [v, ov, iv] []) := by intro _; rfl) : JG X ca W (.Subscript o e pos) (gSubD f g) :=
  pg_imp (pg_sub ho hi (PSet.or set_list (set_dict hu)) ha) fun v σ H Q ⟨ρ, st, τ, d, sl, s, r, h⟩ =>
    at_of sl s h fun od ρ1 st1 H1 x1 sl1 s1 h1 ov ro => at_of sl1 s1 h1 fun id ρ2 st2 H2 x2 sl2 s2 h2 iv ri =>
      putItem_ok s2 (ro.ext x2) ri ((r.ext x1).ext x2) (Post.bind h2) fun ρ3 st3 H3 x3 s3 ⟨_, _, q⟩ => q.here s3 σ (sl2.ext x3)
/-! ### attributes -/
def fFld (c y : Str) (f : FE) : FE := fun τ st => (f τ st).bind fun d st1 => match insOf st1 c d with
  | some fs => match fs.lookup y with
    | some v => .ok v st1
    | none => .bad
  | none => .bad
/-- what is known of a class and a name of its instances -/
structure AttrOk (K : PySem.W.Frag) (cf : CF) (c y : Str) : Prop where
  ex : ∃ C, cf c = some C ∧ Cls K C ∧ NoAttr K C y
theorem je_fld {c y : Str} (A : AttrOk X.K ca.f c y) (ho : JE X ca W o f) (hb : attributeBase o y X.env (eval o X.env) = eval o X.env := by rfl) : JE X ca W (.Attribute o y pos) (fFld c y f) :=
  pe_imp (pe_fld ho hb) fun σ H Q ⟨ρ, st, τ, sl, s, h⟩ => at_of sl s h fun d ρ1 st1 H1 x1 sl1 s1 h1 v rv => by
    cases q : insOf st1 c d with
    | none => simp only [q] at h1; exact h1.elim
    | some fs =>
      simp only [q] at h1
      obtain ⟨C, hC, cC, nC⟩ := A.ex
      obtain ⟨a, C', dx, ws, rfl, hC', ha, _, rr⟩ := insOf_rep s1 q rv
      rw [hC] at hC'; cases hC'
      rcases rr.lookup (y := y) with ⟨e1, _⟩ | ⟨d', v', e1, e2, r'⟩
      · simp only [e1] at h1; exact h1.elim
      · simp only [e1] at h1
        exact ⟨a, C, dx, ws, v', rfl, ha, cC, nC, e2, h1.here s1 v' r'⟩
def putFD (y : Str) (d : D) : List (Str × D) → List (Str × D)
  | [] => [(y, d)]
  | (z, x) :: r => if z = y then (z, d) :: r else (z, x) :: putFD y d r
theorem RepKV.putF {K : PySem.W.Frag} {ρ : Nat → Addr} {n : Nat} {H : Hp} {y : Str} {d : D} {v : V} (rv : Rep K ca ρ n H d v) : ∀ {fs : List (Str × D)} {ws : List (Str × V)}, RepKV K ca ρ n H fs ws → RepKV K ca ρ n H (putFD y d fs) (L2.putF y v ws)
  | [], ws, r => by simp only [RepKV] at r; subst r; simp only [putFD, L2.putF, RepKV]; exact ⟨v, [], rfl, rv, rfl⟩
  | (z, x) :: fs, ws, r => by
    simp only [RepKV] at r
    obtain ⟨u, t, rfl, ru, rt⟩ := r
    by_cases e : z = y
    · simp only [putFD, L2.putF, if_pos e, RepKV]; exact ⟨v, t, rfl, rv, rt⟩
    · simp only [putFD, L2.putF, if_neg e, RepKV]; exact ⟨u, _, rfl, ru, RepKV.putF rv rt⟩
def putAttr (c y : Str) (o d : D) (st : Sto) : R Unit := match o with
  | .obj i => match st[i]? with
    | some (.ins c' fs) => if c' = c ∧ fs.length < 1000 then .ok () (st.set i (.ins c' (putFD y d fs))) else .bad
    | _ => .bad
  | _ => .bad
def sFldD (c y : Str) (f g : FE) : FS := fun τ st => (g τ st).bind fun d st1 => (f τ st1).bind fun o st2 => (putAttr c y o d st2).bind fun _ st3 => .ok (.nx τ) st3
theorem putAttr_ok {K : PySem.W.Frag} {ρ : Nat → Addr} {st : Sto} {H : Hp} {o d : D} {ov v : V} {c y : Str} {F : Unit → (Nat → Addr) → Sto → Hp → Prop} (A : AttrOk K ca.f c y) (s : SRep K ca ρ H st) (ro : Rep K ca ρ st.length H o ov) (rv : Rep K ca ρ st.length H d v)
    (h : Post K ca W ρ st.length H (putAttr c y o d st) F) : ∃ a C dx fs, ov = .ref a ∧ H a = some (.ins C dx fs) ∧ Cls K C ∧ NoAttr K C y ∧ fs.length < 1000 ∧ ∃ st1, Ext ρ st.length H ρ st1.length (upd H a (.ins C dx (L2.putF y v fs))) ∧ SRep K ca ρ (upd H a (.ins C dx (L2.putF y v fs))) st1 ∧ F () ρ st1 (upd H a (.ins C dx (L2.putF y v fs))) := by
  unfold putAttr at h
  split at h
  · rename_i i
    simp only [Rep] at ro
    split at h
    · rename_i c' fs e
      split at h
      · rename_i z
        obtain ⟨rfl, z⟩ := z
        obtain ⟨C, dx, ws, hC', ha, hd, rr⟩ := s.at_ i _ e
        obtain ⟨C2, hC, cC, nC⟩ := A.ex
        rw [hC'] at hC; cases hC
        have x2 : Ext ρ st.length H ρ (st.set i (.ins c' (putFD y d fs))).length (upd H (ρ i) (.ins C dx (L2.putF y v ws))) := by rw [List.length_set]; exact Ext.write s e rfl
        have s2 : SRep K ca ρ (upd H (ρ i) (.ins C dx (L2.putF y v ws))) (st.set i (.ins c' (putFD y d fs))) := s.write e rfl ⟨C, dx, _, hC', upd_same, by rw [upd_ne (fun z => by rw [z, ha] at hd; cases hd)]; exact hd, (rr.putF rv).ext (Ext.write s e rfl)⟩
        exact ⟨ρ i, C, dx, ws, ro.2, ha, cC, nC, by rw [rr.length]; exact z, _, x2, s2, h _ ρ x2 s2⟩
      · exact h.elim
    · exact h.elim
  · exact h.elim
theorem js_fld {c y : Str} {pos' : Pos} (A : AttrOk X.K ca.f c y) (ho : JE X ca W o f) (hv : JE X ca W e g) (hs : swapsWith e (some (.Attribute o y pos')) pos.line X.env = pure false := by rfl) : JS X ca W (.Assign [.Attribute o y pos'] e pos) (sFldD c y f g) :=
  ps_imp (ps_fld ho hv hs) fun Dn σ H ⟨ρ, st, τ, sl, s, h⟩ => at_of sl s h fun d ρ1 st1 H1 x1 sl1 s1 h1 v rv => at_of sl1 s1 h1 fun od ρ2 st2 H2 x2 sl2 s2 h2 ov ro => by
    obtain ⟨a, C, dx, fs, e1, e2, e3, e4, e5, st3, x3, s3, _, _, q⟩ := putAttr_ok A s2 ro (rv.ext x2) (Post.bind h2)
    exact ⟨a, C, dx, fs, e1, e2, e3, e4, e5, q.here s3 σ (sl2.ext x3)⟩
/-! ### name += an int -/
def sAug (i : Nat) (op : Int → Int → Int) (f : FE) : FS := fun τ st => match τ[i]? with
  | some (some (.int j)) => (f τ st).bind fun d st1 => match d with
    | .int m => .ok (.nx (τ.set i (some (.int (op j m))))) st1
    | _ => .bad
  | _ => .bad
theorem js_aug {op : Operator} {fo : Int → Int → Int} (i : Nat) {p' : Pos} (hop : PIp X op (ipI fo)) (hN : X.N.Nodup) (he : JE X ca W e f) (hi : X.N[i]? = some x := by rfl) (hx : Loc X.env.scope x := by first | exact Or.inl rfl | exact Or.inr rfl) (hf : X.fn x = true ∨ X.env.scope.names.lookup x = some .local := by first | exact .inl rfl | exact .inr rfl | assumption) :
    JS X ca W (.AugAssign (.Name x p') op e pos) (sAug i fo f) :=
  ps_imp (ps_aug (i := i) hN hi hx he hop hf) fun Dn σ H ⟨ρ, st, τ, sl, s, h⟩ => by
    unfold sAug at h
    split at h
    · rename_i j q
      obtain ⟨v, q', rv⟩ := sl.2 i _ q
      simp only [Rep] at rv
      subst rv
      refine ⟨_, q', at_of sl s h fun d ρ1 st1 H1 x1 sl1 s1 h1 u ru => ?_⟩
      cases d with
      | int m =>
        simp only [Rep] at ru
        subst ru
        exact ⟨j, m, rfl, rfl, h1.here s1 _ (sl1.set (by simp only [Rep]) i)⟩
      | _ => exact h1.elim
    · exact h.elim
def sFldAugD (c y : Str) (op : Int → Int → Int) (f g : FE) : FS := fun τ st => (f τ st).bind fun o st1 => match insOf st1 c o with
  | some fs => match fs.lookup y with
    | some (.int j) => (g τ st1).bind fun d st2 => match d with
      | .int m => (putAttr c y o (.int (op j m)) st2).bind fun _ st3 => .ok (.nx τ) st3
      | _ => .bad
    | _ => .bad
  | none => .bad
end
end DL
set_option Elab.async false
set_option linter.all false
set_option maxRecDepth 100000
set_option maxHeartbeats 4000000
namespace DL
open PySem PySem.Spec PyProof.Rows L2
/-- a dict of the module with text keys -/
structure TabD (K : PySem.W.Frag) (w : World) (mg : Str → Option Value) (cf : CF) (x : Str) (tab : List (Str × D)) : Prop where
  ex : ∃ d es n, mg x = some (.ref d) ∧ KDict K w d es n ∧ ∀ z, (tab.lookup z = none ∧ PySem.W.nsIn K d z = some none) ∨
    ∃ e u v, tab.lookup z = some e ∧ PySem.W.nsIn K d z = some (some u) ∧ RelV v u ∧ ∀ rv ρ n H, Rep K ⟨cf, rv⟩ ρ n H e v
section
variable {X : Cx} {ca : CA} {W : WX} {a b c e o : Expr} {es rest : List Expr} {f g k : FE} {h : FA} {pos p apos : Pos} {x : Str} {tab : List (Str × D)}
theorem ix_kd {d : Addr} {es : Array DictEntry} {n : Nat} (T : KDict X.K X.w d es n) : IxR X (fun x y H Q => ∃ (z : Str) (u0 : Value) (v0 : V), x = .ref d ∧ y = .str z ∧ PySem.W.nsIn X.K d z = some (some u0) ∧ RelV v0 u0 ∧ Q v0 H) := by
  intro value slice pins s σ H x y v u Q I rx ry h hs
  obtain ⟨z, u0, v0, rfl, rfl, e, r, q⟩ := h
  cases rx
  obtain ⟨t, rfl⟩ := ry
  refine subscriptTail_builtinR (x := u0) (kd_type T I) PySem.F.slot_dict_getitem.lookup ?_ hs
  exact wpAny_getItem_of (PySem.strKind_is X.prog X.w z t) (PySem.W.mapOf_K (prog := X.prog) I.kIn T.at_ T.lit) (PySem.W.find_K T.at_ e) ⟨rfl, v0, H, I.tok _, r, q⟩
def bInTab (tab : List (Str × D)) (f : FE) : FB := fun τ st => (f τ st).bind fun d st1 => match d with
  | .str z => .ok (tab.lookup z).isSome st1
  | _ => .bad
def bNotInTab (tab : List (Str × D)) (f : FE) : FB := fun τ st => (f τ st).bind fun d st1 => match d with
  | .str z => .ok (!(tab.lookup z).isSome) st1
  | _ => .bad
def fIxTab (tab : List (Str × D)) (f : FE) : FE := fun τ st => (f τ st).bind fun d st1 => match d with
  | .str z => match tab.lookup z with
    | some e => .ok e st1
    | none => .bad
  | _ => .bad
theorem jb_inTab (T : TabD X.K X.w X.mg ca.f x tab) (hg : Gl X x) (ha : JE X ca W a f) (hm : behindInMarks .In (.Name x p) = false := by with_unfolding_all rfl) (hd : (x == ("__debug__" : Str)) = false := by decide) : JB X ca W (.Compare a [.In] [.Name x p] pos) (bInTab tab f) := by
  obtain ⟨d, es, n, hx, kd, all⟩ := T.ex
  refine pt_imp (pt_cmpR (op_in_kd kd) ha (pe_glob (v := .ref d) hg hx rfl hd) hm) fun σ H Q ⟨ρ, st, τ, sl, s, h⟩ => at_of sl s h fun dd ρ1 st1 H1 x1 sl1 s1 h1 v rv => ?_
  cases dd with
  | str z =>
    simp only [Rep] at rv
    subst rv
    rcases all z with ⟨e1, e2⟩ | ⟨e, u, v, e1, e2, _⟩
    · simp only [e1] at h1; exact ⟨z, none, rfl, rfl, e2, _, rfl, h1.here s1⟩
    · simp only [e1] at h1; exact ⟨z, some u, rfl, rfl, e2, _, rfl, h1.here s1⟩
  | _ => exact h1.elim
theorem jb_notinTab (T : TabD X.K X.w X.mg ca.f x tab) (hg : Gl X x) (ha : JE X ca W a f) (hm : behindInMarks .NotIn (.Name x p) = false := by with_unfolding_all rfl) (hd : (x == ("__debug__" : Str)) = false := by decide) : JB X ca W (.Compare a [.NotIn] [.Name x p] pos) (bNotInTab tab f) := by
  obtain ⟨d, es, n, hx, kd, all⟩ := T.ex
  refine pt_imp (pt_cmpR (op_notIn_kd kd) ha (pe_glob (v := .ref d) hg hx rfl hd) hm) fun σ H Q ⟨ρ, st, τ, sl, s, h⟩ => at_of sl s h fun dd ρ1 st1 H1 x1 sl1 s1 h1 v rv => ?_
  cases dd with
  | str z =>
    simp only [Rep] at rv
    subst rv
    rcases all z with ⟨e1, e2⟩ | ⟨e, u, v, e1, e2, _⟩
    · simp only [e1] at h1; exact ⟨z, none, rfl, rfl, e2, _, rfl, h1.here s1⟩
    · simp only [e1] at h1; exact ⟨z, some u, rfl, rfl, e2, _, rfl, h1.here s1⟩
  | _ => exact h1.elim
theorem je_ixTab (T : TabD X.K X.w X.mg ca.f x tab) (hg : Gl X x) (ha : JE X ca W a f) (hs : PlainIx a := by exact fun _ _ => rfl) (hd : (x == ("__debug__" : Str)) = false := by decide) : JE X ca W (.Subscript (.Name x p) a pos) (fIxTab tab f) := by
  obtain ⟨d, es, n, hx, kd, all⟩ := T.ex
  refine pe_imp (pe_ix (ix_kd kd) (pe_glob (v := .ref d) hg hx rfl hd) ha hs) fun σ H Q ⟨ρ, st, τ, sl, s, h⟩ => at_of sl s h fun dd ρ1 st1 H1 x1 sl1 s1 h1 v rv => ?_
  cases dd with
  | str z =>
    simp only [Rep] at rv
    subst rv
    rcases all z with ⟨e1, e2⟩ | ⟨e, u, v, e1, e2, e3, e4⟩
    · simp only [e1] at h1; exact h1.elim
    · simp only [e1] at h1; exact ⟨z, u, v, rfl, rfl, e2, e3, h1.here s1 v (e4 _ _ _ _)⟩
  | _ => exact h1.elim
/-! ### {} and small dict rules -/
def fDnewK : FE := fun _ st => .ok (.obj st.length) (st ++ [.dic []])
def fDnewT : FE := fun _ st => .ok (.obj st.length) (st ++ [.dit []])
theorem je_dnewK : JE X ca W (.Dict [] [] pos) fDnewK := pe_imp pe_dnewK fun σ H Q ⟨ρ, st, τ, sl, s, h⟩ p hp =>
  h _ _ (ext_more s hp _) (s.more hp (kept_new hp) ⟨[], upd_same, by simp only [RepKV]⟩) _ (rep_obj_new _)
theorem je_dnewT : JE X ca W (.Dict [] [] pos) fDnewT := pe_imp pe_dnewT fun σ H Q ⟨ρ, st, τ, sl, s, h⟩ p hp =>
  h _ _ (ext_more s hp _) (s.more hp (kept_new hp) ⟨[], upd_same, by simp only [RepKV]⟩) _ (rep_obj_new _)
end
end DL
set_option Elab.async false
set_option linter.all false
set_option maxRecDepth 100000
set_option maxHeartbeats 4000000
namespace DL
open PySem PySem.Spec PyProof.Rows L2 LamX
/-! the law's call: the script is frozen (or the module's), the tables of code objects are tracked, nothing else is -/
def scrObj (us : List Value) : Obj := { cls := .type "list", data := .seq us.toArray }
def H0 (fz : Bool) (a : Addr) (us : List Value) (zs : List V) (T : List Addr) : Hp := fun b =>
  if fz = true ∧ b = a then some (.frz (scrObj us) (.lst zs)) else if b ∈ T then some (.tbl #[]) else none
theorem H0_none {fz : Bool} {a b : Addr} {us : List Value} {zs : List V} {T : List Addr} (h1 : ¬ (fz = true ∧ b = a)) (h2 : b ∉ T) : H0 fz a us zs T b = none := by
  unfold H0; rw [if_neg h1, if_neg h2]
theorem H0_some {fz : Bool} {a b : Addr} {us : List Value} {zs : List V} {T : List Addr} {u : HO} (h : H0 fz a us zs T b = some u) : (fz = true ∧ b = a ∧ u = .frz (scrObj us) (.lst zs)) ∨ (b ∈ T ∧ u = .tbl #[]) := by
  unfold H0 at h
  split at h
  · rename_i q; cases h; exact .inl ⟨q.1, q.2, rfl⟩
  · split at h
    · rename_i q; cases h; exact .inr ⟨q, rfl⟩
    · cases h
theorem law_end {P : Program} {w : World} {K : PySem.W.Frag} {mg mb : Str → Option Value} {k : Nat} {fa a : Addr} {tabs : List (Addr × Addr)} {fd : FuncData} {x : Str} {cf : CF} {r : Fn} {s1 : Shared} {us : List Value} {ns : List Int}
    (kin : K.In s1.heap) (gns : s1.heap.Ns mainGlobals mg) (bns : s1.heap.Ns builtinsNs mb) (boot : ∀ x : Str, x ≠ "__name__" → mb x = bootBuiltins x) (nl : s1.heap.NoLimit) (g0 : s1.gens = #[])
    (emp : ∀ p ∈ tabs, s1.heap.get? p.2 = some { cls := .none, data := .fields #[] }) (out : ∀ p ∈ tabs, K.lookup p.2 = none) (hd : ∀ p ∈ tabs, PySem.W.CodeHd s1.heap p.1 p.2)
    (bm : ∃ (m : Addr) (ob : Obj), mg "__builtins__" = some (.ref m) ∧ m ≠ builtinsNs ∧ s1.heap.get? m = some ob ∧ ob.cls = .type "module" ∧ ob.dict = some builtinsNs ∧ ob.data = .plain)
    (tbs : ∀ p ∈ cf.tb, p.1 ∈ tabs.map (·.2)) (scr : s1.heap.get? a = some (scrObj us)) (isI : IntsAre us ns) (few : ns.length ≤ sizeLine) (hr : RoomL k callerA)
    (F : ∀ base : Heap, K.In base → base.Ns mainGlobals mg → (∀ p ∈ tabs, TabB base mg p.1 p.2) → FnG P w K mg base k fa fd [x] (spD K cf 1 r))
    (bind : ∀ (s : Shared) (u : Value), BindsTo s fd ⟨[u], []⟩ [(x, u)]) (goal : ∃ st, r [.kl (ns.map D.int)] [] = .ok (.bl true) st) :
    codeAny (model P w) callerA (.call (.ref fa) ⟨[.ref a], []⟩) (fun res s2 => res = .ok (.ret (.bool true)) ∧ OldK s1.heap s2.heap ∧ s2.os = s1.os ∧ AllBare s2.gens) s1 := by
  have vals : Vals (ns.map V.int) us := vals_ints isI
  have lenU : us.length = ns.length := isI.length
  have inT : ∀ b, b ∈ tabs.map (·.2) → s1.heap.get? b = some { cls := .none, data := .fields #[] } := fun b hb => by
    obtain ⟨p, hp, rfl⟩ := List.mem_map.mp hb
    exact emp p hp
  have aOut : a ∉ tabs.map (·.2) := fun z => by
    have q := inT a z
    rw [scr] at q
    cases congrArg Obj.data (Option.some.inj q)
  obtain ⟨fz, hfz⟩ : ∃ fz : Bool, (fz = true ↔ K.lookup a = none) := ⟨(K.lookup a).isNone, by simp⟩
  have okH : HOk P w (H0 fz a us (ns.map V.int) (tabs.map (·.2))) s1.heap := fun b u q => by
    rcases H0_some q with ⟨_, rfl, rfl⟩ | ⟨hb, rfl⟩
    · exact ⟨scr, by rw [List.length_map]; exact few, us, _, vals, scr⟩
    · exact inT b hb
  have free : ∀ {b : Addr} {o : Obj}, s1.heap.get? b = some o → (∀ vs n, o.data ≠ .seq vs n) → o.data ≠ .fields #[] → H0 fz a us (ns.map V.int) (tabs.map (·.2)) b = none := fun {b o} e n1 n2 => by
    refine H0_none (fun z => ?_) fun z => ?_
    · rw [z.2, scr] at e
      cases e
      exact n1 _ _ rfl
    · rw [inT b z] at e
      cases e
      exact n2 rfl
  have hid : ∀ {b : Addr} {o : Obj}, s1.heap.get? b = some o → H0 fz a us (ns.map V.int) (tabs.map (·.2)) b = none → (hidT s1.heap (H0 fz a us (ns.map V.int) (tabs.map (·.2)))).get? b = some o := fun e n => hidT_get e n
  have hidNs : ∀ {b : Addr} {m : Str → Option Value}, s1.heap.Ns b m → (hidT s1.heap (H0 fz a us (ns.map V.int) (tabs.map (·.2)))).Ns b m := fun {b m} ⟨o, es, ep, e, d, q⟩ =>
    ⟨o, es, ep, hid e (free e (fun _ _ z => by rw [d] at z; cases z) fun z => by rw [d] at z; cases z), d, q⟩
  have kinB : K.In (hidT s1.heap (H0 fz a us (ns.map V.int) (tabs.map (·.2)))) := fun b o e => hid (kin b o e) (H0_none (fun z => by
    rw [z.2, hfz.mp z.1] at e
    cases e) fun z => by
    obtain ⟨p, hp, ep⟩ := List.mem_map.mp z
    rw [← ep, out p hp] at e
    cases e)
  have modB : L2.Mod K mg (hidT s1.heap (H0 fz a us (ns.map V.int) (tabs.map (·.2)))) := ⟨kinB, hidNs gns, ⟨mb, hidNs bns, boot⟩, let ⟨mc, n1, n2⟩ := nl; ⟨mc, hidNs n1, n2⟩⟩
  have tabB : ∀ p ∈ tabs, TabB (hidT s1.heap (H0 fz a us (ns.map V.int) (tabs.map (·.2)))) mg p.1 p.2 := fun p hp => by
    refine ⟨?_, ?_, fun z => ?_⟩
    · obtain ⟨o, vs, file, tf, flags, tg, inF, text, tt, e1, c1, c2, c3, c4, c5, c6, c7, c8, ne⟩ := hd p hp
      exact ⟨o, vs, file, tf, flags, tg, inF, text, tt, hid e1 (free e1 (fun _ _ z => by rw [c2] at z; cases z) fun z => by rw [c2] at z; cases z; simp at c3), c1, c2, c3, c4, c5, c6, c7, c8, ne⟩
    · obtain ⟨m, ob, m1, m2, m3, m4, m5, m6⟩ := bm
      refine ⟨m, ob, m1, m2, fun q => ?_, fun q => ?_, hid m3 (free m3 (fun _ _ z => by rw [m6] at z; cases z) fun z => by rw [m6] at z; cases z), m4, m5, m6⟩
      · obtain ⟨o, es, ep, e, d, _⟩ := gns
        rw [q, e] at m3
        cases m3
        rw [d] at m6
        cases m6
      · rw [q, emp p hp] at m3
        cases m3
        cases m6
    · obtain ⟨o, es, ep, e, d, _⟩ := gns
      rw [z, emp p hp] at e
      cases e
      cases d
  have env : Env0 P w K mg (hidT s1.heap (H0 fz a us (ns.map V.int) (tabs.map (·.2)))) callerA [] s1 (H0 fz a us (ns.map V.int) (tabs.map (·.2))) :=
    ⟨rfl, modB, fun b o e => of_hidT e, Nat.le_of_eq (hidT_size _ _), trivial, fun b hb => absurd (show b ∈ ([] : List Addr) from hb) (by simp), okH, .of_eq g0⟩
  have kl : KlAt K (H0 fz a us (ns.map V.int) (tabs.map (·.2))) a (ns.map V.int) := by
    cases hk : K.lookup a with
    | none => exact .inl ⟨scrObj us, by unfold H0; rw [if_pos ⟨hfz.mpr hk, rfl⟩]⟩
    | some o =>
      have e := kin a o hk
      rw [scr] at e
      cases e
      exact .inr ⟨_, us.toArray, _, hk, rfl, rfl, rfl, by rw [List.size_toArray, lenU]; exact few, by simpa using vals⟩
  have repI : ∀ (l : List Int) (ca : CA) (ρ : Nat → Addr) (n : Nat) (H : Hp), Reps K ca ρ n H (l.map D.int) (l.map V.int) := fun l ca ρ n H => by
    induction l with
    | nil => exact Reps.nil
    | cons i l ih => exact Reps.cons (by simp only [Rep]) ih
  have want : spD K cf 1 r [.ref a] (H0 fz a us (ns.map V.int) (tabs.map (·.2))) (fun v _ => v = .bl true) fun _ _ _ => False := by
    obtain ⟨st, e⟩ := goal
    refine ⟨rfl, [], fun _ => 0, [], [.kl (ns.map D.int)], Reps.cons (by simp only [Rep]; exact ⟨a, _, rfl, kl, repI _ _ _ _ _⟩) Reps.nil, ⟨fun i o z => by simp at z, fun i j z => by simp at z, fun b z => by simp at z, fun p hp => TabS.nil (by
      unfold H0
      rw [if_neg (fun (z : fz = true ∧ p.1 = a) => aOut (by rw [← z.2]; exact tbs p hp)), if_pos (tbs p hp)])⟩, ?_⟩
    rw [e]
    exact fun H' ρ' _ _ v rv => by simpa only [Rep] using rv
  refine codeAny_mono ((F _ kinB (hidNs gns) tabB).run callerA [] s1 _ ⟨[.ref a], []⟩ [.ref a] [.ref a] _ _ hr rfl env (bind s1 (.ref a)) (.cons rfl .nil) want) fun res s2 h => ?_
  match res, h with
  | .error ev, h =>
    obtain ⟨_, _, _, _, _, _, _, _, _, _, _, _, z⟩ := h
    exact z.elim
  | .ok (.ret u), ⟨v, H', os, bare, un, ok', rv, q⟩ =>
    cases (show v = .bl true from q)
    cases (show u = Value.bool true from rv)
    have keep : ∀ b o, b ∉ tabs.map (·.2) → s1.heap.get? b = some o → s2.heap.get? b = some o := fun b o nb e => by
      cases q : H0 fz a us (ns.map V.int) (tabs.map (·.2)) b with
      | none => exact un.keep b o e q (by intro z; exact absurd (show b ∈ ([] : List Addr) from z) (by simp)) (by simp)
      | some w0 =>
        rcases H0_some q with ⟨_, rfl, rfl⟩ | ⟨hb, rfl⟩
        · obtain ⟨e1, _⟩ := ok' _ _ (un.frzs _ _ _ q)
          rw [scr] at e
          cases e
          exact e1
        · exact absurd hb nb
    have grown : ∀ p ∈ tabs, ∃ more : Array Value, s2.heap.get? p.2 = some { cls := .none, data := .fields more } := fun p hp => by
      have hm : p.2 ∈ tabs.map (·.2) := List.mem_map.mpr ⟨p, hp, rfl⟩
      obtain ⟨more, z⟩ := un.tbls p.2 #[] (by unfold H0; rw [if_neg (fun (z : fz = true ∧ p.2 = a) => aOut (by rw [← z.2]; exact hm)), if_pos hm])
      exact ⟨_, ok' p.2 _ z⟩
    refine ⟨rfl, ⟨fun b o e => ?_, fun b o e => ?_⟩, os, bare⟩
    · by_cases hb : b ∈ tabs.map (·.2)
      · obtain ⟨p, hp, rfl⟩ := List.mem_map.mp hb
        obtain ⟨more, hm⟩ := grown p hp
        rw [emp p hp] at e
        cases e
        exact .inr (.inl ⟨((hd p hp).tab (emp p hp)).isCodeTable, rfl, #[], more, rfl, by rw [Array.empty_append]; exact hm⟩)
      · exact .inl (keep b o hb e)
    · by_cases hb : b ∈ tabs.map (·.2)
      · obtain ⟨p, hp, rfl⟩ := List.mem_map.mp hb
        obtain ⟨more, hm⟩ := grown p hp
        exact ⟨_, hm⟩
      · exact ⟨o, keep b o hb e⟩
/-- what the head must give: the written part, the law's function, its tables, its promise -/
def LawG (l : PySem.W.OpenLaw) (w : World) (k n : Nat) (x : Str) (mg : Str → Option Value) (fa : Addr) (h : Heap) : Prop :=
  ∃ (K : PySem.W.Frag) (fd : FuncData) (tabs : List (Addr × Addr)) (cf : CF) (r : Fn), K.In h ∧ (∀ p ∈ tabs, h.get? p.2 = some { cls := .none, data := .fields #[] }) ∧ (∀ p ∈ tabs, K.lookup p.2 = none) ∧ (∀ p ∈ tabs, PySem.W.CodeHd h p.1 p.2) ∧ (∀ p ∈ cf.tb, p.1 ∈ tabs.map (·.2)) ∧
    (∀ (s : Shared) (u : Value), BindsTo s fd ⟨[u], []⟩ [(x, u)]) ∧ (∀ ns : List Int, ns.length ≤ n → (∀ z ∈ ns, Builtin.Int.intBits z ≤ 1048576) → ∃ st, r [.kl (ns.map D.int)] [] = .ok (.bl true) st) ∧
    ∀ base : Heap, K.In base → base.Ns mainGlobals mg → (∀ p ∈ tabs, TabB base mg p.1 p.2) → FnG l.prog w K mg base k fa fd [x] (spD K cf 1 r)
theorem walk_G {l : PySem.W.OpenLaw} {n k : Nat} {q : Program} {loose : List Str} {XP : (Str → Option Value) → Heap → Prop} {YP : World → Heap → Prop} {d : DefRec} {x : Str}
    (hn : l.most = some n) (hn2 : n ≤ sizeLine) (hdf : d.params.defaults = []) (hr : RoomL k callerA)
    (F : ∀ (w : World) (mg : Str → Option Value) (fa : Addr) (h : Heap), YP w h → h.Ns mainGlobals mg → mg d.name = some (.ref fa) → LawG l w k n x mg fa h) :
    PySem.W.WalkO q loose XP YP l.row.toRowW d [] (fun f vs => PySem.call f vs) := by
  refine Att.attach_callB hn hdf fun w s0 s1 mg mb fa o pm cd doc a us ns G Y ho hd hcd hmg hobj hints hlen hbits hg => ?_
  obtain ⟨K, fd, tabs, cf, r, kin, emp, out, hdd, tbs, bind, goal, hF⟩ := F w mg fa _ Y G.T.g hmg
  exact law_end kin G.T.g G.T.b G.T.builtins G.T.nolimit hg emp out hdd G.T.bmain tbs hobj hints (Nat.le_trans hlen hn2) hr hF bind (goal ns hlen hbits)
end DL
set_option Elab.async false
set_option linter.all false
set_option maxRecDepth 100000
set_option maxHeartbeats 4000000
namespace DL
open PySem PySem.Spec PyProof.Rows L2 LamX
/-! what the generator's text leans on -/
structure ConstD (K : PySem.W.Frag) (mg : Str → Option Value) (cf : CF) (x : Str) (d : D) : Prop where
  ex : ∃ v u, mg x = some u ∧ RelV v u ∧ ∀ rv ρ n H, Rep K ⟨cf, rv⟩ ρ n H d v
section
variable {X : Cx} {ca : CA} {W : WX} {a b c e o : Expr} {es rest : List Expr} {f g k : FE} {h : FA} {pos p apos : Pos} {x : Str}
theorem je_gconst {d : D} (T : ConstD X.K X.mg ca.f x d) (hg : Gl X x) (hd : (x == ("__debug__" : Str)) = false := by decide) : JE X ca W (.Name x pos) (fC d) := by
  obtain ⟨v, u, hm, r, rep⟩ := T.ex
  exact je_const (pe_glob hg hm r hd) fun _ _ _ => rep _ _ _ _
def fNeg (f : FE) : FE := fun τ st => (f τ st).bind fun d st1 => match d with
  | .int i => .ok (.int (-i)) st1
  | _ => .bad
theorem je_neg (ha : JE X ca W a f) : JE X ca W (.UnaryOp .USub a pos) (fNeg f) :=
  pe_imp (pe_un un_neg ha) fun σ H Q ⟨ρ, st, τ, sl, s, h⟩ => at_of sl s h fun d ρ1 st1 H1 x1 sl1 s1 h1 v rv => by
    cases d with
    | int i =>
      simp only [Rep] at rv
      exact ⟨i, rv, h1.here s1 _ (by simp only [Rep])⟩
    | _ => exact h1.elim
end
/-- a def of the module; a method; an init -/
structure DefOk (K : PySem.W.Frag) (mg : Str → Option Value) (x : Str) (st : Stmt) : Prop where
  ex : ∃ f fd, FunD K x x (defArgs st) (defBody st) (defScope st) [] [] f fd ∧ mg x = some (.ref f) ∧ f = He.fAd K (x, none)
structure MthOk (K : PySem.W.Frag) (cf : CF) (c m qual : Str) (st : Stmt) : Prop where
  ex : ∃ C f fd, cf c = some C ∧ Cls K C ∧ Meth K C m f ∧ FunD K m qual (defArgs st) (defBody st) (defScope st) [] [] f fd
structure IniOk (K : PySem.W.Frag) (mg : Str → Option Value) (cf : CF) (c qual : Str) (st : Stmt) : Prop where
  ex : ∃ C f fd, cf c = some C ∧ mg c = some (.ref C) ∧ Mk K C f ∧ FunD K "__init__" qual (defArgs st) (defBody st) (defScope st) [] [] f fd
section
variable {P : Program} {w : World} {K : PySem.W.Frag} {mg : Str → Option Value} {base : Heap} {cf : CF} {k n : Nat} {x c m qual : Str} {st : Stmt} {r : Fn} {ps : List Str}
theorem DefOk.cal (D : DefOk K mg x st) (hn : ps.length = n) (F : ∀ {f : Addr} {fd : FuncData}, f = He.fAd K (x, none) → FunD K x x (defArgs st) (defBody st) (defScope st) [] [] f fd → FnG P w K mg base k f fd ps (spD K cf n r))
    (hb : ∀ (kV doc pm : Value) (an : Option Addr) (cdv ct : Value) (us : List Value), us.length = ps.length → bindArgs (PySem.W.fnOf x x (defArgs st) (defBody st) (defScope st) .none kV doc pm an cdv ct) ⟨us, []⟩ = pure (ps.zip us)) : CalG P w K mg base cf k x n r := by
  obtain ⟨f, fd, FD, hm, ef⟩ := D.ex
  exact ⟨f, fd, ps, F ef FD, hm, FD.kp, FD.bindsN hb⟩
theorem MthOk.met (D : MthOk K cf c m qual st) (F : ∀ {f : Addr} {fd : FuncData}, FunD K m qual (defArgs st) (defBody st) (defScope st) [] [] f fd → FnG P w K mg base k f fd ps (spD K cf n r))
    (hb : ∀ (kV doc pm : Value) (an : Option Addr) (cdv ct : Value) (us : List Value), us.length = ps.length → bindArgs (PySem.W.fnOf m qual (defArgs st) (defBody st) (defScope st) .none kV doc pm an cdv ct) ⟨us, []⟩ = pure (ps.zip us)) : MetG P w K mg base cf k c m n r := by
  obtain ⟨C, f, fd, hc, cC, me, FD⟩ := D.ex
  exact ⟨C, f, fd, ps, hc, cC, me, F FD, FD.bindsN hb⟩
theorem IniOk.mak (D : IniOk K mg cf c qual st) (F : ∀ {f : Addr} {fd : FuncData}, FunD K "__init__" qual (defArgs st) (defBody st) (defScope st) [] [] f fd → FnG P w K mg base k f fd ps (spD K cf n r))
    (hb : ∀ (kV doc pm : Value) (an : Option Addr) (cdv ct : Value) (us : List Value), us.length = ps.length → bindArgs (PySem.W.fnOf "__init__" qual (defArgs st) (defBody st) (defScope st) .none kV doc pm an cdv ct) ⟨us, []⟩ = pure (ps.zip us)) : MakG P w K mg base cf k c n r := by
  obtain ⟨C, f, fd, hc, hm, M, FD⟩ := D.ex
  exact ⟨C, f, fd, ps, hc, hm, M, F FD, FD.bindsN hb⟩
/-- nothing is promised -/
theorem fnG_bad {f : Addr} {fd : FuncData} (hn : ps.length = n) : FnG P w K mg base k f fd ps (spD K cf n fun _ _ => .bad) :=
  ⟨fun xs H Q E h => h.1.trans hn.symm, fun A outer s H args us xs Q E _ _ _ _ _ h => by
    obtain ⟨_, _, _, _, _, _, _, h⟩ := h
    exact h.elim⟩
end
end DL
set_option Elab.async false
set_option linter.all false
set_option maxRecDepth 100000
set_option maxHeartbeats 4000000
namespace DL
open PySem PySem.Spec PyProof.Rows L2 LamX
/-! facts of the head, for the walk -/
def cfOf (K : PySem.W.Frag) (tb : List (Addr × Str)) : CF := ⟨fun x => some (He.ga K x), tb⟩
def dvD : He.Dv → D
  | .non => .non
  | .bl b => .bl b
  | .int i => .int i
  | .str x => .str x
  | .glo x => .glb x
  | _ => .non
def dvOk : He.Dv → Bool
  | .non => true
  | .bl _ => true
  | .int _ => true
  | .str _ => true
  | .glo _ => true
  | _ => false
theorem dvD_rep {K : PySem.W.Frag} {tb : List (Addr × Str)} {v : He.Dv} (h : dvOk v = true) (rv : List Addr) (ρ : Nat → Addr) (n : Nat) (H : Hp) : Rep K ⟨cfOf K tb, rv⟩ ρ n H (dvD v) (v.v K) := by
  cases v with
  | non => simp only [dvD, Rep, He.Dv.v]
  | bl b => simp only [dvD, Rep, He.Dv.v]
  | int i => simp only [dvD, Rep, He.Dv.v]
  | str x => simp only [dvD, Rep, He.Dv.v]
  | glo x => simp only [dvD, Rep, He.Dv.v]; exact ⟨_, rfl, rfl⟩
  | _ => cases h
section
variable {K : PySem.W.Frag} {w : World} {mg : Str → Option Value} {h : Heap}
theorem dicW_entries {a : Addr} {P : Params} {ks : List Str} (e : He.dicW K a = some (He.keysIn P ks)) : ∃ es n, K.lookup a = some ⟨.type "dict", none, .dict es n, #[]⟩ ∧ (a == sysModules) = false ∧ es.toList.map He.keyOf = He.keysIn P ks := by
  unfold He.dicW at e
  split at e
  · rename_i c es m sl q
    split at e
    · rename_i z
      simp only [Bool.and_eq_true, decide_eq_true_eq, Bool.not_eq_true', Array.isEmpty_iff] at z
      obtain ⟨rfl, rfl, z⟩ := z
      exact ⟨es, m, q, z, Option.some.inj e⟩
    · cases e
  · cases e
theorem entries_find (P : Params) : ∀ {l : List DictEntry} {ks : List Str} {z : Str}, l.map He.keyOf = He.keysIn P ks → z ∉ ks → l.find? (·.key.isStr z) = none ∧ l.any (·.refKey) = false
  | [], _, _, _, _ => ⟨rfl, rfl⟩
  | e :: l, [], _, h, _ => by cases h
  | e :: l, k :: ks, z, h, hz => by
    have h1 : He.keyOf e :: l.map He.keyOf = some (k, PyData.keyHash P k) :: He.keysIn P ks := h
    injection h1 with h2 h3
    obtain ⟨i1, i2⟩ := entries_find P h3 (fun m => hz (List.mem_cons_of_mem _ m))
    unfold He.keyOf at h2
    split at h2
    · rename_i x t q
      obtain ⟨rfl, _⟩ := Prod.mk.inj (Option.some.inj h2)
      have ne : (e.key.isStr z) = false := by
        rw [q]
        show (x == z) = false
        exact beq_eq_false_iff_ne.mpr fun e => hz (e ▸ List.mem_cons_self)
      refine ⟨by rw [List.find?_cons, ne]; exact i1, ?_⟩
      rw [List.any_cons, i2]
      simp [DictEntry.refKey, q]
    · cases h2
theorem lookup_map {kvs : List (Str × He.Dv)} {z : Str} : (kvs.map fun q => (q.1, dvD q.2)).lookup z = (kvs.lookup z).map dvD := by
  induction kvs with
  | nil => rfl
  | cons q r ih =>
    obtain ⟨k, v⟩ := q
    simp only [List.map_cons, List.lookup_cons]
    cases z == k with
    | true => rfl
    | false => exact ih
theorem lookup_some_mem {α : Type} {kvs : List (Str × α)} {z : Str} {v : α} (h : kvs.lookup z = some v) : (z, v) ∈ kvs := by
  induction kvs with
  | nil => cases h
  | cons q r ih =>
    obtain ⟨k, u⟩ := q
    rw [List.lookup_cons] at h
    cases hb : z == k with
    | true => rw [hb] at h; cases h; rw [beq_iff_eq.mp hb]; exact List.mem_cons_self
    | false => rw [hb] at h; exact List.mem_cons_of_mem _ (ih h)
theorem lookup_none_notin {α : Type} {kvs : List (Str × α)} {z : Str} (h : kvs.lookup z = none) : z ∉ kvs.map (·.1) := by
  induction kvs with
  | nil => simp
  | cons q r ih =>
    obtain ⟨k, u⟩ := q
    rw [List.lookup_cons] at h
    cases hb : z == k with
    | true => rw [hb] at h; cases h
    | false =>
      rw [hb] at h
      simp only [List.map_cons, List.mem_cons, not_or]
      exact ⟨fun e => by rw [e] at hb; simp at hb, ih h⟩
theorem tabD_of {tb : List (Addr × Str)} {x : Str} {kvs : List (Str × He.Dv)} (hm : mg x = some (.ref (He.ga K x))) (e : He.dicW K (He.ga K x) = some (He.keysIn w.params (kvs.map (·.1)))) (hv : He.valsB K (He.ga K x) kvs = true) (ho : kvs.all (fun q => dvOk q.2) = true) :
    TabD K w mg (cfOf K tb) x (kvs.map fun q => (q.1, dvD q.2)) := by
  obtain ⟨es, n, lk, low, ek⟩ := dicW_entries e
  refine ⟨He.ga K x, es, n, hm, ⟨lk, He.keysLit_of ek, low⟩, fun z => ?_⟩
  rw [lookup_map]
  cases q : kvs.lookup z with
  | none =>
    obtain ⟨f1, f2⟩ := entries_find w.params ek (lookup_none_notin q)
    refine .inl ⟨rfl, ?_⟩
    unfold PySem.W.nsIn
    rw [lk]
    show (match es.toList.find? (·.key.isStr z) with | some e => some (some e.val) | none => if es.toList.any (·.refKey) then none else some none) = some none
    rw [f1, f2]
    rfl
  | some v =>
    have mem := lookup_some_mem q
    obtain ⟨u, hu, r⟩ := He.valsB_ok hv mem
    exact .inr ⟨dvD v, u, v.v K, rfl, hu, r, fun rv ρ n H => dvD_rep (List.all_eq_true.mp ho _ mem) rv ρ n H⟩
theorem constD_str {x z : Str} (X : K.In h) (G : h.Ns mainGlobals mg) (c : (He.Fa.str x z).ok K = true) {cf : CF} : ConstD K mg cf x (.str z) := by
  obtain ⟨t, e⟩ := He.str_ok X G c
  exact ⟨.str z, _, e, ⟨t, rfl⟩, fun _ _ _ _ => by simp only [Rep]⟩
theorem constD_int {x : Str} {i : Int} (X : K.In h) (G : h.Ns mainGlobals mg) (c : (He.Fa.int x i).ok K = true) {cf : CF} : ConstD K mg cf x (.int i) := by
  obtain ⟨t, e⟩ := He.int_ok X G c
  exact ⟨.int i, _, e, ⟨t, rfl⟩, fun _ _ _ _ => by simp only [Rep]⟩
variable {fa : List He.Fa} {fn : List He.DefD} {ts : List He.Tab} {tf : List He.Defn} {ex : PySem.W.Frag → Bool}
theorem dicW_at (c : He.SaysT fa fn ts w K) (i : Nat) {t : He.Tab} (e : ts[i]? = some t := by rfl) : He.dicW K (t.1 K) = some (He.keysIn w.params t.2) := by
  have e1 : ts.map (fun t => He.dicW K (t.1 K)) = ts.map fun t => some (He.keysIn w.params t.2) := congrArg (fun z : He.AlT => z.2) c
  have e2 : (ts.map fun t => He.dicW K (t.1 K))[i]? = (ts.map fun t => some (He.keysIn w.params t.2))[i]? := by rw [e1]
  rw [List.getElem?_map, List.getElem?_map, e] at e2
  exact Option.some.inj e2
theorem defOk_of {x : Str} {st : Stmt} (X : K.In h) (G : h.Ns mainGlobals mg) (g : (He.Fa.glo x).ok K = true) (D : ∃ fd, FunD K x x (defArgs st) (defBody st) (defScope st) [] [] (He.fAd K (x, none)) fd) : DefOk K mg x st := by
  obtain ⟨fd, D⟩ := D
  exact ⟨_, fd, D, He.glo_ok X G g, rfl⟩
theorem mthOk_of {tb : List (Addr × Str)} {c m qual : Str} {st : Stmt} (k : (He.Fa.cls c).ok K = true) (g : (He.Fa.meth c m).ok K = true) (D : ∃ fd, FunD K m qual (defArgs st) (defBody st) (defScope st) [] [] (He.fAd K (c, some m)) fd) : MthOk K (cfOf K tb) c m qual st := by
  obtain ⟨fd, D⟩ := D
  exact ⟨_, _, fd, rfl, He.cls_ok k, He.meth_ok g, D⟩
theorem iniOk_of {tb : List (Addr × Str)} {c qual : Str} {st : Stmt} (X : K.In h) (G : h.Ns mainGlobals mg) (k : (He.Fa.glo c).ok K = true) (g : (He.Fa.mkr c).ok K = true) (D : ∃ fd, FunD K "__init__" qual (defArgs st) (defBody st) (defScope st) [] [] (He.fAd K (c, some "__init__")) fd) : IniOk K mg (cfOf K tb) c qual st := by
  obtain ⟨fd, D⟩ := D
  exact ⟨_, _, fd, rfl, He.glo_ok X G k, He.mkr_ok g, D⟩
end
end DL
set_option Elab.async false
set_option linter.all false
set_option maxRecDepth 100000
set_option maxHeartbeats 4000000
namespace DL
open PySem PySem.Spec PyProof.Rows L2
/-! the combinators, evaluated: what comes behind a bind is a named function, so that nothing is looked at ahead of its time -/
@[simp] theorem bind_ok {α β : Type} (a : α) (st : Sto) (k : α → Sto → R β) : (R.ok a st).bind k = k a st := rfl
@[simp] theorem bind_bad {α β : Type} (k : α → Sto → R β) : (R.bad : R α).bind k = .bad := rfl
@[simp] theorem bind_ex {α β : Type} (c : Str) (fs : List (Str × D)) (τ : Ti) (st : Sto) (k : α → Sto → R β) : (R.ex c fs τ st : R α).bind k = .ex c fs τ st := rfl
@[simp] theorem exAt_ok {α : Type} (τ : Ti) (a : α) (st : Sto) : exAt τ (R.ok a st) = .ok a st := rfl
@[simp] theorem exAt_bad {α : Type} (τ : Ti) : exAt τ (R.bad : R α) = .bad := rfl
@[simp] theorem exAt_ex {α : Type} (τ τ' : Ti) (c : Str) (fs : List (Str × D)) (st : Sto) : exAt τ (R.ex c fs τ' st : R α) = .ex c fs τ st := rfl
@[simp] theorem noX_ok {α : Type} (a : α) (st : Sto) : noX (R.ok a st) = .ok a st := rfl
@[simp] theorem noX_bad {α : Type} : noX (R.bad : R α) = .bad := rfl
@[simp] theorem noX_ex {α : Type} (τ' : Ti) (c : Str) (fs : List (Str × D)) (st : Sto) : noX (R.ex c fs τ' st : R α) = .bad := rfl
@[simp] theorem fV_0 (d : D) (τ : Ti) (st : Sto) : fV 0 (some d :: τ) st = .ok d st := rfl
@[simp] theorem fV_1 (o0 : Option D) (d : D) (τ : Ti) (st : Sto) : fV 1 (o0 :: some d :: τ) st = .ok d st := rfl
@[simp] theorem fV_2 (o0 o1 : Option D) (d : D) (τ : Ti) (st : Sto) : fV 2 (o0 :: o1 :: some d :: τ) st = .ok d st := rfl
@[simp] theorem fV_3 (o0 o1 o2 : Option D) (d : D) (τ : Ti) (st : Sto) : fV 3 (o0 :: o1 :: o2 :: some d :: τ) st = .ok d st := rfl
@[simp] theorem fV_4 (o0 o1 o2 o3 : Option D) (d : D) (τ : Ti) (st : Sto) : fV 4 (o0 :: o1 :: o2 :: o3 :: some d :: τ) st = .ok d st := rfl
@[simp] theorem fV_5 (o0 o1 o2 o3 o4 : Option D) (d : D) (τ : Ti) (st : Sto) : fV 5 (o0 :: o1 :: o2 :: o3 :: o4 :: some d :: τ) st = .ok d st := rfl
@[simp] theorem fV_6 (o0 o1 o2 o3 o4 o5 : Option D) (d : D) (τ : Ti) (st : Sto) : fV 6 (o0 :: o1 :: o2 :: o3 :: o4 :: o5 :: some d :: τ) st = .ok d st := rfl
@[simp] theorem fV_7 (o0 o1 o2 o3 o4 o5 o6 : Option D) (d : D) (τ : Ti) (st : Sto) : fV 7 (o0 :: o1 :: o2 :: o3 :: o4 :: o5 :: o6 :: some d :: τ) st = .ok d st := rfl
@[simp] theorem fV_8 (o0 o1 o2 o3 o4 o5 o6 o7 : Option D) (d : D) (τ : Ti) (st : Sto) : fV 8 (o0 :: o1 :: o2 :: o3 :: o4 :: o5 :: o6 :: o7 :: some d :: τ) st = .ok d st := rfl
@[simp] theorem fV_9 (o0 o1 o2 o3 o4 o5 o6 o7 o8 : Option D) (d : D) (τ : Ti) (st : Sto) : fV 9 (o0 :: o1 :: o2 :: o3 :: o4 :: o5 :: o6 :: o7 :: o8 :: some d :: τ) st = .ok d st := rfl
@[simp] theorem fV_10 (o0 o1 o2 o3 o4 o5 o6 o7 o8 o9 : Option D) (d : D) (τ : Ti) (st : Sto) : fV 10 (o0 :: o1 :: o2 :: o3 :: o4 :: o5 :: o6 :: o7 :: o8 :: o9 :: some d :: τ) st = .ok d st := rfl
@[simp] theorem fV_11 (o0 o1 o2 o3 o4 o5 o6 o7 o8 o9 o10 : Option D) (d : D) (τ : Ti) (st : Sto) : fV 11 (o0 :: o1 :: o2 :: o3 :: o4 :: o5 :: o6 :: o7 :: o8 :: o9 :: o10 :: some d :: τ) st = .ok d st := rfl
@[simp] theorem fV_12 (o0 o1 o2 o3 o4 o5 o6 o7 o8 o9 o10 o11 : Option D) (d : D) (τ : Ti) (st : Sto) : fV 12 (o0 :: o1 :: o2 :: o3 :: o4 :: o5 :: o6 :: o7 :: o8 :: o9 :: o10 :: o11 :: some d :: τ) st = .ok d st := rfl
@[simp] theorem fV_13 (o0 o1 o2 o3 o4 o5 o6 o7 o8 o9 o10 o11 o12 : Option D) (d : D) (τ : Ti) (st : Sto) : fV 13 (o0 :: o1 :: o2 :: o3 :: o4 :: o5 :: o6 :: o7 :: o8 :: o9 :: o10 :: o11 :: o12 :: some d :: τ) st = .ok d st := rfl
@[simp] theorem fV_14 (o0 o1 o2 o3 o4 o5 o6 o7 o8 o9 o10 o11 o12 o13 : Option D) (d : D) (τ : Ti) (st : Sto) : fV 14 (o0 :: o1 :: o2 :: o3 :: o4 :: o5 :: o6 :: o7 :: o8 :: o9 :: o10 :: o11 :: o12 :: o13 :: some d :: τ) st = .ok d st := rfl
@[simp] theorem fV_15 (o0 o1 o2 o3 o4 o5 o6 o7 o8 o9 o10 o11 o12 o13 o14 : Option D) (d : D) (τ : Ti) (st : Sto) : fV 15 (o0 :: o1 :: o2 :: o3 :: o4 :: o5 :: o6 :: o7 :: o8 :: o9 :: o10 :: o11 :: o12 :: o13 :: o14 :: some d :: τ) st = .ok d st := rfl
@[simp] theorem fV_16 (o0 o1 o2 o3 o4 o5 o6 o7 o8 o9 o10 o11 o12 o13 o14 o15 : Option D) (d : D) (τ : Ti) (st : Sto) : fV 16 (o0 :: o1 :: o2 :: o3 :: o4 :: o5 :: o6 :: o7 :: o8 :: o9 :: o10 :: o11 :: o12 :: o13 :: o14 :: o15 :: some d :: τ) st = .ok d st := rfl
@[simp] theorem fV_17 (o0 o1 o2 o3 o4 o5 o6 o7 o8 o9 o10 o11 o12 o13 o14 o15 o16 : Option D) (d : D) (τ : Ti) (st : Sto) : fV 17 (o0 :: o1 :: o2 :: o3 :: o4 :: o5 :: o6 :: o7 :: o8 :: o9 :: o10 :: o11 :: o12 :: o13 :: o14 :: o15 :: o16 :: some d :: τ) st = .ok d st := rfl
@[simp] theorem fV_18 (o0 o1 o2 o3 o4 o5 o6 o7 o8 o9 o10 o11 o12 o13 o14 o15 o16 o17 : Option D) (d : D) (τ : Ti) (st : Sto) : fV 18 (o0 :: o1 :: o2 :: o3 :: o4 :: o5 :: o6 :: o7 :: o8 :: o9 :: o10 :: o11 :: o12 :: o13 :: o14 :: o15 :: o16 :: o17 :: some d :: τ) st = .ok d st := rfl
@[simp] theorem fV_19 (o0 o1 o2 o3 o4 o5 o6 o7 o8 o9 o10 o11 o12 o13 o14 o15 o16 o17 o18 : Option D) (d : D) (τ : Ti) (st : Sto) : fV 19 (o0 :: o1 :: o2 :: o3 :: o4 :: o5 :: o6 :: o7 :: o8 :: o9 :: o10 :: o11 :: o12 :: o13 :: o14 :: o15 :: o16 :: o17 :: o18 :: some d :: τ) st = .ok d st := rfl
@[simp] theorem fV_20 (o0 o1 o2 o3 o4 o5 o6 o7 o8 o9 o10 o11 o12 o13 o14 o15 o16 o17 o18 o19 : Option D) (d : D) (τ : Ti) (st : Sto) : fV 20 (o0 :: o1 :: o2 :: o3 :: o4 :: o5 :: o6 :: o7 :: o8 :: o9 :: o10 :: o11 :: o12 :: o13 :: o14 :: o15 :: o16 :: o17 :: o18 :: o19 :: some d :: τ) st = .ok d st := rfl
@[simp] theorem fV_21 (o0 o1 o2 o3 o4 o5 o6 o7 o8 o9 o10 o11 o12 o13 o14 o15 o16 o17 o18 o19 o20 : Option D) (d : D) (τ : Ti) (st : Sto) : fV 21 (o0 :: o1 :: o2 :: o3 :: o4 :: o5 :: o6 :: o7 :: o8 :: o9 :: o10 :: o11 :: o12 :: o13 :: o14 :: o15 :: o16 :: o17 :: o18 :: o19 :: o20 :: some d :: τ) st = .ok d st := rfl
@[simp] theorem fC_eq (d : D) (τ : Ti) (st : Sto) : fC d τ st = .ok d st := rfl
@[simp] theorem aNil_eq (τ : Ti) (st : Sto) : aNil τ st = .ok [] st := rfl
def kCons2 (d : D) (ds : List D) (st : Sto) : R (List D) := .ok (d :: ds) st
def kCons1 (g : FA) (τ : Ti) (d : D) (st : Sto) : R (List D) := (g τ st).bind (kCons2 d)
@[simp] theorem kCons2_eq (d : D) (ds : List D) (st : Sto) : kCons2 d ds st = .ok (d :: ds) st := rfl
@[simp] theorem kCons1_eq (g : FA) (τ : Ti) (d : D) (st : Sto) : kCons1 g τ d st = (g τ st).bind (kCons2 d) := rfl
@[simp] theorem aCons_eq (f : FE) (g : FA) (τ : Ti) (st : Sto) : aCons f g τ st = (f τ st).bind (kCons1 g τ) := rfl
def kTup (ds : List D) (st : Sto) : R D := if ds.length ≤ sizeLine then .ok (.tup ds) st else .bad
def kLv (ds : List D) (st : Sto) : R D := if ds.length ≤ sizeLine then .ok (.lv ds) st else .bad
def kLst (ds : List D) (st : Sto) : R D := if ds.length ≤ sizeLine then .ok (.obj st.length) (st ++ [.lst ds]) else .bad
@[simp] theorem fTup_eq (h : FA) (τ : Ti) (st : Sto) : fTup h τ st = (h τ st).bind kTup := rfl
@[simp] theorem fLv_eq (h : FA) (τ : Ti) (st : Sto) : fLv h τ st = (h τ st).bind kLv := rfl
@[simp] theorem fLst_eq (h : FA) (τ : Ti) (st : Sto) : fLst h τ st = (h τ st).bind kLst := rfl
theorem kTup_le {ds : List D} (h : ds.length ≤ sizeLine) (st : Sto) : kTup ds st = .ok (.tup ds) st := if_pos h
theorem kLv_le {ds : List D} (h : ds.length ≤ sizeLine) (st : Sto) : kLv ds st = .ok (.lv ds) st := if_pos h
theorem kLst_le {ds : List D} (h : ds.length ≤ sizeLine) (st : Sto) : kLst ds st = .ok (.obj st.length) (st ++ [.lst ds]) := if_pos h
@[simp] theorem kTup_0 (st : Sto) : kTup [] st = .ok (.tup []) st := if_pos (by rw [sizeLine_eq]; simp)
@[simp] theorem kLv_0 (st : Sto) : kLv [] st = .ok (.lv []) st := if_pos (by rw [sizeLine_eq]; simp)
@[simp] theorem kLst_0 (st : Sto) : kLst [] st = .ok (.obj st.length) (st ++ [.lst []]) := if_pos (by rw [sizeLine_eq]; simp)
@[simp] theorem kTup_1 (x0 : D) (st : Sto) : kTup [x0] st = .ok (.tup [x0]) st := if_pos (by rw [sizeLine_eq]; simp)
@[simp] theorem kLv_1 (x0 : D) (st : Sto) : kLv [x0] st = .ok (.lv [x0]) st := if_pos (by rw [sizeLine_eq]; simp)
@[simp] theorem kLst_1 (x0 : D) (st : Sto) : kLst [x0] st = .ok (.obj st.length) (st ++ [.lst [x0]]) := if_pos (by rw [sizeLine_eq]; simp)
@[simp] theorem kTup_2 (x0 x1 : D) (st : Sto) : kTup [x0, x1] st = .ok (.tup [x0, x1]) st := if_pos (by rw [sizeLine_eq]; simp)
@[simp] theorem kLv_2 (x0 x1 : D) (st : Sto) : kLv [x0, x1] st = .ok (.lv [x0, x1]) st := if_pos (by rw [sizeLine_eq]; simp)
@[simp] theorem kLst_2 (x0 x1 : D) (st : Sto) : kLst [x0, x1] st = .ok (.obj st.length) (st ++ [.lst [x0, x1]]) := if_pos (by rw [sizeLine_eq]; simp)
@[simp] theorem kTup_3 (x0 x1 x2 : D) (st : Sto) : kTup [x0, x1, x2] st = .ok (.tup [x0, x1, x2]) st := if_pos (by rw [sizeLine_eq]; simp)
@[simp] theorem kLv_3 (x0 x1 x2 : D) (st : Sto) : kLv [x0, x1, x2] st = .ok (.lv [x0, x1, x2]) st := if_pos (by rw [sizeLine_eq]; simp)
@[simp] theorem kLst_3 (x0 x1 x2 : D) (st : Sto) : kLst [x0, x1, x2] st = .ok (.obj st.length) (st ++ [.lst [x0, x1, x2]]) := if_pos (by rw [sizeLine_eq]; simp)
@[simp] theorem kTup_4 (x0 x1 x2 x3 : D) (st : Sto) : kTup [x0, x1, x2, x3] st = .ok (.tup [x0, x1, x2, x3]) st := if_pos (by rw [sizeLine_eq]; simp)
@[simp] theorem kLv_4 (x0 x1 x2 x3 : D) (st : Sto) : kLv [x0, x1, x2, x3] st = .ok (.lv [x0, x1, x2, x3]) st := if_pos (by rw [sizeLine_eq]; simp)
@[simp] theorem kLst_4 (x0 x1 x2 x3 : D) (st : Sto) : kLst [x0, x1, x2, x3] st = .ok (.obj st.length) (st ++ [.lst [x0, x1, x2, x3]]) := if_pos (by rw [sizeLine_eq]; simp)
@[simp] theorem kTup_5 (x0 x1 x2 x3 x4 : D) (st : Sto) : kTup [x0, x1, x2, x3, x4] st = .ok (.tup [x0, x1, x2, x3, x4]) st := if_pos (by rw [sizeLine_eq]; simp)
@[simp] theorem kLv_5 (x0 x1 x2 x3 x4 : D) (st : Sto) : kLv [x0, x1, x2, x3, x4] st = .ok (.lv [x0, x1, x2, x3, x4]) st := if_pos (by rw [sizeLine_eq]; simp)
@[simp] theorem kLst_5 (x0 x1 x2 x3 x4 : D) (st : Sto) : kLst [x0, x1, x2, x3, x4] st = .ok (.obj st.length) (st ++ [.lst [x0, x1, x2, x3, x4]]) := if_pos (by rw [sizeLine_eq]; simp)
@[simp] theorem kTup_6 (x0 x1 x2 x3 x4 x5 : D) (st : Sto) : kTup [x0, x1, x2, x3, x4, x5] st = .ok (.tup [x0, x1, x2, x3, x4, x5]) st := if_pos (by rw [sizeLine_eq]; simp)
@[simp] theorem kLv_6 (x0 x1 x2 x3 x4 x5 : D) (st : Sto) : kLv [x0, x1, x2, x3, x4, x5] st = .ok (.lv [x0, x1, x2, x3, x4, x5]) st := if_pos (by rw [sizeLine_eq]; simp)
@[simp] theorem kLst_6 (x0 x1 x2 x3 x4 x5 : D) (st : Sto) : kLst [x0, x1, x2, x3, x4, x5] st = .ok (.obj st.length) (st ++ [.lst [x0, x1, x2, x3, x4, x5]]) := if_pos (by rw [sizeLine_eq]; simp)
@[simp] theorem kTup_7 (x0 x1 x2 x3 x4 x5 x6 : D) (st : Sto) : kTup [x0, x1, x2, x3, x4, x5, x6] st = .ok (.tup [x0, x1, x2, x3, x4, x5, x6]) st := if_pos (by rw [sizeLine_eq]; simp)
@[simp] theorem kLv_7 (x0 x1 x2 x3 x4 x5 x6 : D) (st : Sto) : kLv [x0, x1, x2, x3, x4, x5, x6] st = .ok (.lv [x0, x1, x2, x3, x4, x5, x6]) st := if_pos (by rw [sizeLine_eq]; simp)
@[simp] theorem kLst_7 (x0 x1 x2 x3 x4 x5 x6 : D) (st : Sto) : kLst [x0, x1, x2, x3, x4, x5, x6] st = .ok (.obj st.length) (st ++ [.lst [x0, x1, x2, x3, x4, x5, x6]]) := if_pos (by rw [sizeLine_eq]; simp)
@[simp] theorem kTup_8 (x0 x1 x2 x3 x4 x5 x6 x7 : D) (st : Sto) : kTup [x0, x1, x2, x3, x4, x5, x6, x7] st = .ok (.tup [x0, x1, x2, x3, x4, x5, x6, x7]) st := if_pos (by rw [sizeLine_eq]; simp)
@[simp] theorem kLv_8 (x0 x1 x2 x3 x4 x5 x6 x7 : D) (st : Sto) : kLv [x0, x1, x2, x3, x4, x5, x6, x7] st = .ok (.lv [x0, x1, x2, x3, x4, x5, x6, x7]) st := if_pos (by rw [sizeLine_eq]; simp)
@[simp] theorem kLst_8 (x0 x1 x2 x3 x4 x5 x6 x7 : D) (st : Sto) : kLst [x0, x1, x2, x3, x4, x5, x6, x7] st = .ok (.obj st.length) (st ++ [.lst [x0, x1, x2, x3, x4, x5, x6, x7]]) := if_pos (by rw [sizeLine_eq]; simp)
@[simp] theorem kTup_9 (x0 x1 x2 x3 x4 x5 x6 x7 x8 : D) (st : Sto) : kTup [x0, x1, x2, x3, x4, x5, x6, x7, x8] st = .ok (.tup [x0, x1, x2, x3, x4, x5, x6, x7, x8]) st := if_pos (by rw [sizeLine_eq]; simp)
@[simp] theorem kLv_9 (x0 x1 x2 x3 x4 x5 x6 x7 x8 : D) (st : Sto) : kLv [x0, x1, x2, x3, x4, x5, x6, x7, x8] st = .ok (.lv [x0, x1, x2, x3, x4, x5, x6, x7, x8]) st := if_pos (by rw [sizeLine_eq]; simp)
@[simp] theorem kLst_9 (x0 x1 x2 x3 x4 x5 x6 x7 x8 : D) (st : Sto) : kLst [x0, x1, x2, x3, x4, x5, x6, x7, x8] st = .ok (.obj st.length) (st ++ [.lst [x0, x1, x2, x3, x4, x5, x6, x7, x8]]) := if_pos (by rw [sizeLine_eq]; simp)
@[simp] theorem kTup_10 (x0 x1 x2 x3 x4 x5 x6 x7 x8 x9 : D) (st : Sto) : kTup [x0, x1, x2, x3, x4, x5, x6, x7, x8, x9] st = .ok (.tup [x0, x1, x2, x3, x4, x5, x6, x7, x8, x9]) st := if_pos (by rw [sizeLine_eq]; simp)
@[simp] theorem kLv_10 (x0 x1 x2 x3 x4 x5 x6 x7 x8 x9 : D) (st : Sto) : kLv [x0, x1, x2, x3, x4, x5, x6, x7, x8, x9] st = .ok (.lv [x0, x1, x2, x3, x4, x5, x6, x7, x8, x9]) st := if_pos (by rw [sizeLine_eq]; simp)
@[simp] theorem kLst_10 (x0 x1 x2 x3 x4 x5 x6 x7 x8 x9 : D) (st : Sto) : kLst [x0, x1, x2, x3, x4, x5, x6, x7, x8, x9] st = .ok (.obj st.length) (st ++ [.lst [x0, x1, x2, x3, x4, x5, x6, x7, x8, x9]]) := if_pos (by rw [sizeLine_eq]; simp)
@[simp] theorem kTup_11 (x0 x1 x2 x3 x4 x5 x6 x7 x8 x9 x10 : D) (st : Sto) : kTup [x0, x1, x2, x3, x4, x5, x6, x7, x8, x9, x10] st = .ok (.tup [x0, x1, x2, x3, x4, x5, x6, x7, x8, x9, x10]) st := if_pos (by rw [sizeLine_eq]; simp)
@[simp] theorem kLv_11 (x0 x1 x2 x3 x4 x5 x6 x7 x8 x9 x10 : D) (st : Sto) : kLv [x0, x1, x2, x3, x4, x5, x6, x7, x8, x9, x10] st = .ok (.lv [x0, x1, x2, x3, x4, x5, x6, x7, x8, x9, x10]) st := if_pos (by rw [sizeLine_eq]; simp)
@[simp] theorem kLst_11 (x0 x1 x2 x3 x4 x5 x6 x7 x8 x9 x10 : D) (st : Sto) : kLst [x0, x1, x2, x3, x4, x5, x6, x7, x8, x9, x10] st = .ok (.obj st.length) (st ++ [.lst [x0, x1, x2, x3, x4, x5, x6, x7, x8, x9, x10]]) := if_pos (by rw [sizeLine_eq]; simp)
@[simp] theorem kTup_12 (x0 x1 x2 x3 x4 x5 x6 x7 x8 x9 x10 x11 : D) (st : Sto) : kTup [x0, x1, x2, x3, x4, x5, x6, x7, x8, x9, x10, x11] st = .ok (.tup [x0, x1, x2, x3, x4, x5, x6, x7, x8, x9, x10, x11]) st := if_pos (by rw [sizeLine_eq]; simp)
@[simp] theorem kLv_12 (x0 x1 x2 x3 x4 x5 x6 x7 x8 x9 x10 x11 : D) (st : Sto) : kLv [x0, x1, x2, x3, x4, x5, x6, x7, x8, x9, x10, x11] st = .ok (.lv [x0, x1, x2, x3, x4, x5, x6, x7, x8, x9, x10, x11]) st := if_pos (by rw [sizeLine_eq]; simp)
@[simp] theorem kLst_12 (x0 x1 x2 x3 x4 x5 x6 x7 x8 x9 x10 x11 : D) (st : Sto) : kLst [x0, x1, x2, x3, x4, x5, x6, x7, x8, x9, x10, x11] st = .ok (.obj st.length) (st ++ [.lst [x0, x1, x2, x3, x4, x5, x6, x7, x8, x9, x10, x11]]) := if_pos (by rw [sizeLine_eq]; simp)
def kOp2 (o : D → D → Sto → R D) (d e : D) (st : Sto) : R D := o d e st
def kOp1 (o : D → D → Sto → R D) (g : FE) (τ : Ti) (d : D) (st : Sto) : R D := (g τ st).bind (kOp2 o d)
@[simp] theorem kOp2_eq (o : D → D → Sto → R D) (d e : D) (st : Sto) : kOp2 o d e st = o d e st := rfl
@[simp] theorem kOp1_eq (o : D → D → Sto → R D) (g : FE) (τ : Ti) (d : D) (st : Sto) : kOp1 o g τ d st = (g τ st).bind (kOp2 o d) := rfl
@[simp] theorem fOp_eq (o : D → D → Sto → R D) (f g : FE) (τ : Ti) (st : Sto) : fOp o f g τ st = (f τ st).bind (kOp1 o g τ) := rfl
def kBof : D → Sto → R Bool := fun d st => match d with
  | .bl b => .ok b st
  | _ => .bad
@[simp] theorem kBof_bl (b : Bool) (st : Sto) : kBof (.bl b) st = .ok b st := rfl
@[simp] theorem bOf_eq (f : FE) (τ : Ti) (st : Sto) : bOf f τ st = (f τ st).bind kBof := rfl
def kTru (d : D) (st : Sto) : R Bool := match tru st d with
  | some b => .ok b st
  | none => .bad
@[simp] theorem bTru_eq (f : FE) (τ : Ti) (st : Sto) : bTru f τ st = (f τ st).bind kTru := rfl
@[simp] theorem kTru_bl (b : Bool) (st : Sto) : kTru (.bl b) st = .ok b st := rfl
@[simp] theorem kTru_non (st : Sto) : kTru .non st = .ok false st := rfl
@[simp] theorem oNo_eq (τ : Ti) (st : Sto) : oNo τ st = .ok none st := rfl
def kSo : D → Sto → R (Option Int) := fun d st => match d with
  | .int i => .ok (some i) st
  | _ => .bad
@[simp] theorem kSo_int (i : Int) (st : Sto) : kSo (.int i) st = .ok (some i) st := rfl
@[simp] theorem oSo_eq (f : FE) (τ : Ti) (st : Sto) : oSo f τ st = (f τ st).bind kSo := rfl
def kSl3 (d : D) (l m : Option Int) (st : Sto) : R D := opSl d l m st
def kSl2 (hi : FO) (τ : Ti) (d : D) (l : Option Int) (st : Sto) : R D := (hi τ st).bind (kSl3 d l)
def kSl1 (lo hi : FO) (τ : Ti) (d : D) (st : Sto) : R D := (lo τ st).bind (kSl2 hi τ d)
@[simp] theorem kSl3_eq (d : D) (l m : Option Int) (st : Sto) : kSl3 d l m st = opSl d l m st := rfl
@[simp] theorem kSl2_eq (hi : FO) (τ : Ti) (d : D) (l : Option Int) (st : Sto) : kSl2 hi τ d l st = (hi τ st).bind (kSl3 d l) := rfl
@[simp] theorem kSl1_eq (lo hi : FO) (τ : Ti) (d : D) (st : Sto) : kSl1 lo hi τ d st = (lo τ st).bind (kSl2 hi τ d) := rfl
@[simp] theorem fSl_eq (f : FE) (lo hi : FO) (τ : Ti) (st : Sto) : fSl f lo hi τ st = (f τ st).bind (kSl1 lo hi τ) := rfl
def kAnd (g : FB) (τ : Ti) (x : Bool) (st : Sto) : R Bool := if x = true then g τ st else .ok false st
def kOr (g : FB) (τ : Ti) (x : Bool) (st : Sto) : R Bool := if x = true then .ok true st else g τ st
def kNot (x : Bool) (st : Sto) : R Bool := .ok (!x) st
@[simp] theorem kAnd_t (g : FB) (τ : Ti) (st : Sto) : kAnd g τ true st = g τ st := rfl
@[simp] theorem kAnd_f (g : FB) (τ : Ti) (st : Sto) : kAnd g τ false st = .ok false st := rfl
@[simp] theorem kOr_t (g : FB) (τ : Ti) (st : Sto) : kOr g τ true st = .ok true st := rfl
@[simp] theorem kOr_f (g : FB) (τ : Ti) (st : Sto) : kOr g τ false st = g τ st := rfl
@[simp] theorem kNot_eq (x : Bool) (st : Sto) : kNot x st = .ok (!x) st := rfl
@[simp] theorem bAnd_eq (f g : FB) (τ : Ti) (st : Sto) : bAnd f g τ st = (f τ st).bind (kAnd g τ) := rfl
@[simp] theorem bOr_eq (f g : FB) (τ : Ti) (st : Sto) : bOr f g τ st = (f τ st).bind (kOr g τ) := rfl
@[simp] theorem bNot_eq (f : FB) (τ : Ti) (st : Sto) : bNot f τ st = (f τ st).bind kNot := rfl
@[simp] theorem bYes_eq (τ : Ti) (st : Sto) : bYes τ st = .ok true st := rfl
def kFif (f g : FE) (τ : Ti) (x : Bool) (st : Sto) : R D := if x = true then f τ st else g τ st
@[simp] theorem kFif_t (f g : FE) (τ : Ti) (st : Sto) : kFif f g τ true st = f τ st := rfl
@[simp] theorem kFif_f (f g : FE) (τ : Ti) (st : Sto) : kFif f g τ false st = g τ st := rfl
@[simp] theorem fIf_eq (t : FB) (f g : FE) (τ : Ti) (st : Sto) : fIf t f g τ st = (t τ st).bind (kFif f g τ) := rfl
def kFneg : D → Sto → R D := fun d st => match d with
  | .int i => .ok (.int (-i)) st
  | _ => .bad
@[simp] theorem kFneg_int (i : Int) (st : Sto) : kFneg (.int i) st = .ok (.int (-i)) st := rfl
@[simp] theorem fNeg_eq (f : FE) (τ : Ti) (st : Sto) : fNeg f τ st = (f τ st).bind kFneg := rfl
def kSeq (v : FS) (o : Out) (st : Sto) : R Out := match o with
  | .nx τ1 => v τ1 st
  | o => .ok o st
@[simp] theorem kSeq_nx (v : FS) (τ : Ti) (st : Sto) : kSeq v (.nx τ) st = v τ st := rfl
@[simp] theorem kSeq_rt (v : FS) (d : D) (st : Sto) : kSeq v (.rt d) st = .ok (.rt d) st := rfl
@[simp] theorem kSeq_bk (v : FS) (τ : Ti) (st : Sto) : kSeq v (.bk τ) st = .ok (.bk τ) st := rfl
@[simp] theorem kSeq_ct (v : FS) (τ : Ti) (st : Sto) : kSeq v (.ct τ) st = .ok (.ct τ) st := rfl
@[simp] theorem sSeq_eq (u v : FS) (τ : Ti) (st : Sto) : sSeq u v τ st = (u τ st).bind (kSeq v) := by
  unfold sSeq; congr 1
@[simp] theorem sNil_eq (τ : Ti) (st : Sto) : sNil τ st = .ok (.nx τ) st := rfl
def kExp (τ : Ti) (d : D) (st : Sto) : R Out := .ok (.nx τ) st
@[simp] theorem kExp_eq (τ : Ti) (d : D) (st : Sto) : kExp τ d st = .ok (.nx τ) st := rfl
@[simp] theorem sExp_eq (f : FE) (τ : Ti) (st : Sto) : sExp f τ st = (f τ st).bind (kExp τ) := rfl
def kRet (d : D) (st : Sto) : R Out := .ok (.rt d) st
@[simp] theorem kRet_eq (d : D) (st : Sto) : kRet d st = .ok (.rt d) st := rfl
@[simp] theorem sRet_eq (f : FE) (τ : Ti) (st : Sto) : sRet f τ st = (f τ st).bind kRet := rfl
@[simp] theorem sRetN_eq (τ : Ti) (st : Sto) : sRetN τ st = .ok (.rt .non) st := rfl
@[simp] theorem sBrk_eq (τ : Ti) (st : Sto) : sBrk τ st = .ok (.bk τ) st := rfl
@[simp] theorem sCnt_eq (τ : Ti) (st : Sto) : sCnt τ st = .ok (.ct τ) st := rfl
def kSif (u v : FS) (τ : Ti) (x : Bool) (st : Sto) : R Out := if x = true then u τ st else v τ st
@[simp] theorem kSif_t (u v : FS) (τ : Ti) (st : Sto) : kSif u v τ true st = u τ st := rfl
@[simp] theorem kSif_f (u v : FS) (τ : Ti) (st : Sto) : kSif u v τ false st = v τ st := rfl
@[simp] theorem sIf_eq (t : FB) (u v : FS) (τ : Ti) (st : Sto) : sIf t u v τ st = (t τ st).bind (kSif u v τ) := rfl
def kSet (i : Nat) (τ : Ti) (d : D) (st : Sto) : R Out := .ok (.nx (τ.set i (some d))) st
@[simp] theorem kSet_eq (i : Nat) (τ : Ti) (d : D) (st : Sto) : kSet i τ d st = .ok (.nx (τ.set i (some d))) st := rfl
@[simp] theorem sSet_eq (i : Nat) (f : FE) (τ : Ti) (st : Sto) : sSet i f τ st = (f τ st).bind (kSet i τ) := rfl
@[simp] theorem gN_eq (i : Nat) (d : D) (τ : Ti) (st : Sto) : gN i d τ st = .ok (τ.set i (some d)) st := rfl
@[simp] theorem gNilD_eq (τ : Ti) (st : Sto) : gNilD [] τ st = .ok τ st := rfl
@[simp] theorem gConsD_eq (g : FG) (h : FGs) (d : D) (r : List D) (τ : Ti) (st : Sto) : gConsD g h (d :: r) τ st = (g d τ st).bind (h r) := rfl
theorem gTupD_tup {n : Nat} {h : FGs} {ds : List D} (e : ds.length = n) (τ : Ti) (st : Sto) : gTupD n h (.tup ds) τ st = h ds τ st := if_pos e
@[simp] theorem gTupD_2 (h : FGs) (a b : D) (τ : Ti) (st : Sto) : gTupD 2 h (.tup [a, b]) τ st = h [a, b] τ st := rfl
@[simp] theorem gTupD_3 (h : FGs) (a b c : D) (τ : Ti) (st : Sto) : gTupD 3 h (.tup [a, b, c]) τ st = h [a, b, c] τ st := rfl
def kAsg2 (τ : Ti) (st : Sto) : R Out := .ok (.nx τ) st
def kAsg1 (g : FG) (τ : Ti) (d : D) (st : Sto) : R Out := (g d τ st).bind kAsg2
@[simp] theorem kAsg2_eq (τ : Ti) (st : Sto) : kAsg2 τ st = .ok (.nx τ) st := rfl
@[simp] theorem kAsg1_eq (g : FG) (τ : Ti) (d : D) (st : Sto) : kAsg1 g τ d st = (g d τ st).bind kAsg2 := rfl
@[simp] theorem sAsg_eq (f : FE) (g : FG) (τ : Ti) (st : Sto) : sAsg f g τ st = (f τ st).bind (kAsg1 g τ) := rfl
def kSub3 (τ : Ti) (_ : Unit) (st : Sto) : R Ti := .ok τ st
def kSub2 (τ : Ti) (d o i : D) (st : Sto) : R Ti := (putItem o i d st).bind (kSub3 τ)
def kSub1 (g : FE) (τ : Ti) (d o : D) (st : Sto) : R Ti := (g τ st).bind (kSub2 τ d o)
@[simp] theorem kSub3_eq (τ : Ti) (x : Unit) (st : Sto) : kSub3 τ x st = .ok τ st := rfl
@[simp] theorem kSub2_eq (τ : Ti) (d o i : D) (st : Sto) : kSub2 τ d o i st = (putItem o i d st).bind (kSub3 τ) := rfl
@[simp] theorem kSub1_eq (g : FE) (τ : Ti) (d o : D) (st : Sto) : kSub1 g τ d o st = (g τ st).bind (kSub2 τ d o) := rfl
@[simp] theorem gSubD_eq (f g : FE) (d : D) (τ : Ti) (st : Sto) : gSubD f g d τ st = (f τ st).bind (kSub1 g τ d) := rfl
def kB (r : Fn) (ds : List D) (st : Sto) : R D := r ds st
@[simp] theorem kB_eq (r : Fn) (ds : List D) (st : Sto) : kB r ds st = r ds st := rfl
@[simp] theorem fB_eq (r : Fn) (h : FA) (τ : Ti) (st : Sto) : fB r h τ st = (h τ st).bind (kB r) := rfl
def kTupOf (d : D) (st : Sto) : R D := oTup d st
@[simp] theorem kTupOf_eq (d : D) (st : Sto) : kTupOf d st = oTup d st := rfl
@[simp] theorem fTupOf_eq (f : FE) (τ : Ti) (st : Sto) : fTupOf f τ st = (f τ st).bind kTupOf := rfl
def kCall (n : Nat) (r : Fn) (τ : Ti) (ds : List D) (st : Sto) : R D := if ds.length = n then exAt τ (r ds st) else .bad
theorem kCall_eq {n : Nat} (r : Fn) (τ : Ti) {ds : List D} (h : ds.length = n) (st : Sto) : kCall n r τ ds st = exAt τ (r ds st) := if_pos h
@[simp] theorem fCallN_eq (n : Nat) (r : Fn) (h : FA) (τ : Ti) (st : Sto) : fCallN n r h τ st = (h τ st).bind (kCall n r τ) := rfl
@[simp] theorem kCall_0 (r : Fn) (τ : Ti) (st : Sto) : kCall 0 r τ [] st = exAt τ (r [] st) := rfl
@[simp] theorem kCall_1 (r : Fn) (τ : Ti) (x0 : D) (st : Sto) : kCall 1 r τ [x0] st = exAt τ (r [x0] st) := rfl
@[simp] theorem kCall_2 (r : Fn) (τ : Ti) (x0 x1 : D) (st : Sto) : kCall 2 r τ [x0, x1] st = exAt τ (r [x0, x1] st) := rfl
@[simp] theorem kCall_3 (r : Fn) (τ : Ti) (x0 x1 x2 : D) (st : Sto) : kCall 3 r τ [x0, x1, x2] st = exAt τ (r [x0, x1, x2] st) := rfl
@[simp] theorem kCall_4 (r : Fn) (τ : Ti) (x0 x1 x2 x3 : D) (st : Sto) : kCall 4 r τ [x0, x1, x2, x3] st = exAt τ (r [x0, x1, x2, x3] st) := rfl
@[simp] theorem kCall_5 (r : Fn) (τ : Ti) (x0 x1 x2 x3 x4 : D) (st : Sto) : kCall 5 r τ [x0, x1, x2, x3, x4] st = exAt τ (r [x0, x1, x2, x3, x4] st) := rfl
@[simp] theorem kCall_6 (r : Fn) (τ : Ti) (x0 x1 x2 x3 x4 x5 : D) (st : Sto) : kCall 6 r τ [x0, x1, x2, x3, x4, x5] st = exAt τ (r [x0, x1, x2, x3, x4, x5] st) := rfl
@[simp] theorem kCall_7 (r : Fn) (τ : Ti) (x0 x1 x2 x3 x4 x5 x6 : D) (st : Sto) : kCall 7 r τ [x0, x1, x2, x3, x4, x5, x6] st = exAt τ (r [x0, x1, x2, x3, x4, x5, x6] st) := rfl
@[simp] theorem kCall_8 (r : Fn) (τ : Ti) (x0 x1 x2 x3 x4 x5 x6 x7 : D) (st : Sto) : kCall 8 r τ [x0, x1, x2, x3, x4, x5, x6, x7] st = exAt τ (r [x0, x1, x2, x3, x4, x5, x6, x7] st) := rfl
def kMt2 (r : D → List D → Sto → R D) (d : D) (ds : List D) (st : Sto) : R D := r d ds st
def kMt1 (r : D → List D → Sto → R D) (h : FA) (τ : Ti) (d : D) (st : Sto) : R D := match mlOf st d with
  | some _ => (h τ st).bind (kMt2 r d)
  | none => .bad
@[simp] theorem kMt2_eq (r : D → List D → Sto → R D) (d : D) (ds : List D) (st : Sto) : kMt2 r d ds st = r d ds st := rfl
theorem kMt1_eq {st : Sto} {k : Nat} {xs : List D} (q : st[k]? = some (.lst xs)) (r : D → List D → Sto → R D) (h : FA) (τ : Ti) : kMt1 r h τ (.obj k) st = (h τ st).bind (kMt2 r (.obj k)) := by
  have e : mlOf st (.obj k) = some xs := by simp only [mlOf, q]
  unfold kMt1; rw [e]
@[simp] theorem fMt_eq (r : D → List D → Sto → R D) (f : FE) (h : FA) (τ : Ti) (st : Sto) : fMt r f h τ st = (f τ st).bind (kMt1 r h τ) := rfl
def kInTab (tab : List (Str × D)) (d : D) (st : Sto) : R Bool := match d with
  | .str z => .ok (tab.lookup z).isSome st
  | _ => .bad
def kNotInTab (tab : List (Str × D)) (d : D) (st : Sto) : R Bool := match d with
  | .str z => .ok (!(tab.lookup z).isSome) st
  | _ => .bad
def kIxTab (tab : List (Str × D)) (d : D) (st : Sto) : R D := match d with
  | .str z => ofO (tab.lookup z) st
  | _ => .bad
@[simp] theorem kInTab_eq (tab : List (Str × D)) (z : Str) (st : Sto) : kInTab tab (.str z) st = .ok (tab.lookup z).isSome st := rfl
@[simp] theorem kNotInTab_eq (tab : List (Str × D)) (z : Str) (st : Sto) : kNotInTab tab (.str z) st = .ok (!(tab.lookup z).isSome) st := rfl
@[simp] theorem kIxTab_eq (tab : List (Str × D)) (z : Str) (st : Sto) : kIxTab tab (.str z) st = ofO (tab.lookup z) st := rfl
@[simp] theorem bInTab_eq (tab : List (Str × D)) (f : FE) (τ : Ti) (st : Sto) : bInTab tab f τ st = (f τ st).bind (kInTab tab) := rfl
@[simp] theorem bNotInTab_eq (tab : List (Str × D)) (f : FE) (τ : Ti) (st : Sto) : bNotInTab tab f τ st = (f τ st).bind (kNotInTab tab) := rfl
@[simp] theorem fIxTab_eq (tab : List (Str × D)) (f : FE) (τ : Ti) (st : Sto) : fIxTab tab f τ st = (f τ st).bind (kIxTab tab) := by
  unfold fIxTab; congr 1
def kRun (o : Out) (st : Sto) : R D := match o with
  | .rt d => .ok d st
  | .nx _ => .ok .non st
  | _ => .bad
@[simp] theorem kRun_rt (d : D) (st : Sto) : kRun (.rt d) st = .ok d st := rfl
@[simp] theorem kRun_nx (τ : Ti) (st : Sto) : kRun (.nx τ) st = .ok .non st := rfl
theorem runB_eq (u : FS) (n : Nat) (ds : List D) (st : Sto) : runB u n ds st = (u (ds.map some ++ List.replicate (n - ds.length) none) st).bind kRun := rfl
/-! loops -/
def kFor (g : FG) (u : FS) (τ : Ti) (src : Src) (st : Sto) : R Out := match src with
  | .imm ds => forD g u ds τ st
  | .obj k => forO g u k forMost 0 τ st
@[simp] theorem kFor_imm (g : FG) (u : FS) (τ : Ti) (ds : List D) (st : Sto) : kFor g u τ (.imm ds) st = forD g u ds τ st := rfl
@[simp] theorem kFor_obj (g : FG) (u : FS) (τ : Ti) (k : Nat) (st : Sto) : kFor g u τ (.obj k) st = forO g u k forMost 0 τ st := rfl
@[simp] theorem sFor_eq (f : FI) (g : FG) (u : FS) (τ : Ti) (st : Sto) : sFor f g u τ st = (f τ st).bind (kFor g u τ) := by
  unfold sFor; congr 1
def kIv (d : D) (st : Sto) : R Src := match srcOf st d with
  | some s => .ok s st
  | none => .bad
@[simp] theorem iV_eq (f : FE) (τ : Ti) (st : Sto) : iV f τ st = (f τ st).bind kIv := rfl
@[simp] theorem kIv_tup (ds : List D) (st : Sto) : kIv (.tup ds) st = .ok (.imm ds) st := rfl
@[simp] theorem kIv_ktup (ds : List D) (st : Sto) : kIv (.ktup ds) st = .ok (.imm ds) st := rfl
@[simp] theorem kIv_lv (ds : List D) (st : Sto) : kIv (.lv ds) st = .ok (.imm ds) st := rfl
@[simp] theorem kIv_kl (ds : List D) (st : Sto) : kIv (.kl ds) st = .ok (.imm ds) st := rfl
theorem kIv_obj {st : Sto} {k : Nat} {xs : List D} (q : st[k]? = some (.lst xs)) : kIv (.obj k) st = .ok (.obj k) st := by
  have e : srcOf st (.obj k) = some (.obj k) := by simp only [srcOf, q]
  unfold kIv; rw [e]
def kRng1 (d : D) (st : Sto) : R Src := match d with
  | .int j => if smallI j = true then .ok (.imm (runD 0 j.toNat)) st else .bad
  | _ => .bad
theorem kRng1_eq {j : Int} (h : smallI j = true) (st : Sto) : kRng1 (.int j) st = .ok (.imm (runD 0 j.toNat)) st := if_pos h
@[simp] theorem iRng1D_eq (f : FE) (τ : Ti) (st : Sto) : iRng1D f τ st = (f τ st).bind kRng1 := rfl
def kRng2b (d e : D) (st : Sto) : R Src := match d, e with
  | .int i, .int j => if (smallI i && smallI j) = true then .ok (.imm (runD i (j - i).toNat)) st else .bad
  | _, _ => .bad
def kRng2a (g : FE) (τ : Ti) (d : D) (st : Sto) : R Src := (g τ st).bind (kRng2b d)
theorem kRng2b_eq {i j : Int} (h : (smallI i && smallI j) = true) (st : Sto) : kRng2b (.int i) (.int j) st = .ok (.imm (runD i (j - i).toNat)) st := if_pos h
@[simp] theorem kRng2a_eq (g : FE) (τ : Ti) (d : D) (st : Sto) : kRng2a g τ d st = (g τ st).bind (kRng2b d) := rfl
@[simp] theorem iRng2D_eq (f g : FE) (τ : Ti) (st : Sto) : iRng2D f g τ st = (f τ st).bind (kRng2a g τ) := rfl
def kTurn2 (next : Ti → Sto → R Out) (o : Out) (st : Sto) : R Out := afterTurn next o st
def kTurn1 (u : FS) (next : Ti → Sto → R Out) (τ : Ti) (st : Sto) : R Out := (u τ st).bind (kTurn2 next)
@[simp] theorem kTurn1_eq (u : FS) (next : Ti → Sto → R Out) (τ : Ti) (st : Sto) : kTurn1 u next τ st = (u τ st).bind (kTurn2 next) := rfl
@[simp] theorem kTurn2_nx (next : Ti → Sto → R Out) (τ : Ti) (st : Sto) : kTurn2 next (.nx τ) st = next τ st := rfl
@[simp] theorem kTurn2_ct (next : Ti → Sto → R Out) (τ : Ti) (st : Sto) : kTurn2 next (.ct τ) st = next τ st := rfl
@[simp] theorem kTurn2_bk (next : Ti → Sto → R Out) (τ : Ti) (st : Sto) : kTurn2 next (.bk τ) st = .ok (.nx τ) st := rfl
@[simp] theorem kTurn2_rt (next : Ti → Sto → R Out) (d : D) (st : Sto) : kTurn2 next (.rt d) st = .ok (.rt d) st := rfl
theorem forD_nil (g : FG) (u : FS) (τ : Ti) (st : Sto) : forD g u [] τ st = .ok (.nx τ) st := rfl
theorem forD_cons (g : FG) (u : FS) (d : D) (ds : List D) (τ : Ti) (st : Sto) : forD g u (d :: ds) τ st = (g d τ st).bind (kTurn1 u (forD g u ds)) := rfl
def kWhile (u : FS) (next : FS) (τ : Ti) (x : Bool) (st : Sto) : R Out := if x = true then (u τ st).bind (kTurn2 next) else .ok (.nx τ) st
@[simp] theorem kWhile_t (u : FS) (next : FS) (τ : Ti) (st : Sto) : kWhile u next τ true st = (u τ st).bind (kTurn2 next) := rfl
@[simp] theorem kWhile_f (u : FS) (next : FS) (τ : Ti) (st : Sto) : kWhile u next τ false st = .ok (.nx τ) st := rfl
theorem whileD_succ (t : FB) (u : FS) (n : Nat) (τ : Ti) (st : Sto) : whileD t u (n + 1) τ st = (t τ st).bind (kWhile u (whileD t u n) τ) := rfl
/-! comprehensions -/
def kLc (fin : List D → Sto → R D) (g : FG) (vs : List Nat) (t : FB) (e : FE) (τ : Ti) (src : Src) (st : Sto) : R D := match src with
  | .imm ds => lcD g t e (wipeT τ vs) fin ds [] st
  | .obj k => lcO g t e (wipeT τ vs) fin k forMost 0 [] st
@[simp] theorem kLc_imm (fin : List D → Sto → R D) (g : FG) (vs : List Nat) (t : FB) (e : FE) (τ : Ti) (ds : List D) (st : Sto) : kLc fin g vs t e τ (.imm ds) st = lcD g t e (wipeT τ vs) fin ds [] st := rfl
@[simp] theorem kLc_obj (fin : List D → Sto → R D) (g : FG) (vs : List Nat) (t : FB) (e : FE) (τ : Ti) (k : Nat) (st : Sto) : kLc fin g vs t e τ (.obj k) st = lcO g t e (wipeT τ vs) fin k forMost 0 [] st := rfl
@[simp] theorem fLcG_eq (fin : List D → Sto → R D) (f : FI) (g : FG) (vs : List Nat) (t : FB) (e : FE) (τ : Ti) (st : Sto) : fLcG fin f g vs t e τ st = (f τ st).bind (kLc fin g vs t e τ) := by
  unfold fLcG; congr 1
@[simp] theorem finLv_eq (ys : List D) (st : Sto) : finLv ys st = .ok (.lv ys) st := rfl
@[simp] theorem finO_eq (ys : List D) (st : Sto) : finO ys st = .ok (.obj st.length) (st ++ [.lst ys]) := rfl
theorem lcD_nil {β : Type} (g : FG) (t : FB) (e : FE) (τ : Ti) (fin : List D → Sto → R β) (acc : List D) (st : Sto) : lcD g t e τ fin [] acc st = fin acc st := rfl
/-- one item: the target, the test, the element -/
def lcOne (g : FG) (t : FB) (e : FE) (τ : Ti) (d : D) (st : Sto) : R (Option D) := (noX (g d τ st)).bind fun τ1 st1 => (noX (t τ1 st1)).bind fun x st2 => if x = true then (noX (e τ1 st2)).bind fun y st3 => .ok (some y) st3 else .ok none st2
theorem lcD_cons {β : Type} (g : FG) (t : FB) (e : FE) (τ : Ti) (fin : List D → Sto → R β) (d : D) (ds acc : List D) (st : Sto) :
    lcD g t e τ fin (d :: ds) acc st = (lcOne g t e τ d st).bind fun y st1 => match y with
      | some y => if acc.length < sizeLine then lcD g t e τ fin ds (acc ++ [y]) st1 else .bad
      | none => lcD g t e τ fin ds acc st1 := by
  unfold lcOne
  show (noX (g d τ st)).bind _ = _
  cases hg : g d τ st with
  | ok τ1 st1 =>
    show (noX (t τ1 st1)).bind _ = R.bind ((noX (t τ1 st1)).bind _) _
    cases ht : t τ1 st1 with
    | ok x st2 =>
      cases x with
      | false => rfl
      | true =>
        show (noX (e τ1 st2)).bind _ = R.bind ((noX (e τ1 st2)).bind _) _
        cases e τ1 st2 <;> rfl
    | ex _ _ _ _ => rfl
    | bad => rfl
  | ex _ _ _ _ => rfl
  | bad => rfl
/-- a comprehension whose elements change nothing -/
theorem lcD_map {β : Type} {g : FG} {t : FB} {e : FE} {τ : Ti} {fin : List D → Sto → R β} {st : Sto} (m : D → Option D) : ∀ {ds acc : List D}, (∀ d, d ∈ ds → lcOne g t e τ d st = .ok (m d) st) → acc.length + ds.length ≤ sizeLine →
    lcD g t e τ fin ds acc st = fin (acc ++ ds.filterMap m) st
  | [], acc, _, _ => by rw [lcD_nil]; simp
  | d :: ds, acc, h, hl => by
    rw [lcD_cons, h d List.mem_cons_self, bind_ok]
    simp only [List.length_cons] at hl
    cases q : m d with
    | none =>
      show lcD g t e τ fin ds acc st = _
      rw [lcD_map m (fun x hx => h x (List.mem_cons_of_mem _ hx)) (by omega)]
      simp [q]
    | some y =>
      show (if acc.length < sizeLine then lcD g t e τ fin ds (acc ++ [y]) st else .bad) = _
      rw [if_pos (by omega), lcD_map m (fun x hx => h x (List.mem_cons_of_mem _ hx)) (by simp; omega)]
      simp [q]
/-! attributes, methods -/
def kFld (c y : Str) (d : D) (st : Sto) : R D := match insOf st c d with
  | some fs => ofO (fs.lookup y) st
  | none => .bad
@[simp] theorem fFld_eq (c y : Str) (f : FE) (τ : Ti) (st : Sto) : fFld c y f τ st = (f τ st).bind (kFld c y) := by
  unfold fFld; congr 1
def kSfld3 (τ : Ti) (_ : Unit) (st : Sto) : R Out := .ok (.nx τ) st
def kSfld2 (c y : Str) (τ : Ti) (d o : D) (st : Sto) : R Out := (putAttr c y o d st).bind (kSfld3 τ)
def kSfld1 (c y : Str) (f : FE) (τ : Ti) (d : D) (st : Sto) : R Out := (f τ st).bind (kSfld2 c y τ d)
@[simp] theorem kSfld3_eq (τ : Ti) (x : Unit) (st : Sto) : kSfld3 τ x st = .ok (.nx τ) st := rfl
@[simp] theorem kSfld2_eq (c y : Str) (τ : Ti) (d o : D) (st : Sto) : kSfld2 c y τ d o st = (putAttr c y o d st).bind (kSfld3 τ) := rfl
@[simp] theorem kSfld1_eq (c y : Str) (f : FE) (τ : Ti) (d : D) (st : Sto) : kSfld1 c y f τ d st = (f τ st).bind (kSfld2 c y τ d) := rfl
@[simp] theorem sFldD_eq (c y : Str) (f g : FE) (τ : Ti) (st : Sto) : sFldD c y f g τ st = (g τ st).bind (kSfld1 c y f τ) := rfl
def kMeth (n : Nat) (r : Fn) (τ : Ti) (d : D) (ds : List D) (st : Sto) : R D := if ds.length + 1 = n then exAt τ (r (d :: ds) st) else .bad
def kMeth1 (c m : Str) (n : Nat) (r : Fn) (h : FA) (τ : Ti) (d : D) (st : Sto) : R D := match insOf st c d with
  | some fs => if fs.lookup m = none then (h τ st).bind (kMeth n r τ d) else .bad
  | none => .bad
@[simp] theorem fMethN_eq (c m : Str) (n : Nat) (r : Fn) (f : FE) (h : FA) (τ : Ti) (st : Sto) : fMethN c m n r f h τ st = (f τ st).bind (kMeth1 c m n r h τ) := rfl
@[simp] theorem fDnewK_eq (τ : Ti) (st : Sto) : fDnewK τ st = .ok (.obj st.length) (st ++ [.dic []]) := rfl
@[simp] theorem fDnewT_eq (τ : Ti) (st : Sto) : fDnewT τ st = .ok (.obj st.length) (st ++ [.dit []]) := rfl
/-! operators -/
theorem atI_nat {α : Type} (xs : List α) (i : Nat) : atI xs (i : Int) = xs[i]? := by
  unfold atI ixN
  rw [if_pos (Int.natCast_nonneg i)]
  by_cases h : i < xs.length
  · rw [if_pos (by omega)]; simp
  · rw [if_neg (by omega), List.getElem?_eq_none (by omega)]; rfl
@[simp] theorem atI_0 {α : Type} (x : α) (r : List α) : atI (x :: r) 0 = some x := atI_nat (x :: r) 0
@[simp] theorem atI_1 {α : Type} (x y : α) (r : List α) : atI (x :: y :: r) 1 = some y := atI_nat (x :: y :: r) 1
@[simp] theorem atI_2 {α : Type} (x y z : α) (r : List α) : atI (x :: y :: z :: r) 2 = some z := atI_nat (x :: y :: z :: r) 2
@[simp] theorem atI_3 {α : Type} (x y z u : α) (r : List α) : atI (x :: y :: z :: u :: r) 3 = some u := atI_nat (x :: y :: z :: u :: r) 3
@[simp] theorem atI_4 {α : Type} (x y z u v : α) (r : List α) : atI (x :: y :: z :: u :: v :: r) 4 = some v := atI_nat (x :: y :: z :: u :: v :: r) 4
theorem opIx_seq {d : D} {ds : List D} {st : Sto} (q : seqOf st d = some ds) (ns : ∀ z, d ≠ .str z) (i : Int) : opIx d (.int i) st = ofO (atI ds i) st := by
  unfold opIx
  split
  · rename_i z; exact absurd rfl (ns z)
  · rw [q]; unfold ofO; rfl
@[simp] theorem opIx_tup (ds : List D) (i : Int) (st : Sto) : opIx (.tup ds) (.int i) st = ofO (atI ds i) st := opIx_seq rfl (by intro z h; cases h) i
@[simp] theorem opIx_ktup (ds : List D) (i : Int) (st : Sto) : opIx (.ktup ds) (.int i) st = ofO (atI ds i) st := opIx_seq rfl (by intro z h; cases h) i
@[simp] theorem opIx_lv (ds : List D) (i : Int) (st : Sto) : opIx (.lv ds) (.int i) st = ofO (atI ds i) st := opIx_seq rfl (by intro z h; cases h) i
@[simp] theorem opIx_kl (ds : List D) (i : Int) (st : Sto) : opIx (.kl ds) (.int i) st = ofO (atI ds i) st := opIx_seq rfl (by intro z h; cases h) i
theorem opIx_obj {ds : List D} {k : Nat} {st : Sto} (q : st[k]? = some (.lst ds)) (i : Int) : opIx (.obj k) (.int i) st = ofO (atI ds i) st := opIx_seq (by simp only [seqOf, listOf, q]) (by intro z h; cases h) i
@[simp] theorem ofO_some (d : D) (st : Sto) : ofO (some d) st = .ok d st := rfl
@[simp] theorem ofO_none (st : Sto) : ofO none st = .bad := rfl
@[simp] theorem opEq_str (x y : Str) (st : Sto) : opEq (.str x) (.str y) st = .ok (.bl (decide (x = y))) st := rfl
@[simp] theorem opEq_int (x y : Int) (st : Sto) : opEq (.int x) (.int y) st = .ok (.bl (decide (x = y))) st := rfl
@[simp] theorem opEq_bl (x y : Bool) (st : Sto) : opEq (.bl x) (.bl y) st = .ok (.bl (decide (x = y))) st := rfl
@[simp] theorem opNe_str (x y : Str) (st : Sto) : opNe (.str x) (.str y) st = .ok (.bl (!decide (x = y))) st := rfl
@[simp] theorem opNe_int (x y : Int) (st : Sto) : opNe (.int x) (.int y) st = .ok (.bl (!decide (x = y))) st := rfl
@[simp] theorem opLt_int (x y : Int) (st : Sto) : opLt (.int x) (.int y) st = .ok (.bl (decide (x < y))) st := rfl
@[simp] theorem opLe_int (x y : Int) (st : Sto) : opLe (.int x) (.int y) st = .ok (.bl (decide (x ≤ y))) st := rfl
@[simp] theorem opGt_int (x y : Int) (st : Sto) : opGt (.int x) (.int y) st = .ok (.bl (decide (y < x))) st := rfl
@[simp] theorem opGe_int (x y : Int) (st : Sto) : opGe (.int x) (.int y) st = .ok (.bl (decide (y ≤ x))) st := rfl
@[simp] theorem opSub_int (x y : Int) (st : Sto) : opSub (.int x) (.int y) st = .ok (.int (x - y)) st := rfl
@[simp] theorem opAddA_int (x y : Int) (st : Sto) : opAddA (.int x) (.int y) st = .ok (.int (x + y)) st := rfl
@[simp] theorem oIsi2_tuple (d : D) (st : Sto) : oIsi2 [d, .ty "tuple"] st = oIsi "tuple" d st := rfl
@[simp] theorem oIsi_tup (ds : List D) (st : Sto) : oIsi "tuple" (.tup ds) st = .ok (.bl true) st := rfl
@[simp] theorem oIsi_ktup (ds : List D) (st : Sto) : oIsi "tuple" (.ktup ds) st = .ok (.bl true) st := rfl
@[simp] theorem oIsi_str (x : Str) (st : Sto) : oIsi "tuple" (.str x) st = .ok (.bl false) st := rfl
@[simp] theorem oIsi_int (x : Int) (st : Sto) : oIsi "tuple" (.int x) st = .ok (.bl false) st := rfl
@[simp] theorem oIsi_bl (x : Bool) (st : Sto) : oIsi "tuple" (.bl x) st = .ok (.bl false) st := rfl
@[simp] theorem oIsi_non (st : Sto) : oIsi "tuple" .non st = .ok (.bl false) st := rfl
@[simp] theorem oInt_int (i : Int) (st : Sto) : oInt [.int i] st = .ok (.int i) st := rfl
@[simp] theorem oInt_bl (k : Bool) (st : Sto) : oInt [.bl k] st = .ok (.int (if k then 1 else 0)) st := rfl
/-- a walk over a value that stays -/
def kForV (f : FE) (g : FG) (u : FS) (τ : Ti) (st : Sto) : R D → R Out := fun q => match q with
  | .ok (.tup ds) st1 => forD g u ds τ st1
  | .ok (.ktup ds) st1 => forD g u ds τ st1
  | .ok (.lv ds) st1 => forD g u ds τ st1
  | .ok (.kl ds) st1 => forD g u ds τ st1
  | _ => sForV f g u τ st
@[simp] theorem kForV_tup (f : FE) (g : FG) (u : FS) (τ : Ti) (st st1 : Sto) (ds : List D) : kForV f g u τ st (.ok (.tup ds) st1) = forD g u ds τ st1 := rfl
@[simp] theorem kForV_ktup (f : FE) (g : FG) (u : FS) (τ : Ti) (st st1 : Sto) (ds : List D) : kForV f g u τ st (.ok (.ktup ds) st1) = forD g u ds τ st1 := rfl
@[simp] theorem kForV_lv (f : FE) (g : FG) (u : FS) (τ : Ti) (st st1 : Sto) (ds : List D) : kForV f g u τ st (.ok (.lv ds) st1) = forD g u ds τ st1 := rfl
@[simp] theorem kForV_kl (f : FE) (g : FG) (u : FS) (τ : Ti) (st st1 : Sto) (ds : List D) : kForV f g u τ st (.ok (.kl ds) st1) = forD g u ds τ st1 := rfl
theorem sForV_eq (f : FE) (g : FG) (u : FS) (τ : Ti) (st : Sto) : sForV f g u τ st = kForV f g u τ st (f τ st) := by
  have key : ∀ {d : D} {st1 : Sto} {ds : List D}, f τ st = .ok d st1 → srcOf st1 d = some (.imm ds) → (∀ k, d ≠ .obj k) → sForV f g u τ st = forD g u ds τ st1 := fun {d st1 ds} e q no => by
    have nd : isDic f τ st = false := by
      unfold isDic; rw [e]
      cases d <;> first | rfl | exact absurd rfl (no _)
    unfold sForV
    rw [if_neg (by rw [nd]; decide)]
    show (iV f τ st).bind _ = _
    rw [show iV f τ st = .ok (.imm ds) st1 by unfold iV; rw [e]; simp only [R.bind]; rw [q]]
    rfl
  cases e : f τ st with
  | ok d st1 =>
    cases d with
    | tup ds => exact key e rfl (fun _ z => by cases z)
    | ktup ds => exact key e rfl (fun _ z => by cases z)
    | lv ds => exact key e rfl (fun _ z => by cases z)
    | kl ds => exact key e rfl (fun _ z => by cases z)
    | _ => rfl
  | ex c fs τ' st' => rfl
  | bad => rfl
/-- a comprehension, item by item, where nothing changes -/
theorem lcD_list {β : Type} {g : FG} {t : FB} {e : FE} {τ : Ti} {fin : List D → Sto → R β} {st : Sto} : ∀ {ps : List (D × D)} {acc : List D}, (∀ p, p ∈ ps → lcOne g t e τ p.1 st = .ok (some p.2) st) → acc.length + ps.length ≤ sizeLine →
    lcD g t e τ fin (ps.map (·.1)) acc st = fin (acc ++ ps.map (·.2)) st
  | [], acc, _, _ => by rw [List.map_nil, lcD_nil]; simp
  | p :: ps, acc, h, hl => by
    simp only [List.length_cons] at hl
    rw [List.map_cons, lcD_cons, h p List.mem_cons_self, bind_ok]
    show (if acc.length < sizeLine then lcD g t e τ fin (ps.map (·.1)) (acc ++ [p.2]) st else .bad) = _
    rw [if_pos (by omega), lcD_list (fun x hx => h x (List.mem_cons_of_mem _ hx)) (by simp; omega)]
    simp
@[simp] theorem oTup_lv (ds : List D) (st : Sto) : oTup (.lv ds) st = .ok (.tup ds) st := rfl
@[simp] theorem oTup_tup (ds : List D) (st : Sto) : oTup (.tup ds) st = .ok (.tup ds) st := rfl
theorem small_le {n : Nat} (h : n ≤ 16777216) : n ≤ sizeLine := by rw [sizeLine_eq]; exact h
end DL
set_option Elab.async false
set_option linter.all false
set_option maxRecDepth 100000
set_option maxHeartbeats 4000000
namespace DL
open PySem PySem.Spec PyProof.Rows L2
/-! the expressions of the small language, as trees -/
inductive Ex where
  | name (x : Str) | num (n : Int) | tru (b : Bool) | emp
  | fn (x : Str) (b : Ex) | rc (f x : Str) (b : Ex) | call (a b : Ex) | lt (x : Str) (a b : Ex) | ite (a b c : Ex)
  | op (o : Str) (a b : Ex) | ext (l : Str) (a b : Ex) | sel (l : Str) (a : Ex) | drp (l : Str) (a : Ex)
namespace Ex
def enc : Ex → D
  | name x => .tup [.str "name", .str x]
  | num n => .tup [.str "number", .int n]
  | tru b => .tup [.str "truth", .bl b]
  | emp => .tup [.str "empty"]
  | fn x b => .tup [.str "fun", .str x, enc b]
  | rc f x b => .tup [.str "rec", .str f, .str x, enc b]
  | call a b => .tup [.str "call", enc a, enc b]
  | lt x a b => .tup [.str "let", .str x, enc a, enc b]
  | ite a b c => .tup [.str "if", enc a, enc b, enc c]
  | op o a b => .tup [.str "op", .str o, enc a, enc b]
  | ext l a b => .tup [.str "extend", .str l, enc a, enc b]
  | sel l a => .tup [.str "select", .str l, enc a]
  | drp l a => .tup [.str "drop", .str l, enc a]
def size : Ex → Nat
  | name _ => 1 | num _ => 1 | tru _ => 1 | emp => 1
  | fn _ b => size b + 1 | rc _ _ b => size b + 1 | call a b => size a + size b + 1 | lt _ a b => size a + size b + 1 | ite a b c => size a + size b + size c + 1
  | op _ a b => size a + size b + 1 | ext _ a b => size a + size b + 1 | sel _ a => size a + 1 | drp _ a => size a + 1
/-- the longest way down -/
def high : Ex → Nat
  | name _ => 1 | num _ => 1 | tru _ => 1 | emp => 1
  | fn _ b => high b + 1 | rc _ _ b => high b + 1 | call a b => max (high a) (high b) + 1 | lt _ a b => max (high a) (high b) + 1 | ite a b c => max (max (high a) (high b)) (high c) + 1
  | op _ a b => max (high a) (high b) + 1 | ext _ a b => max (high a) (high b) + 1 | sel _ a => high a + 1 | drp _ a => high a + 1
def kids : Ex → List Ex
  | name _ => [] | num _ => [] | tru _ => [] | emp => []
  | fn _ b => [b] | rc _ _ b => [b] | call a b => [a, b] | lt _ a b => [a, b] | ite a b c => [a, b, c]
  | op _ a b => [a, b] | ext _ a b => [a, b] | sel _ a => [a] | drp _ a => [a]
def wordS (x : Str) : Prop := x.cps.size ≤ 16 ∧ (x.cps.toList.all fun c => decide (c < 16 ^ 8)) = true
def shortS (x : Str) : Prop := x.cps.size ≤ 4 ∧ (x.cps.toList.all fun c => decide (c < 1114112)) = true
def shortI (n : Int) : Prop := n.natAbs < 10 ^ 12
/-- its words are short -/
def Good : Ex → Prop
  | name x => shortS x | num n => shortI n | tru _ => True | emp => True
  | fn x b => shortS x ∧ Good b | rc f x b => shortS f ∧ shortS x ∧ Good b | call a b => Good a ∧ Good b | lt x a b => shortS x ∧ Good a ∧ Good b | ite a b c => Good a ∧ Good b ∧ Good c
  | op o a b => shortS o ∧ Good a ∧ Good b | ext l a b => shortS l ∧ Good a ∧ Good b | sel l a => shortS l ∧ Good a | drp l a => shortS l ∧ Good a
theorem high_le : ∀ e : Ex, high e ≤ size e := by
  intro e
  induction e <;> simp only [high, size] <;> omega
theorem size_pos : ∀ e : Ex, 1 ≤ size e := by intro e; cases e <;> simp only [size] <;> omega
def py : Ex → PyData
  | name x => .tuple [.str "name", .str x]
  | num n => .tuple [.str "number", .int n]
  | tru b => .tuple [.str "truth", .bool b]
  | emp => .tuple [.str "empty"]
  | fn x b => .tuple [.str "fun", .str x, py b]
  | rc f x b => .tuple [.str "rec", .str f, .str x, py b]
  | call a b => .tuple [.str "call", py a, py b]
  | lt x a b => .tuple [.str "let", .str x, py a, py b]
  | ite a b c => .tuple [.str "if", py a, py b, py c]
  | op o a b => .tuple [.str "op", .str o, py a, py b]
  | ext l a b => .tuple [.str "extend", .str l, py a, py b]
  | sel l a => .tuple [.str "select", .str l, py a]
  | drp l a => .tuple [.str "drop", .str l, py a]
theorem toPy_enc : ∀ e : Ex, toPy (enc e) = some (py e) := by
  intro e
  induction e <;> simp only [enc, py, toPy, toPys, Option.map] <;> simp_all
theorem enc_seq (e : Ex) : ∃ ds, enc e = .tup ds := by cases e <;> exact ⟨_, rfl⟩
theorem toPyS_enc (e : Ex) (st : Sto) : toPyS st (enc e) = some (py e) := by
  obtain ⟨ds, h⟩ := enc_seq e
  have := toPy_enc e
  rw [h] at this ⊢
  exact this
/-- data that may be told -/
structure Fine (p : PyData) (h w : Nat) : Prop where
  sh : p.showable = true
  nd : p.hasDict = false
  ls : p.leavesShort 13 = true
  dp : p.depth ≤ h
  wt : p.weight ≤ w
structure FineAll (ps : List PyData) (h w : Nat) : Prop where
  sh : PyData.showableAll ps = true
  nd : PyData.hasDictAll ps = false
  ls : PyData.leavesShortAll 13 ps = true
  dp : PyData.depthAll ps ≤ h
  wt : PyData.weightAll ps ≤ w
theorem FineAll.nil {h : Nat} : FineAll [] h 0 := ⟨rfl, rfl, rfl, Nat.zero_le _, Nat.zero_le _⟩
theorem FineAll.cons {p : PyData} {ps : List PyData} {h w w' : Nat} (a : Fine p h w) (b : FineAll ps h w') : FineAll (p :: ps) h (w + 1 + w') :=
  ⟨by simp only [PyData.showableAll, a.sh, b.sh, Bool.and_true], by simp only [PyData.hasDictAll, a.nd, b.nd, Bool.or_false], by simp only [PyData.leavesShortAll, a.ls, b.ls, Bool.and_true],
    by simp only [PyData.depthAll]; exact Nat.max_le.mpr ⟨a.dp, b.dp⟩, by simp only [PyData.weightAll]; have := a.wt; have := b.wt; omega⟩
theorem FineAll.tup {ps : List PyData} {h w : Nat} (a : FineAll ps h w) : Fine (.tuple ps) (h + 1) w :=
  ⟨by simp only [PyData.showable]; exact a.sh, by simp only [PyData.hasDict]; exact a.nd, by simp only [PyData.leavesShort]; exact a.ls, by simp only [PyData.depth]; have := a.dp; omega, by simp only [PyData.weight]; exact a.wt⟩
theorem FineAll.lst {ps : List PyData} {h w : Nat} (a : FineAll ps h w) : Fine (.list ps) (h + 1) w :=
  ⟨by simp only [PyData.showable]; exact a.sh, by simp only [PyData.hasDict]; exact a.nd, by simp only [PyData.leavesShort]; exact a.ls, by simp only [PyData.depth]; have := a.dp; omega, by simp only [PyData.weight]; exact a.wt⟩
theorem shortS.w {x : Str} (s : shortS x) : wordS x := ⟨Nat.le_trans s.1 (by decide), List.all_eq_true.mpr fun c hc => decide_eq_true (Nat.lt_trans (of_decide_eq_true (List.all_eq_true.mp s.2 c hc)) (by decide))⟩
theorem Fine.str {x : Str} {h : Nat} (s : wordS x) : Fine (.str x) h 16 :=
  ⟨rfl, rfl, by simp only [PyData.leavesShort]; exact s.2, by simp only [PyData.depth]; exact Nat.zero_le _, by simp only [PyData.weight]; exact s.1⟩
theorem Fine.int {n : Int} {h : Nat} (s : shortI n) : Fine (.int n) h 64 := by
  have hl : n.natAbs.log2 < 63 := by
    by_cases z : n.natAbs = 0
    · rw [z]; decide
    · exact (Nat.log2_lt z).mpr (Nat.lt_trans s (by decide))
  refine ⟨?_, rfl, ?_, ?_, ?_⟩
  · simp only [PyData.showable, decide_eq_true_eq]; omega
  · simp only [PyData.leavesShort, decide_eq_true_eq]; exact PyData.shown_int_le s
  · simp only [PyData.depth]; exact Nat.zero_le _
  · simp only [PyData.weight]; split <;> omega
theorem Fine.bool {b : Bool} {h : Nat} : Fine (.bool b) h 0 := ⟨rfl, rfl, rfl, by simp only [PyData.depth]; exact Nat.zero_le _, by simp only [PyData.weight]; exact Nat.le_refl _⟩
theorem Fine.mono {p : PyData} {h h' w w' : Nat} (a : Fine p h w) (i : h ≤ h') (j : w ≤ w') : Fine p h' w' := ⟨a.sh, a.nd, a.ls, Nat.le_trans a.dp i, Nat.le_trans a.wt j⟩
/-- what repr tells of it -/
theorem Fine.repr {d : D} {st : Sto} {p : PyData} {h w : Nat} (a : Fine p h w) (e : toPyS st d = some p) (q : (seqOf st d).isSome = true) (hh : h ≤ 2000) (hw : w ≤ 2 ^ 20) : oRepr [d] st = .ok (.str p.shown) st := by
  unfold oRepr
  simp only [e]
  exact if_pos ⟨a.sh, a.nd, Nat.le_trans a.dp hh, PyData.shown_fits (by decide) (by decide) a.ls (Nat.le_trans a.wt hw), q⟩
theorem wS {x : Str} (h : shortS x := by exact ⟨by decide, by decide⟩) : shortS x := h
theorem wT {x : Str} (h : wordS x := by exact ⟨by decide, by decide⟩) : wordS x := h
theorem fine_py : ∀ e : Ex, Good e → Fine (py e) (high e + 1) (128 * size e) := by
  intro e
  induction e with
  | name x => intro g; exact ((FineAll.cons (Fine.str wT) (FineAll.cons (Fine.str g.w) (FineAll.nil (h := 0)))).tup).mono (by simp only [high]; omega) (by simp only [size]; omega)
  | num n => intro g; exact ((FineAll.cons (Fine.str wT) (FineAll.cons (Fine.int g) (FineAll.nil (h := 0)))).tup).mono (by simp only [high]; omega) (by simp only [size]; omega)
  | tru b => intro g; exact ((FineAll.cons (Fine.str wT) (FineAll.cons Fine.bool (FineAll.nil (h := 0)))).tup).mono (by simp only [high]; omega) (by simp only [size]; omega)
  | emp => intro g; exact ((FineAll.cons (Fine.str wT) (FineAll.nil (h := 0))).tup).mono (by simp only [high]; omega) (by simp only [size]; omega)
  | fn x b ib => intro g; exact ((FineAll.cons (Fine.str wT) (FineAll.cons (Fine.str g.1.w) (FineAll.cons (ib g.2) FineAll.nil))).tup).mono (by simp only [high]; omega) (by simp only [size]; omega)
  | rc f x b ib => intro g; exact ((FineAll.cons (Fine.str wT) (FineAll.cons (Fine.str g.1.w) (FineAll.cons (Fine.str g.2.1.w) (FineAll.cons (ib g.2.2) FineAll.nil)))).tup).mono (by simp only [high]; omega) (by simp only [size]; omega)
  | call a b ia ib => intro g; exact ((FineAll.cons (Fine.str wT) (FineAll.cons ((ia g.1).mono (h' := max (high a) (high b) + 1) (by omega) (Nat.le_refl _)) (FineAll.cons ((ib g.2).mono (by omega) (Nat.le_refl _)) FineAll.nil))).tup).mono (by simp only [high]; omega) (by simp only [size]; omega)
  | lt x a b ia ib => intro g; exact ((FineAll.cons (Fine.str wT) (FineAll.cons (Fine.str g.1.w) (FineAll.cons ((ia g.2.1).mono (h' := max (high a) (high b) + 1) (by omega) (Nat.le_refl _)) (FineAll.cons ((ib g.2.2).mono (by omega) (Nat.le_refl _)) FineAll.nil)))).tup).mono (by simp only [high]; omega) (by simp only [size]; omega)
  | ite a b c ia ib ic => intro g; exact ((FineAll.cons (Fine.str wT) (FineAll.cons ((ia g.1).mono (h' := max (max (high a) (high b)) (high c) + 1) (by omega) (Nat.le_refl _)) (FineAll.cons ((ib g.2.1).mono (by omega) (Nat.le_refl _)) (FineAll.cons ((ic g.2.2).mono (by omega) (Nat.le_refl _)) FineAll.nil)))).tup).mono (by simp only [high]; omega) (by simp only [size]; omega)
  | op x a b ia ib => intro g; exact ((FineAll.cons (Fine.str wT) (FineAll.cons (Fine.str g.1.w) (FineAll.cons ((ia g.2.1).mono (h' := max (high a) (high b) + 1) (by omega) (Nat.le_refl _)) (FineAll.cons ((ib g.2.2).mono (by omega) (Nat.le_refl _)) FineAll.nil)))).tup).mono (by simp only [high]; omega) (by simp only [size]; omega)
  | ext x a b ia ib => intro g; exact ((FineAll.cons (Fine.str wT) (FineAll.cons (Fine.str g.1.w) (FineAll.cons ((ia g.2.1).mono (h' := max (high a) (high b) + 1) (by omega) (Nat.le_refl _)) (FineAll.cons ((ib g.2.2).mono (by omega) (Nat.le_refl _)) FineAll.nil)))).tup).mono (by simp only [high]; omega) (by simp only [size]; omega)
  | sel x b ib => intro g; exact ((FineAll.cons (Fine.str wT) (FineAll.cons (Fine.str g.1.w) (FineAll.cons (ib g.2) FineAll.nil))).tup).mono (by simp only [high]; omega) (by simp only [size]; omega)
  | drp x b ib => intro g; exact ((FineAll.cons (Fine.str wT) (FineAll.cons (Fine.str g.1.w) (FineAll.cons (ib g.2) FineAll.nil))).tup).mono (by simp only [high]; omega) (by simp only [size]; omega)
theorem repr_enc {e : Ex} (g : Good e) (hh : high e ≤ 62) (hw : size e ≤ 8192) (st : Sto) : oRepr [enc e] st = .ok (.str (py e).shown) st := by
  obtain ⟨ds, q⟩ := enc_seq e
  exact (fine_py e g).repr (toPyS_enc e st) (by rw [q]; rfl) (by omega) (by omega)
/-! how long its text is -/
theorem str_len {x : Str} (s : shortS x) : (PyData.shown (.str x)).length ≤ 48 := by
  have h := PyData.shown_le 8 (by decide) (.str x) (by simp only [PyData.leavesShort]; exact s.w.2)
  have h2 : PyData.weight (.str x) = x.cps.size := by simp only [PyData.weight]
  have := s.1
  omega
theorem shownAll_len : ∀ xs : List PyData, (PyData.shownAll xs).length = xs.length
  | [] => rfl
  | x :: xs => by simp only [PyData.shownAll, List.length_cons, shownAll_len xs]
theorem tup_len (xs : List PyData) : (PyData.shown (.tuple xs)).length ≤ ((PyData.shownAll xs).map (·.length)).sum + 2 * xs.length + 3 := by
  have h := tupleText_len_le (PyData.shownAll xs)
  rw [shownAll_len] at h
  exact h
theorem tl_name : (PyData.shown (.str "name")).length = 6 := by decide +kernel
theorem tl_number : (PyData.shown (.str "number")).length = 8 := by decide +kernel
theorem tl_truth : (PyData.shown (.str "truth")).length = 7 := by decide +kernel
theorem tl_empty : (PyData.shown (.str "empty")).length = 7 := by decide +kernel
theorem tl_fun : (PyData.shown (.str "fun")).length = 5 := by decide +kernel
theorem tl_rec : (PyData.shown (.str "rec")).length = 5 := by decide +kernel
theorem tl_call : (PyData.shown (.str "call")).length = 6 := by decide +kernel
theorem tl_let : (PyData.shown (.str "let")).length = 5 := by decide +kernel
theorem tl_if : (PyData.shown (.str "if")).length = 4 := by decide +kernel
theorem tl_op : (PyData.shown (.str "op")).length = 4 := by decide +kernel
theorem tl_extend : (PyData.shown (.str "extend")).length = 8 := by decide +kernel
theorem tl_select : (PyData.shown (.str "select")).length = 8 := by decide +kernel
theorem tl_drop : (PyData.shown (.str "drop")).length = 6 := by decide +kernel
theorem int_len {n : Int} (s : shortI n) : (PyData.shown (.int n)).length ≤ 13 := PyData.shown_int_le s
theorem bl_len (b : Bool) : (PyData.shown (.bool b)).length ≤ 5 := by cases b <;> decide
theorem shown_py : ∀ e : Ex, Good e → (py e).shown.length ≤ 128 * size e := by
  intro e
  induction e with
  | name x =>
    intro g
    have h := tup_len [.str "name", .str x]
    simp only [PyData.shownAll, List.map_cons, List.map_nil, List.sum_cons, List.sum_nil, List.length_cons, List.length_nil, tl_name] at h
    have q0 := str_len g
    simp only [py, size]
    omega
  | num n =>
    intro g
    have h := tup_len [.str "number", .int n]
    simp only [PyData.shownAll, List.map_cons, List.map_nil, List.sum_cons, List.sum_nil, List.length_cons, List.length_nil, tl_number] at h
    have q0 := int_len g
    simp only [py, size]
    omega
  | tru b =>
    intro g
    have h := tup_len [.str "truth", .bool b]
    simp only [PyData.shownAll, List.map_cons, List.map_nil, List.sum_cons, List.sum_nil, List.length_cons, List.length_nil, tl_truth] at h
    have q0 := bl_len b
    simp only [py, size]
    omega
  | emp =>
    intro g
    have h := tup_len [.str "empty"]
    simp only [PyData.shownAll, List.map_cons, List.map_nil, List.sum_cons, List.sum_nil, List.length_cons, List.length_nil, tl_empty] at h
    simp only [py, size]
    omega
  | fn x b ib =>
    intro g
    have h := tup_len [.str "fun", .str x, py b]
    simp only [PyData.shownAll, List.map_cons, List.map_nil, List.sum_cons, List.sum_nil, List.length_cons, List.length_nil, tl_fun] at h
    have q0 := str_len g.1
    have q1 := ib g.2
    simp only [py, size]
    omega
  | rc f x b ib =>
    intro g
    have h := tup_len [.str "rec", .str f, .str x, py b]
    simp only [PyData.shownAll, List.map_cons, List.map_nil, List.sum_cons, List.sum_nil, List.length_cons, List.length_nil, tl_rec] at h
    have q0 := str_len g.1
    have q1 := str_len g.2.1
    have q2 := ib g.2.2
    simp only [py, size]
    omega
  | call a b ia ib =>
    intro g
    have h := tup_len [.str "call", py a, py b]
    simp only [PyData.shownAll, List.map_cons, List.map_nil, List.sum_cons, List.sum_nil, List.length_cons, List.length_nil, tl_call] at h
    have q0 := ia g.1
    have q1 := ib g.2
    simp only [py, size]
    omega
  | lt x a b ia ib =>
    intro g
    have h := tup_len [.str "let", .str x, py a, py b]
    simp only [PyData.shownAll, List.map_cons, List.map_nil, List.sum_cons, List.sum_nil, List.length_cons, List.length_nil, tl_let] at h
    have q0 := str_len g.1
    have q1 := ia g.2.1
    have q2 := ib g.2.2
    simp only [py, size]
    omega
  | ite a b c ia ib ic =>
    intro g
    have h := tup_len [.str "if", py a, py b, py c]
    simp only [PyData.shownAll, List.map_cons, List.map_nil, List.sum_cons, List.sum_nil, List.length_cons, List.length_nil, tl_if] at h
    have q0 := ia g.1
    have q1 := ib g.2.1
    have q2 := ic g.2.2
    simp only [py, size]
    omega
  | op x a b ia ib =>
    intro g
    have h := tup_len [.str "op", .str x, py a, py b]
    simp only [PyData.shownAll, List.map_cons, List.map_nil, List.sum_cons, List.sum_nil, List.length_cons, List.length_nil, tl_op] at h
    have q0 := str_len g.1
    have q1 := ia g.2.1
    have q2 := ib g.2.2
    simp only [py, size]
    omega
  | ext x a b ia ib =>
    intro g
    have h := tup_len [.str "extend", .str x, py a, py b]
    simp only [PyData.shownAll, List.map_cons, List.map_nil, List.sum_cons, List.sum_nil, List.length_cons, List.length_nil, tl_extend] at h
    have q0 := str_len g.1
    have q1 := ia g.2.1
    have q2 := ib g.2.2
    simp only [py, size]
    omega
  | sel x b ib =>
    intro g
    have h := tup_len [.str "select", .str x, py b]
    simp only [PyData.shownAll, List.map_cons, List.map_nil, List.sum_cons, List.sum_nil, List.length_cons, List.length_nil, tl_select] at h
    have q0 := str_len g.1
    have q1 := ib g.2
    simp only [py, size]
    omega
  | drp x b ib =>
    intro g
    have h := tup_len [.str "drop", .str x, py b]
    simp only [PyData.shownAll, List.map_cons, List.map_nil, List.sum_cons, List.sum_nil, List.length_cons, List.length_nil, tl_drop] at h
    have q0 := str_len g.1
    have q1 := ib g.2
    simp only [py, size]
    omega
theorem lay_str {x : Str} (s : shortS x) : PyData.canLay0 (.str x) = true := by
  have h : x.cps.all (· < 0x110000) = true := by
    rw [← Array.all_toList]
    exact s.2
  simpa only [PyData.canLay0, PyData.strOk] using h
theorem lay_tag (x : Str) (h : PyData.strOk x = true := by decide +kernel) : PyData.canLay0 (.str x) = true := by simpa only [PyData.canLay0] using h
theorem lay_nil : PyData.canLayAll0 [] = true := by simp only [PyData.canLayAll0]
theorem lay_cons {p : PyData} {ps : List PyData} (h : p.canLay0 = true) (t : PyData.canLayAll0 ps = true) : PyData.canLayAll0 (p :: ps) = true := by simp only [PyData.canLayAll0, h, t, Bool.and_true]
theorem lay_tup {ps : List PyData} (t : PyData.canLayAll0 ps = true) : PyData.canLay0 (.tuple ps) = true := by simp only [PyData.canLay0, t]
theorem lay_py : ∀ e : Ex, Good e → (py e).canLay0 = true := by
  intro e
  induction e with
  | name x => intro g; exact lay_tup (lay_cons (lay_tag _) (lay_cons (lay_str g) lay_nil))
  | num n => intro g; exact lay_tup (lay_cons (lay_tag _) (lay_cons (by simp only [PyData.canLay0]) lay_nil))
  | tru b => intro g; exact lay_tup (lay_cons (lay_tag _) (lay_cons (by simp only [PyData.canLay0]) lay_nil))
  | emp => intro g; exact lay_tup (lay_cons (lay_tag _) lay_nil)
  | fn x b ib => intro g; exact lay_tup (lay_cons (lay_tag _) (lay_cons (lay_str g.1) (lay_cons (ib g.2) lay_nil)))
  | rc f x b ib => intro g; exact lay_tup (lay_cons (lay_tag _) (lay_cons (lay_str g.1) (lay_cons (lay_str g.2.1) (lay_cons (ib g.2.2) lay_nil))))
  | call a b ia ib => intro g; exact lay_tup (lay_cons (lay_tag _) (lay_cons (ia g.1) (lay_cons (ib g.2) lay_nil)))
  | lt x a b ia ib => intro g; exact lay_tup (lay_cons (lay_tag _) (lay_cons (lay_str g.1) (lay_cons (ia g.2.1) (lay_cons (ib g.2.2) lay_nil))))
  | ite a b c ia ib ic => intro g; exact lay_tup (lay_cons (lay_tag _) (lay_cons (ia g.1) (lay_cons (ib g.2.1) (lay_cons (ic g.2.2) lay_nil))))
  | op x a b ia ib => intro g; exact lay_tup (lay_cons (lay_tag _) (lay_cons (lay_str g.1) (lay_cons (ia g.2.1) (lay_cons (ib g.2.2) lay_nil))))
  | ext x a b ia ib => intro g; exact lay_tup (lay_cons (lay_tag _) (lay_cons (lay_str g.1) (lay_cons (ia g.2.1) (lay_cons (ib g.2.2) lay_nil))))
  | sel x b ib => intro g; exact lay_tup (lay_cons (lay_tag _) (lay_cons (lay_str g.1) (lay_cons (ib g.2) lay_nil)))
  | drp x b ib => intro g; exact lay_tup (lay_cons (lay_tag _) (lay_cons (lay_str g.1) (lay_cons (ib g.2) lay_nil)))
/-- repr of a great one -/
theorem repr_big {d : D} {st : Sto} {p : PyData} {h w : Nat} (a : Fine p h w) (e : toPyS st d = some p) (q : (seqOf st d).isSome = true) (hh : h ≤ 2000) (hl : p.shown.length ≤ sizeLine) : oRepr [d] st = .ok (.str p.shown) st := by
  unfold oRepr
  simp only [e]
  exact if_pos ⟨a.sh, a.nd, Nat.le_trans a.dp hh, hl, q⟩
end Ex
end DL
set_option Elab.async false
set_option linter.all false
set_option maxRecDepth 100000
set_option maxHeartbeats 4000000
namespace DL
open PySem PySem.Spec PyProof.Rows L2
/-! more evaluation: lists of texts, loops, the draws that all laws begin with -/
theorem flDs_strs : ∀ xs : List Str, flDs (xs.map D.str) = some (xs.map V.str)
  | [] => rfl
  | x :: xs => by simp only [List.map_cons, flDs, flD, flDs_strs xs]
theorem inV_strs (x : Str) : ∀ xs : List Str, inV (.str x) (xs.map V.str) = decide (x ∈ xs)
  | [] => by simp [inV]
  | y :: xs => by
    have ih := inV_strs x xs
    unfold inV at ih ⊢
    rw [List.map_cons, List.any_cons, ih]
    have e : eqV (V.str y) (V.str x) = decide (x = y) := by
      show (y == x) = decide (x = y)
      by_cases h : x = y
      · subst h; simp
      · rw [decide_eq_false h]; exact beq_eq_false_iff_ne.mpr (fun e => h e.symm)
    rw [e]
    by_cases h : x = y <;> simp [h]
theorem memD_strs {st : Sto} {d : D} {xs : List Str} (h : seqOf st d = some (xs.map D.str)) (ns : ∀ z, d ≠ .str z) (x : Str) : memD st (.str x) d = some (decide (x ∈ xs)) := by
  unfold memD
  split
  · rename_i z; exact absurd rfl (ns z)
  · rw [h]
    simp only [flD, flDs_strs, inV_strs]
theorem opIn_strs {st : Sto} {d : D} {xs : List Str} (h : seqOf st d = some (xs.map D.str)) (ns : ∀ z, d ≠ .str z) (x : Str) : opIn (.str x) d st = .ok (.bl (decide (x ∈ xs))) st := by
  unfold opIn; rw [memD_strs h ns]; rfl
theorem opNotIn_strs {st : Sto} {d : D} {xs : List Str} (h : seqOf st d = some (xs.map D.str)) (ns : ∀ z, d ≠ .str z) (x : Str) : opNotIn (.str x) d st = .ok (.bl (!decide (x ∈ xs))) st := by
  unfold opNotIn; rw [memD_strs h ns]; rfl
theorem opIn_lv (st : Sto) (xs : List Str) (x : Str) : opIn (.str x) (.lv (xs.map D.str)) st = .ok (.bl (decide (x ∈ xs))) st := opIn_strs rfl (by intro z h; cases h) x
theorem opNotIn_lv (st : Sto) (xs : List Str) (x : Str) : opNotIn (.str x) (.lv (xs.map D.str)) st = .ok (.bl (!decide (x ∈ xs))) st := opNotIn_strs rfl (by intro z h; cases h) x
@[simp] theorem opIn_tup2 (st : Sto) (x a b : Str) : opIn (.str x) (.tup [.str a, .str b]) st = .ok (.bl (decide (x = a ∨ x = b))) st := by
  have := opIn_strs (st := st) (d := .tup [.str a, .str b]) (xs := [a, b]) rfl (by intro z h; cases h) x
  rw [this]; simp
@[simp] theorem opSl_tup (ds : List D) (l u : Option Int) (st : Sto) : opSl (.tup ds) l u st = .ok (.tup (cutD ds l u)) st := rfl
@[simp] theorem opSl_lv (ds : List D) (l u : Option Int) (st : Sto) : opSl (.lv ds) l u st = .ok (.lv (cutD ds l u)) st := rfl
theorem cutD_from (ds : List D) (k : Nat) : cutD ds (some (k : Int)) none = ds.drop k := by
  unfold cutD
  rw [HT.sIx_nat, HT.sIx_none]
  by_cases h : k ≤ ds.length
  · rw [Nat.min_eq_left h]; exact List.take_of_length_le (by simp)
  · rw [Nat.min_eq_right (by omega), List.drop_of_length_le (Nat.le_refl _), List.drop_of_length_le (by omega)]; simp
@[simp] theorem cutD_1 (ds : List D) : cutD ds (some 1) none = ds.drop 1 := cutD_from ds 1
@[simp] theorem cutD_2 (ds : List D) : cutD ds (some 2) none = ds.drop 2 := cutD_from ds 2
@[simp] theorem cutD_3 (ds : List D) : cutD ds (some 3) none = ds.drop 3 := cutD_from ds 3
@[simp] theorem cutD_13 (a b c d : D) : cutD [a, b, c, d] (some 1) (some 3) = [b, c] := rfl
@[simp] theorem cutD_12_2 (a b : D) : cutD [a, b] (some 1) (some 2) = [b] := rfl
@[simp] theorem cutD_12 (a b c d : D) : cutD [a, b, c, d] (some 1) (some 2) = [b] := rfl
theorem opAddA_tup {ds es : List D} (h : ds.length + es.length ≤ sizeLine) (st : Sto) : opAddA (.tup ds) (.tup es) st = .ok (.tup (ds ++ es)) st := by
  have e : opAddA (.tup ds) (.tup es) st = opAdd (.tup ds) (.tup es) st := rfl
  rw [e]
  exact if_pos h
theorem opAddA_lv {ds es : List D} (h : ds.length + es.length ≤ sizeLine) (st : Sto) : opAddA (.lv ds) (.lv es) st = .ok (.lv (ds ++ es)) st := if_pos h
theorem opMul_r {i j : Int} (h : -(2 ^ 64) < j ∧ j < 2 ^ 64) (st : Sto) : opMul (.int i) (.int j) st = .ok (.int (i * j)) st := if_pos (.inr h)
theorem opMul_l {i j : Int} (h : -(2 ^ 64) < i ∧ i < 2 ^ 64) (st : Sto) : opMul (.int i) (.int j) st = .ok (.int (i * j)) st := if_pos (.inl h)
theorem opMod_pos {i j : Int} (h : 0 < j) (st : Sto) : opMod (.int i) (.int j) st = .ok (.int (i % j)) st := if_pos h
theorem opDiv_pos {i j : Int} (h : 0 < j ∧ j < 1073741824) (st : Sto) : opDiv (.int i) (.int j) st = .ok (.int (i / j)) st := if_pos h
/-- a loop that keeps P -/
theorem forD_inv {g : FG} {u : FS} {P : Ti → Sto → Prop} : ∀ (ds : List D) (τ : Ti) (st : Sto), P τ st →
    (∀ d, d ∈ ds → ∀ τ st, P τ st → ∃ τ1 st1 τ2 st2, g d τ st = .ok τ1 st1 ∧ u τ1 st1 = .ok (.nx τ2) st2 ∧ P τ2 st2) → ∃ τ' st', forD g u ds τ st = .ok (.nx τ') st' ∧ P τ' st'
  | [], τ, st, h, _ => ⟨τ, st, rfl, h⟩
  | d :: ds, τ, st, h, step => by
    obtain ⟨τ1, st1, τ2, st2, h1, h2, h3⟩ := step d List.mem_cons_self τ st h
    obtain ⟨τ', st', h4, h5⟩ := forD_inv ds τ2 st2 h3 fun x hx => step x (List.mem_cons_of_mem _ hx)
    exact ⟨τ', st', by rw [forD_cons, h1, bind_ok, kTurn1_eq, h2, bind_ok, kTurn2_nx, h4], h5⟩
/-! the draws -/
def uDraw : FS :=
  (sSeq (sSet 2 (fOp opIx (fV 0) (fC (.int 1))))
  (sSeq (sAsg (fOp opAddA (fV 2) (fC (.int 1))) (gSubD (fV 0) (fC (.int 1))))
  (sSeq (sIf (bOf (fOp opLt (fV 2) (fB oLen (aCons (fOp opIx (fV 0) (fC (.int 0))) aNil))))
  (sRet (fOp opMod (fB oInt (aCons (fOp opIx (fOp opIx (fV 0) (fC (.int 0))) (fV 2)) aNil)) (fV 1)))
  sNil)
  (sRet (fOp opMod (fB oInt (aCons (fOp opAddA (fOp opMul (fV 2) (fC (.int 7))) (fC (.int 3))) aNil)) (fV 1))))))
/-- the box stands at b -/
structure Box (st : Sto) (b : Nat) : Prop where
  ex : ∃ (g at_ : Nat) (ns : List Int), g ≠ b ∧ st[b]? = some (.lst [.obj g, .int (at_ : Nat)]) ∧ st[g]? = some (.lst (ns.map D.int))
theorem oLen_obj {st : Sto} {g : Nat} {xs : List D} (h : st[g]? = some (.lst xs)) : oLen [.obj g] st = .ok (.int (xs.length : Nat)) st := by
  simp only [oLen, lenD, h]
theorem putItem_lst {st : Sto} {k : Nat} {xs : List D} (h : st[k]? = some (.lst xs)) {j m : Nat} (hj : j < xs.length) (d : D) : putItem (.obj k) (.int (j : Nat)) d st = .ok () (st.set k (.lst (xs.set j d))) := by
  have e : ixN xs.length ((j : Nat) : Int) = some j := by
    unfold ixN
    rw [if_pos (Int.natCast_nonneg j), if_pos (by omega)]; simp
  simp only [putItem, h, e]
theorem draw_in {st st1 : Sto} {b g a : Nat} {ns : List Int} {m : Int} (hm : 0 < m) (hb : st[b]? = some (.lst [.obj g, .int (a : Nat)])) (p1 : putItem (.obj b) (.int 1) (.int ((a : Int) + 1)) st = .ok () st1) (q1 : st1[b]? = some (.lst [.obj g, .int ((a : Int) + 1)]))
    (q2 : st1[g]? = some (.lst (ns.map D.int))) (z : a < ns.length) (hat : atI (ns.map D.int) (a : Int) = some (.int ns[a])) : runB uDraw 3 [.obj b, .int m] st = .ok (.int (ns[a] % m)) st1 := by
  simp -implicitDefEqProofs [runB_eq, uDraw, List.replicate, opIx_obj hb, p1, opIx_obj q1, oLen_obj q2, opIx_obj q2, z, hat, opMod_pos hm]
theorem draw_out {st st1 : Sto} {b g a : Nat} {ns : List Int} {m : Int} (hm : 0 < m) (hb : st[b]? = some (.lst [.obj g, .int (a : Nat)])) (p1 : putItem (.obj b) (.int 1) (.int ((a : Int) + 1)) st = .ok () st1) (q1 : st1[b]? = some (.lst [.obj g, .int ((a : Int) + 1)]))
    (q2 : st1[g]? = some (.lst (ns.map D.int))) (z : ¬ a < ns.length) : runB uDraw 3 [.obj b, .int m] st = .ok (.int (((a : Int) * 7 + 3) % m)) st1 := by
  have mu : ∀ st : Sto, opMul (.int (a : Int)) (.int 7) st = .ok (.int ((a : Int) * 7)) st := fun st => opMul_r (by decide) st
  simp -implicitDefEqProofs [runB_eq, uDraw, List.replicate, opIx_obj hb, p1, opIx_obj q1, oLen_obj q2, opIx_obj q2, z, opMod_pos hm, mu]
theorem draw_ok {st : Sto} {b : Nat} (B : Box st b) {m : Int} (hm : 0 < m) : ∃ r st', runB uDraw 3 [.obj b, .int m] st = .ok (.int r) st' ∧ 0 ≤ r ∧ r < m ∧ Box st' b ∧ st'.length = st.length ∧ ∀ i, i ≠ b → st'[i]? = st[i]? := by
  obtain ⟨g, a, ns, ne, hb, hg⟩ := B.ex
  have hbl := (List.getElem?_eq_some_iff.mp hb).1
  have p1 : putItem (.obj b) (.int 1) (.int ((a : Int) + 1)) st = .ok () (st.set b (.lst [.obj g, .int ((a : Int) + 1)])) := by
    have := putItem_lst (st := st) (k := b) hb (j := 1) (m := 0) (by simp) (.int ((a : Int) + 1))
    simpa using this
  have q1 : (st.set b (.lst [.obj g, .int ((a : Int) + 1)]))[b]? = some (.lst [.obj g, .int ((a : Int) + 1)]) := List.getElem?_set_self hbl
  have q2 : (st.set b (.lst [.obj g, .int ((a : Int) + 1)]))[g]? = some (.lst (ns.map D.int)) := by rw [List.getElem?_set_ne (Ne.symm ne)]; exact hg
  have B2 : Box (st.set b (.lst [.obj g, .int ((a : Int) + 1)])) b := ⟨g, a + 1, ns, ne, by rw [q1]; simp, q2⟩
  have keep : ∀ i, i ≠ b → (st.set b (.lst [.obj g, .int ((a : Int) + 1)]))[i]? = st[i]? := fun i hi => List.getElem?_set_ne (Ne.symm hi)
  have ln : (st.set b (.lst [.obj g, .int ((a : Int) + 1)])).length = st.length := List.length_set
  by_cases z : a < ns.length
  · have hat : atI (ns.map D.int) (a : Int) = some (.int ns[a]) := by rw [atI_nat, List.getElem?_map, List.getElem?_eq_getElem z]; rfl
    exact ⟨ns[a] % m, _, draw_in hm hb p1 q1 q2 z hat, Int.emod_nonneg _ (by omega), Int.emod_lt_of_pos _ hm, B2, ln, keep⟩
  · exact ⟨((a : Int) * 7 + 3) % m, _, draw_out hm hb p1 q1 q2 z, Int.emod_nonneg _ (by omega), Int.emod_lt_of_pos _ hm, B2, ln, keep⟩
/-! the digits: FC is the cell's def -/
def uCell : FS :=
  (sSeq (sIf (bOf (fOp opLt (fV 1) (fB oLen (aCons (fV 0) aNil))))
  (sRet (fOp opIx (fV 0) (fV 1)))
  sNil)
  (sRet (fC (.int 0))))
def uDigits (FC : Fn) : FS :=
  (sSeq (sSet 3 (fLst aNil))
  (sSeq (sFor (iRng2D (fV 1) (fV 2)) (gN 4)
  (sSeq (sSet 5 (fCallN 2 FC (aCons (fV 0) (aCons (fV 4) aNil))))
  (sSeq (sIf (bOf (fOp opLt (fV 5) (fC (.int 0))))
  (sSet 5 (fOp opSub (fC (.int 1)) (fOp opMul (fC (.int 2)) (fV 5))))
  sNil)
  (sIf (bOf (fOp opGe (fV 5) (fOp opPow (fC (.int 10)) (fC (.int 18)))))
  (sFor (iRng1D (fC (.int 60))) (gN 6)
  (sIf (bOf (fOp opGt (fV 5) (fC (.int 0))))
  (sSeq (sExp (fMt oAppend (fV 3) (aCons (fOp opMod (fB oInt (aCons (fV 5) aNil)) (fC (.int 1000))) aNil)))
  (sSet 5 (fOp opDiv (fV 5) (fC (.int 1000)))))
  sNil))
  (sSeq (sSet 7 (fOp opMod (fB oInt (aCons (fOp opAddA (fOp opAddA (fOp opMul (fV 5) (fC (.int 48271))) (fOp opMul (fV 4) (fC (.int 69621)))) (fC (.int 11))) aNil)) (fC (.int 2147483647))))
  (sFor (iRng1D (fC (.int 12))) (gN 6)
  (sSeq (sSet 7 (fOp opMod (fB oInt (aCons (fOp opAddA (fOp opAddA (fOp opMul (fV 7) (fC (.int 16807))) (fOp opMul (fC (.int 7)) (fV 6))) (fC (.int 1))) aNil)) (fC (.int 2147483647))))
  (sExp (fMt oAppend (fV 3) (aCons (fOp opMod (fB oInt (aCons (fOp opDiv (fV 7) (fC (.int 997))) aNil)) (fC (.int 1000))) aNil))))))))))
  (sRet (fV 3))))
/-- a loop, its turns counted -/
theorem forD_cnt {g : FG} {u : FS} {P : Nat → Ti → Sto → Prop} (T : Nat) : ∀ (ds : List D) (i : Nat) (τ : Ti) (st : Sto), i + ds.length ≤ T → P i τ st →
    (∀ i d, i < T → d ∈ ds → ∀ τ st, P i τ st → ∃ τ1 st1 τ2 st2, g d τ st = .ok τ1 st1 ∧ u τ1 st1 = .ok (.nx τ2) st2 ∧ P (i + 1) τ2 st2) → ∃ τ' st', forD g u ds τ st = .ok (.nx τ') st' ∧ P (i + ds.length) τ' st'
  | [], i, τ, st, _, h, _ => ⟨τ, st, rfl, h⟩
  | d :: ds, i, τ, st, hT, h, step => by
    rw [List.length_cons] at hT
    obtain ⟨τ1, st1, τ2, st2, h1, h2, h3⟩ := step i d (by omega) List.mem_cons_self τ st h
    obtain ⟨τ', st', h4, h5⟩ := forD_cnt T ds (i + 1) τ2 st2 (by omega) h3 fun j x hj hx => step j x hj (List.mem_cons_of_mem _ hx)
    exact ⟨τ', st', by rw [forD_cons, h1, bind_ok, kTurn1_eq, h2, bind_ok, kTurn2_nx, h4], by rw [List.length_cons, show i + (ds.length + 1) = i + 1 + ds.length by omega]; exact h5⟩
theorem runD_len (lo : Int) (n : Nat) : (runD lo n).length = n := by simp [runD]
theorem runD_mem {lo : Int} {n : Nat} {d : D} (h : d ∈ runD lo n) : ∃ i : Nat, i < n ∧ d = .int (lo + (i : Nat)) := by
  simp only [runD, List.mem_map, List.mem_range] at h
  obtain ⟨i, hi, rfl⟩ := h
  exact ⟨i, hi, rfl⟩
theorem get_last (st : Sto) (m : MO) : (st ++ [m])[st.length]? = some m := by simp
theorem set_last (st : Sto) (m m' : MO) : (st ++ [m]).set st.length m' = st ++ [m'] := by simp
theorem oAppend_last {st : Sto} {xs : List D} (h : xs.length < sizeLine) (d : D) : oAppend (.obj st.length) [d] (st ++ [.lst xs]) = .ok .non (st ++ [.lst (xs ++ [d])]) := by
  simp only [oAppend, get_last]
  rw [if_pos h, set_last]
theorem opPow_18 (st : Sto) : opPow (.int 10) (.int 18) st = .ok (.int 1000000000000000000) st := by
  unfold opPow
  exact if_pos ⟨by decide, by decide, by decide⟩
section
variable {st0 : Sto} {sc lo hi : D}
/-- the digits' list stands last; o: the four slots behind -/
def DigS (st0 : Sto) (sc lo hi : D) (n : Nat) (c5 c7 : Option D → Prop) (τ : Ti) (st : Sto) : Prop :=
  ∃ (o4 o5 o6 o7 : Option D) (acc : List Int), τ = [some sc, some lo, some hi, some (.obj st0.length), o4, o5, o6, o7] ∧ st = st0 ++ [.lst (acc.map D.int)] ∧ acc.length ≤ n ∧ c5 o5 ∧ c7 o7
abbrev b60 : FS := sIf (bOf (fOp opGt (fV 5) (fC (.int 0))))
  (sSeq (sExp (fMt oAppend (fV 3) (aCons (fOp opMod (fB oInt (aCons (fV 5) aNil)) (fC (.int 1000))) aNil)))
  (sSet 5 (fOp opDiv (fV 5) (fC (.int 1000)))))
  sNil
theorem loop60 {n : Nat} (hn : n + 60 ≤ sizeLine) {τ : Ti} {st : Sto} (h : DigS st0 sc lo hi n (fun o => ∃ c : Int, o = some (.int c)) (fun _ => True) τ st) :
    ∃ τ' st', forD (gN 6) b60 (runD 0 60) τ st = .ok (.nx τ') st' ∧ DigS st0 sc lo hi (n + 60) (fun o => ∃ c : Int, o = some (.int c)) (fun _ => True) τ' st' := by
  obtain ⟨τ', st', h1, h2⟩ := forD_cnt (P := fun i => DigS st0 sc lo hi (n + i) (fun o => ∃ c : Int, o = some (.int c)) (fun _ => True)) (g := gN 6) (u := b60) 60 (runD 0 60) 0 τ st (by rw [runD_len]; omega) h (by
    intro i d hi' hd τ st hp
    obtain ⟨o4, o5, o6, o7, acc, rfl, rfl, hl, ⟨c, rfl⟩, _⟩ := hp
    have hm : ∀ st : Sto, opMod (.int c) (.int 1000) st = .ok (.int (c % 1000)) st := fun st => opMod_pos (by decide) st
    have hv : ∀ st : Sto, opDiv (.int c) (.int 1000) st = .ok (.int (c / 1000)) st := fun st => opDiv_pos (by decide) st
    have ha := oAppend_last (st := st0) (xs := acc.map D.int) (by rw [List.length_map]; omega) (.int (c % 1000))
    have hk := fun r h τ => kMt1_eq (get_last st0 (.lst (acc.map D.int))) r h τ
    by_cases z : 0 < c
    · refine ⟨_, _, [some sc, some lo, some hi, some (.obj st0.length), o4, some (.int (c / 1000)), some d, o7], st0 ++ [.lst ((acc ++ [c % 1000]).map D.int)], gN_eq _ _ _ _, ?_, o4, _, _, o7, acc ++ [c % 1000], rfl, rfl, by simp; omega, ⟨_, rfl⟩, trivial⟩
      simp -implicitDefEqProofs [b60, z, hm, hv, ha, hk]
    · refine ⟨_, _, [some sc, some lo, some hi, some (.obj st0.length), o4, some (.int c), some d, o7], st0 ++ [.lst (acc.map D.int)], gN_eq _ _ _ _, ?_, o4, _, _, o7, acc, rfl, rfl, by omega, ⟨_, rfl⟩, trivial⟩
      simp -implicitDefEqProofs [b60, z])
  rw [runD_len, Nat.zero_add] at h2
  exact ⟨τ', st', h1, h2⟩
abbrev b12 : FS := sSeq (sSet 7 (fOp opMod (fB oInt (aCons (fOp opAddA (fOp opAddA (fOp opMul (fV 7) (fC (.int 16807))) (fOp opMul (fC (.int 7)) (fV 6))) (fC (.int 1))) aNil)) (fC (.int 2147483647))))
  (sExp (fMt oAppend (fV 3) (aCons (fOp opMod (fB oInt (aCons (fOp opDiv (fV 7) (fC (.int 997))) aNil)) (fC (.int 1000))) aNil)))
theorem loop12 {n : Nat} (hn : n + 12 ≤ sizeLine) {τ : Ti} {st : Sto} (h : DigS st0 sc lo hi n (fun _ => True) (fun o => ∃ c : Int, o = some (.int c)) τ st) :
    ∃ τ' st', forD (gN 6) b12 (runD 0 12) τ st = .ok (.nx τ') st' ∧ DigS st0 sc lo hi (n + 12) (fun _ => True) (fun o => ∃ c : Int, o = some (.int c)) τ' st' := by
  obtain ⟨τ', st', h1, h2⟩ := forD_cnt (P := fun i => DigS st0 sc lo hi (n + i) (fun _ => True) (fun o => ∃ c : Int, o = some (.int c))) (g := gN 6) (u := b12) 12 (runD 0 12) 0 τ st (by rw [runD_len]; omega) h (by
    intro i d hi' hd τ st hp
    obtain ⟨o4, o5, o6, o7, acc, rfl, rfl, hl, _, ⟨c, rfl⟩⟩ := hp
    obtain ⟨t, _, rfl⟩ := runD_mem hd
    have m1 : ∀ st : Sto, opMul (.int c) (.int 16807) st = .ok (.int (c * 16807)) st := fun st => opMul_r (by decide) st
    have m2 : ∀ st : Sto, opMul (.int 7) (.int (t : Int)) st = .ok (.int (7 * (t : Int))) st := fun st => opMul_l (by decide) st
    have hm : ∀ (x : Int) (st : Sto), opMod (.int x) (.int 2147483647) st = .ok (.int (x % 2147483647)) st := fun x st => opMod_pos (by decide) st
    have hm2 : ∀ (x : Int) (st : Sto), opMod (.int x) (.int 1000) st = .ok (.int (x % 1000)) st := fun x st => opMod_pos (by decide) st
    have hv : ∀ (x : Int) (st : Sto), opDiv (.int x) (.int 997) st = .ok (.int (x / 997)) st := fun x st => opDiv_pos (by decide) st
    have ha := fun y : Int => oAppend_last (st := st0) (xs := acc.map D.int) (by rw [List.length_map]; omega) (.int y)
    have hk := fun r h τ => kMt1_eq (get_last st0 (.lst (acc.map D.int))) r h τ
    refine ⟨_, _, [some sc, some lo, some hi, some (.obj st0.length), o4, o5, some (.int (0 + (t : Nat))), some (.int ((c * 16807 + 7 * (t : Int) + 1) % 2147483647))], st0 ++ [.lst ((acc ++ [(c * 16807 + 7 * (t : Int) + 1) % 2147483647 / 997 % 1000]).map D.int)], gN_eq _ _ _ _, ?_, o4, o5, _, _, acc ++ [(c * 16807 + 7 * (t : Int) + 1) % 2147483647 / 997 % 1000], rfl, rfl, by simp; omega, trivial, ⟨_, rfl⟩⟩
    simp -implicitDefEqProofs [b12, m1, m2, hm, hm2, hv, ha, hk])
  rw [runD_len, Nat.zero_add] at h2
  exact ⟨τ', st', h1, h2⟩
end
theorem smallI_nat {a : Nat} (h : a ≤ 1000000) : smallI (a : Int) = true := by
  unfold smallI
  rw [Bool.and_eq_true, decide_eq_true_eq, decide_eq_true_eq]
  constructor
  · omega
  · omega
theorem digits_ok {FC : Fn} {scr : D} (hC : ∀ (i : Nat) (st : Sto), ∃ c : Int, FC [scr, .int (i : Nat)] st = .ok (.int c) st) (a b : Nat) (ha : a ≤ 1000) (hb : b ≤ 1000) (st0 : Sto) :
    ∃ acc : List Int, runB (uDigits FC) 8 [scr, .int (a : Nat), .int (b : Nat)] st0 = .ok (.obj st0.length) (st0 ++ [.lst (acc.map D.int)]) := by
  obtain ⟨u, hu⟩ : ∃ u, u = (sSeq (sSet 5 (fCallN 2 FC (aCons (fV 0) (aCons (fV 4) aNil)))) (sSeq (sIf (bOf (fOp opLt (fV 5) (fC (.int 0)))) (sSet 5 (fOp opSub (fC (.int 1)) (fOp opMul (fC (.int 2)) (fV 5)))) sNil) (sIf (bOf (fOp opGe (fV 5) (fOp opPow (fC (.int 10)) (fC (.int 18))))) (sFor (iRng1D (fC (.int 60))) (gN 6) b60) (sSeq (sSet 7 (fOp opMod (fB oInt (aCons (fOp opAddA (fOp opAddA (fOp opMul (fV 5) (fC (.int 48271))) (fOp opMul (fV 4) (fC (.int 69621)))) (fC (.int 11))) aNil)) (fC (.int 2147483647)))) (sFor (iRng1D (fC (.int 12))) (gN 6) b12))))) := ⟨_, rfl⟩
  have hsz : sizeLine = 16777216 := sizeLine_eq
  have s60 : ∀ st : Sto, kRng1 (.int 60) st = .ok (.imm (runD 0 60)) st := fun st => kRng1_eq (j := 60) (by decide) st
  have s12 : ∀ st : Sto, kRng1 (.int 12) st = .ok (.imm (runD 0 12)) st := fun st => kRng1_eq (j := 12) (by decide) st
  have hm : ∀ (x : Int) (st : Sto), opMod (.int x) (.int 2147483647) st = .ok (.int (x % 2147483647)) st := fun x st => opMod_pos (by decide) st
  have m1 : ∀ (x : Int) (st : Sto), opMul (.int x) (.int 48271) st = .ok (.int (x * 48271)) st := fun x st => opMul_r (by decide) st
  have m2 : ∀ (x : Int) (st : Sto), opMul (.int x) (.int 69621) st = .ok (.int (x * 69621)) st := fun x st => opMul_r (by decide) st
  have m3 : ∀ (x : Int) (st : Sto), opMul (.int 2) (.int x) st = .ok (.int (2 * x)) st := fun x st => opMul_l (by decide) st
  have step : ∀ i d, i < b - a → d ∈ runD (a : Int) (b - a) → ∀ τ st, DigS st0 scr (.int (a : Nat)) (.int (b : Nat)) (60 * i) (fun _ => True) (fun _ => True) τ st →
      ∃ τ1 st1 τ2 st2, gN 4 d τ st = .ok τ1 st1 ∧ u τ1 st1 = .ok (.nx τ2) st2 ∧ DigS st0 scr (.int (a : Nat)) (.int (b : Nat)) (60 * (i + 1)) (fun _ => True) (fun _ => True) τ2 st2 := by
    intro i d hi hd τ st hp
    obtain ⟨o4, o5, o6, o7, acc, rfl, rfl, hl, _, _⟩ := hp
    obtain ⟨t, ht, rfl⟩ := runD_mem hd
    obtain ⟨c, hc⟩ := hC (a + t) (st0 ++ [.lst (acc.map D.int)])
    have e1 : ((a + t : Nat) : Int) = (a : Int) + (t : Nat) := by omega
    rw [e1] at hc
    obtain ⟨c', hc'⟩ : ∃ c' : Int, c' = if c < 0 then 1 - 2 * c else c := ⟨_, rfl⟩
    have rest : ∃ τ2 st2, sIf (bOf (fOp opGe (fV 5) (fOp opPow (fC (.int 10)) (fC (.int 18))))) (sFor (iRng1D (fC (.int 60))) (gN 6) b60) (sSeq (sSet 7 (fOp opMod (fB oInt (aCons (fOp opAddA (fOp opAddA (fOp opMul (fV 5) (fC (.int 48271))) (fOp opMul (fV 4) (fC (.int 69621)))) (fC (.int 11))) aNil)) (fC (.int 2147483647)))) (sFor (iRng1D (fC (.int 12))) (gN 6) b12)) [some scr, some (.int (a : Nat)), some (.int (b : Nat)), some (.obj st0.length), some (.int ((a : Int) + (t : Nat))), some (.int c'), o6, o7] (st0 ++ [.lst (acc.map D.int)]) = .ok (.nx τ2) st2 ∧ DigS st0 scr (.int (a : Nat)) (.int (b : Nat)) (60 * (i + 1)) (fun _ => True) (fun _ => True) τ2 st2 := by
      by_cases z : 1000000000000000000 ≤ c'
      · obtain ⟨τ2, st2, h1, h2⟩ := loop60 (st0 := st0) (sc := scr) (lo := .int (a : Nat)) (hi := .int (b : Nat)) (n := 60 * i) (by omega) (τ := [some scr, some (.int (a : Nat)), some (.int (b : Nat)), some (.obj st0.length), some (.int ((a : Int) + (t : Nat))), some (.int c'), o6, o7]) (st := st0 ++ [.lst (acc.map D.int)])
          ⟨_, _, o6, o7, acc, rfl, rfl, hl, ⟨_, rfl⟩, trivial⟩
        obtain ⟨p4, p5, p6, p7, acc', q1, q2, q3, _, _⟩ := h2
        refine ⟨τ2, st2, ?_, p4, p5, p6, p7, acc', q1, q2, by omega, trivial, trivial⟩
        rw [sIf_eq]
        simp -implicitDefEqProofs only [bOf_eq, fOp_eq, fV_5, bind_ok, kOp1_eq, fC_eq, kOp2_eq, opPow_18, opGe_int, kBof_bl, decide_eq_true z, kSif_t, sFor_eq, iRng1D_eq, s60, kFor_imm]
        exact h1
      · obtain ⟨τ2, st2, h1, h2⟩ := loop12 (st0 := st0) (sc := scr) (lo := .int (a : Nat)) (hi := .int (b : Nat)) (n := 60 * i) (by omega) (τ := [some scr, some (.int (a : Nat)), some (.int (b : Nat)), some (.obj st0.length), some (.int ((a : Int) + (t : Nat))), some (.int c'), o6, some (.int ((c' * 48271 + ((a : Int) + (t : Nat)) * 69621 + 11) % 2147483647))]) (st := st0 ++ [.lst (acc.map D.int)])
          ⟨_, _, o6, _, acc, rfl, rfl, hl, trivial, ⟨_, rfl⟩⟩
        obtain ⟨p4, p5, p6, p7, acc', q1, q2, q3, _, _⟩ := h2
        refine ⟨τ2, st2, ?_, p4, p5, p6, p7, acc', q1, q2, by omega, trivial, trivial⟩
        rw [sIf_eq]
        simp -implicitDefEqProofs only [bOf_eq, fOp_eq, fV_5, fV_4, bind_ok, kOp1_eq, fC_eq, kOp2_eq, opPow_18, opGe_int, kBof_bl, decide_eq_false z, kSif_f, sSeq_eq, sSet_eq, fB_eq, aCons_eq, m1, m2, opAddA_int, kCons1_eq, aNil_eq, kCons2_eq, kB_eq, oInt_int, hm, kSet_eq, kSeq_nx, sFor_eq, iRng1D_eq, s12, kFor_imm, List.set_cons_succ, List.set_cons_zero]
        exact h1
    obtain ⟨τ2, st2, h1, h2⟩ := rest
    refine ⟨_, _, τ2, st2, gN_eq _ _ _ _, ?_, h2⟩
    subst hu
    by_cases z : c < 0
    · rw [if_pos z] at hc'
      subst hc'
      simp -implicitDefEqProofs only [sSeq_eq, sSet_eq, fCallN_eq, aCons_eq, fV_0, fV_4, fV_5, bind_ok, kCons1_eq, aNil_eq, kCons2_eq, kCall_2, hc, exAt_ok, kSet_eq, kSeq_nx, List.set_cons_succ, List.set_cons_zero, bOf_eq, fOp_eq, kOp1_eq, fC_eq, kOp2_eq, opLt_int, kBof_bl, decide_eq_true z, kSif_t, opSub_int, m3]
      rw [sIf_eq]
      simp -implicitDefEqProofs only [bOf_eq, fOp_eq, fV_5, bind_ok, kOp1_eq, fC_eq, kOp2_eq, opLt_int, kBof_bl, decide_eq_true z, kSif_t, sSet_eq, m3, opSub_int, kSet_eq, kSeq_nx, List.set_cons_succ, List.set_cons_zero]
      exact h1
    · rw [if_neg z] at hc'
      subst hc'
      simp -implicitDefEqProofs only [sSeq_eq, sSet_eq, fCallN_eq, aCons_eq, fV_0, fV_4, fV_5, bind_ok, kCons1_eq, aNil_eq, kCons2_eq, kCall_2, hc, exAt_ok, kSet_eq, kSeq_nx, List.set_cons_succ, List.set_cons_zero]
      rw [sIf_eq]
      simp -implicitDefEqProofs only [bOf_eq, fOp_eq, fV_5, bind_ok, kOp1_eq, fC_eq, kOp2_eq, opLt_int, kBof_bl, decide_eq_false z, kSif_f, sNil_eq, kSeq_nx]
      exact h1
  obtain ⟨τ', st', h1, h2⟩ := forD_cnt (P := fun i => DigS st0 scr (.int (a : Nat)) (.int (b : Nat)) (60 * i) (fun _ => True) (fun _ => True)) (g := gN 4) (u := u) (b - a) (runD (a : Int) (b - a)) 0
    [some scr, some (.int (a : Nat)), some (.int (b : Nat)), some (.obj st0.length), none, none, none, none] (st0 ++ [.lst []]) (by rw [runD_len]; omega) ⟨none, none, none, none, [], rfl, rfl, Nat.zero_le _, trivial, trivial⟩ step
  obtain ⟨o4, o5, o6, o7, acc, rfl, rfl, _, _, _⟩ := h2
  refine ⟨acc, ?_⟩
  have sr : ∀ st : Sto, kRng2b (.int (a : Nat)) (.int (b : Nat)) st = .ok (.imm (runD (a : Int) (b - a))) st := fun st => by
    have e : ((b : Int) - (a : Int)).toNat = b - a := by omega
    rw [kRng2b_eq (by rw [smallI_nat (by omega), smallI_nat (by omega)]; rfl), e]
  subst hu
  simp -implicitDefEqProofs only [uDigits, runB_eq, List.map_cons, List.map_nil, List.length_cons, List.length_nil, List.cons_append, List.nil_append, List.replicate, sSeq_eq, sSet_eq, fLst_eq, aNil_eq, bind_ok, kLst_0, kSet_eq, List.set_cons_succ, List.set_cons_zero, kSeq_nx, sFor_eq, iRng2D_eq, fV_1, kRng2a_eq, fV_2, sr, kFor_imm]
  rw [h1]
  simp
end DL
set_option Elab.async false
set_option linter.all false
set_option maxHeartbeats 1000000
set_option maxRecDepth 100000
namespace DL
open PySem PySem.Spec PyProof.Rows L2 LamX DL.Ex
/-! comprehensions over list objects; lists of short texts -/
theorem lcO_map {β : Type} {g : FG} {t : FB} {e : FE} {τ : Ti} {fin : List D → Sto → R β} {st : Sto} {k : Nat} {ds : List D} (m : D → Option D) (hk : st[k]? = some (.lst ds)) (h : ∀ d, d ∈ ds → lcOne g t e τ d st = .ok (m d) st) : ∀ (n i : Nat) (acc : List D), acc.length + (ds.length - i) ≤ sizeLine → ds.length - i < n →
    lcO g t e τ fin k n i acc st = fin (acc ++ (ds.drop i).filterMap m) st
  | 0, i, acc, _, hn => absurd hn (Nat.not_lt_zero _)
  | n + 1, i, acc, hl, hn => by
    unfold lcO
    simp only [hk]
    by_cases z : i < ds.length
    · have ge : ds[i]? = some ds[i] := List.getElem?_eq_getElem z
      have h1 := h ds[i] (List.getElem_mem z)
      rw [ge]
      simp only
      unfold lcOne at h1
      rw [List.drop_eq_getElem_cons z, List.filterMap_cons]
      cases e1 : noX (g ds[i] τ st) with
      | ok τ1 st1 =>
        rw [e1] at h1
        simp only [bind_ok] at h1 ⊢
        cases e2 : noX (t τ1 st1) with
        | ok x st2 =>
          rw [e2] at h1
          simp only [bind_ok] at h1 ⊢
          by_cases hx : x = true
          · rw [if_pos hx] at h1 ⊢
            cases e3 : noX (e τ1 st2) with
            | ok y st3 =>
              rw [e3] at h1
              simp only [bind_ok] at h1 ⊢
              injection h1 with q1 q2
              subst q2
              rw [← q1, if_pos (by omega)]
              simp only
              rw [lcO_map m hk h n (i + 1) (acc ++ [y]) (by rw [List.length_append, List.length_singleton]; omega) (by omega), List.append_assoc]; rfl
            | ex x st3 => rw [e3] at h1; cases h1
            | bad => rw [e3] at h1; cases h1
          · rw [if_neg hx] at h1 ⊢
            injection h1 with q1 q2
            subst q2
            rw [← q1]
            simp only
            exact lcO_map m hk h n (i + 1) acc (by omega) (by omega)
        | ex x st2 => rw [e2] at h1; cases h1
        | bad => rw [e2] at h1; cases h1
      | ex x st2 => rw [e1] at h1; cases h1
      | bad => rw [e1] at h1; cases h1
    · rw [List.getElem?_eq_none (by omega), List.drop_eq_nil_of_le (by omega)]
      simp
theorem fine_strs {h : Nat} : ∀ {xs : List Str}, (∀ x, x ∈ xs → shortS x) → FineAll (xs.map PyData.str) h (17 * xs.length)
  | [], _ => FineAll.nil
  | x :: xs, hs => by
    have a := FineAll.cons (Fine.str (h := h) (hs x List.mem_cons_self).w) (fine_strs (h := h) (xs := xs) fun y hy => hs y (List.mem_cons_of_mem _ hy))
    refine ⟨a.sh, a.nd, a.ls, a.dp, ?_⟩
    have := a.wt
    rw [List.length_cons]
    simp only [List.map_cons]
    omega
theorem toPys_strs : ∀ xs : List Str, toPys (xs.map D.str) = some (xs.map PyData.str)
  | [] => rfl
  | x :: xs => by
    have ih := toPys_strs xs
    rw [List.map_cons, List.map_cons]
    simp only [toPys, toPy, ih]
theorem repr_lst {st : Sto} {g : Nat} {xs : List Str} (hg : st[g]? = some (.lst (xs.map D.str))) (hs : ∀ x, x ∈ xs → shortS x) (hl : xs.length ≤ 10000) : oRepr [.obj g] st = .ok (.str (PyData.list (xs.map PyData.str)).shown) st :=
  Fine.repr (fine_strs (h := 0) hs).lst (by simp only [toPyS, hg, toPys_strs]; rfl) (by simp only [seqOf, DL.listOf, hg]; rfl) (by omega) (by omega)
theorem repr_lv {st : Sto} {xs : List Str} (hs : ∀ x, x ∈ xs → shortS x) (hl : xs.length ≤ 10000) : oRepr [.lv (xs.map D.str)] st = .ok (.str (PyData.list (xs.map PyData.str)).shown) st :=
  Fine.repr (fine_strs (h := 0) hs).lst (by simp only [toPyS, toPy, toPys_strs]; rfl) (by rfl) (by omega) (by omega)
end DL
set_option Elab.async false
set_option linter.all false
set_option maxRecDepth 100000
set_option maxHeartbeats 4000000
namespace DL
open PySem PySem.Spec PyProof.Rows L2 LamX
/-! sorted(xs, key=lambda f: f[0]): the lambda is made anew each time; its code object stands in the table of its maker -/
def lamQ (X : Cx) : Str := X.env.qual ++ "<lambda>"
/-- the maker's code object and table are known -/
structure LamT (X : Cx) (T : List (Addr × Str)) : Prop where
  ex : ∃ c P, TabB X.base X.mg c P ∧ X.env.code = .ref c ∧ (P, lamQ X) ∈ T ∧ ∀ p ∈ T, p.1 = P → p.2 = lamQ X
/-- a lambda without captured names -/
structure Lam1 (y : Str) (scope : Scope) : Prop where
  kd : scope.kind = .function
  co : scope.isCoroutine = false
  gn : scope.isGenerator = false
  nm : scope.names = [(y, .local)]
section
variable {X : Cx} {pins : List (Addr × Obj)} {σ : L2.St} {H : Hp} {s : Shared}
theorem lam_new {T : List (Addr × Str)} {y : Str} {prm : Arguments} {bd : Expr} {sc : Scope} {lp : Pos} {E : Value → Shared → Prop} {Q : Value → Shared → Prop} (I : Inv X pins σ H s) (L : LamT X T) (S : Lam1 y sc) (tb : Tabs T H) (hdf : defaultsOf prm X.env = ([], []))
    (fin : ∀ (g c1 : Addr) (pm ct : Value) (H1 : Hp) (s1 : Shared), Inv X pins σ H1 s1 → ExtN H H1 → Tabs T H1 → (∀ b o, H b = some o → ∃ o1, H1 b = some o1) →
      s1.heap.get? g = some (PySem.W.kla_obj "<lambda>" (lamQ X) prm bd sc [] pm c1 ct) → s1.heap.CodeRec (.ref c1) (lamQ X) → Q (.ref g) s1) :
    wpAny (model X.prog X.w) X.A (eval (.Lambda prm bd sc lp) X.env) Q E s := by
  obtain ⟨c, P, TB, hcode, inT, uniq⟩ := L.ex
  obtain ⟨ps, eP, ok3, amg⟩ := tb _ inT
  have bP := TB.bm.keeps I.bk
  have gP : s.heap.get? P = some { cls := .none, data := .fields ps } := I.hok P _ eP
  have nocl : closureFor sc X.env = pure [] := by
    have q := closure_ok (scope := sc) (env := X.env) (fun z hz e => by
      rw [S.nm] at hz
      rw [List.mem_singleton.mp hz] at e
      cases e)
    rw [S.nm] at q
    exact q
  refine PySem.W.kla_eval hdf ?_
  rcases hc : codeAmong lp ps.toList with _ | cv
  · refine PySem.W.kla_makeFunction (c := c) (P := P) (ps := ps) (mg := X.mg) nocl I.ok.glob (I.mod.glob.keeps I.bk) hcode (TB.code.keeps I.bk) gP ok3 hc TB.gP bP ?_
    intro c1 ct h1 tk kp ge lt rec tabAt
    have recd := rec
    obtain ⟨c2, oc, vs, t, e2, eoc, edt, evs⟩ := rec
    cases e2
    have fresh : H c1 = none := I.hok.fresh ge
    let O := PySem.W.kla_obj "<lambda>" (lamQ X) prm bd sc [] ((X.mg "__name__").getD .none) c1 ct
    have keepO : ∀ b o, h1.get? b = some o → (h1.push O).get? b = some o := fun b o e => Heap.get?_push_of_some _ e
    have J := inv_table (q := lamQ X) (c := c1) (more := #[rawInt lp.line, rawInt lp.col, .ref c1]) (t' := tk) (h' := h1.push O) I eP (fun b o hb e => keepO b o (kp b o hb e)) (keepO _ _ tabAt) ge ⟨oc, vs, t, keepO _ _ eoc, edt, evs⟩
    have ext : ExtN H (upd (upd H P (.tbl (ps ++ #[rawInt lp.line, rawInt lp.col, .ref c1]))) c1 (CodeO c1 (lamQ X))) := by
      intro b o e n
      have h2 : b ≠ P := fun z => by
        rw [z, eP] at e
        exact n ps (Option.some.inj e).symm
      rw [upd_ne (ne_of_none e fresh), upd_ne h2]
      exact e
    refine fin h1.objs.size c1 _ ct _ _ J ext ?_ ?_ (Heap.get?_push_size _ rfl) (by
      obtain ⟨d1, d2, d3, d4, d5, d6, d7⟩ := recd
      exact ⟨d1, d2, d3, d4, d5, keepO _ _ d6, d7⟩)
    · intro p hp
      have lst : (ps ++ #[rawInt lp.line, rawInt lp.col, .ref c1]).toList = ps.toList ++ [rawInt lp.line, rawInt lp.col, .ref c1] := by simp
      by_cases hb : p.1 = P
      · have pq := uniq p hp hb
        rw [hb, pq]
        refine ⟨_, by rw [upd_ne (ne_of_none eP fresh), upd_same], ?_, ?_⟩
        · rw [lst]; exact PySem.TriplesOk_snoc _ _ _ _ ok3
        · intro p2 cv hcv
          rw [lst] at hcv
          rcases among_app _ ok3 hcv with z | z
          · obtain ⟨c0, z1, z2⟩ := amg p2 cv z
            exact ⟨c0, z1, ext _ _ z2 codeO_ne⟩
          · exact ⟨c1, z, upd_same⟩
      · obtain ⟨qs, a1, a2, a3⟩ := tb p hp
        refine ⟨qs, by rw [upd_ne (ne_of_none a1 fresh), upd_ne hb]; exact a1, a2, ?_⟩
        intro p2 cv hcv
        obtain ⟨c0, z1, z2⟩ := a3 p2 cv hcv
        exact ⟨c0, z1, ext _ _ z2 codeO_ne⟩
    · intro b o e
      by_cases hb : b = P
      · exact ⟨.tbl (ps ++ #[rawInt lp.line, rawInt lp.col, .ref c1]), by rw [upd_ne (ne_of_none e fresh), hb, upd_same]⟩
      · exact ⟨o, by rw [upd_ne (ne_of_none e fresh), upd_ne hb]; exact e⟩
  · obtain ⟨c1, z, hco⟩ := amg lp cv hc
    subst z
    refine PySem.W.kla_makeFunctionHit (c := c) (P := P) (ps := ps) (mg := X.mg) nocl I.ok.glob (I.mod.glob.keeps I.bk) hcode (TB.code.keeps I.bk) gP ok3 hc bP ?_
    intro ct h1 tk kp sz
    have keepO : ∀ b o, s.heap.get? b = some o → (h1.push (PySem.W.kla_obj "<lambda>" (lamQ X) prm bd sc [] ((X.mg "__name__").getD .none) c1 ct)).get? b = some o := fun b o e => Heap.get?_push_of_some _ (kp b o e)
    obtain ⟨⟨oc, vs, t, hoc, hdc, hvc⟩, _, _⟩ := I.hok c1 _ hco
    exact fin h1.objs.size c1 _ ct H _ (I.kept keepO) (ExtN.refl H) tb (fun b o e => ⟨o, e⟩) (Heap.get?_push_size _ rfl) ⟨c1, oc, vs, t, rfl, keepO _ _ hoc, hdc, hvc⟩
end
/-! ### the lambda is called -/
section
variable {prog : Program} {w : World} {A : Around} {s : Shared}
theorem lam0_call {g c1 a : Addr} {q y : Str} {prm : Arguments} {p1 p2 p3 : Pos} {kd : Nat} {sc : Scope} {pm ct : Value} {its : Array Value} {x : Str} {tk0 : Tok} (S : Lam1 y sc) (hroom : A.depth < recursionLimit) (nl : s.heap.NoLimit)
    (hg : s.heap.get? g = some (PySem.W.kla_obj "<lambda>" q prm (.Subscript (.Name y p1) (.Constant (.int 0) kd p2) p3) sc [] pm c1 ct)) (hc : s.heap.CodeRec (.ref c1) q)
    (hb : bindArgs (PySem.W.kla_fn "<lambda>" q prm (.Subscript (.Name y p1) (.Constant (.int 0) kd p2) p3) sc [] pm (.ref c1) ct) ⟨[.ref a], []⟩ = pure [(y, .ref a)]) (hy : (y == ("__debug__" : Str)) = false)
    (ht : IsTup s.heap a its) (h0 : its[0]? = some (.str x tk0)) :
    wpAny (model prog w) A (call (.ref g) [.ref a]) (PySem.W.KeyPure (.str x) s) (fun _ _ => False) s := by
  refine wpAny_call (PySem.W.kla_callFunE hroom hg rfl S.co S.gn rfl hc ?_)
  rw [hb]
  refine wpAny_pure (wpAny_newFunctionEnv (fun z hz => ?_) (fun z hz => ?_) (fun h1 hns hsb => ⟨nl.fresh _ hsb, ?_⟩) S.kd)
  · rw [S.nm] at hz
    rw [List.mem_singleton.mp hz]
    exact fun e => by cases e
  · rw [List.mem_singleton.mp hz, S.nm]
    simp [List.lookup_cons]
  · have keep : ∀ b o, s.heap.get? b = some o → h1.get? b = some o := fun b o e => hsb.extBut b o (Nat.ne_of_lt (Heap.lt_size e)) (Heap.get?_push_of_some _ e)
    refine PySem.W.kla_codeExpr ?_
    refine Subscript_ (wpAny_Name (wpAny_loadName_local (v := .ref a) S.kd (by
      show sc.names.lookup y = some NameKind.local
      rw [S.nm]; simp [List.lookup_cons]) hns (by simp [List.lookup_cons]) ?_) hy)
    refine wpAny_Constant_int ?_
    refine subscriptTail_builtinR (x := .str x tk0) (ht.keeps keep).typeIs slot_tuple_getitem.lookup ?_ (by rfl)
    have sz : 0 < its.size := by
      rcases Nat.lt_or_ge 0 its.size with z | z
      · exact z
      · rw [Array.getElem?_eq_none z] at h0
        cases h0
    refine getItem_tuple (j := 0) (Q := fun r s' => r = .str x tk0 ∧ _) (ht.keeps keep) (by decide) (by decide) ?_ h0 ⟨rfl, ?_⟩
    · unfold seqIndex?
      simp [sz]
    · exact ⟨h1, _, rfl, keep, .str _ _⟩
end
def key0 : D → Option Str
  | .tup (.str x :: _) => some x
  | .ktup (.str x :: _) => some x
  | _ => none
def keyD (d : D) : Str := (key0 d).getD ""
/-- the order of texts that sorted uses -/
def leS (x y : Str) : Bool := PySem.W.dataLe false PyData.str x y
def leK (a b : D) : Bool := leS (keyD a) (keyD b)
def kSortK (d : D) (st : Sto) : R D := match listOf st d with
  | some ds => if (ds.all fun d => (key0 d).isSome) = true ∧ ds.length ≤ sizeLine then .ok (.lv (ds.mergeSort leK)) st else .bad
  | none => .bad
def fSortK (f : FE) : FE := fun τ st => (f τ st).bind kSortK
section
variable {X : Cx} {ca : CA} {W : WX} {f : FE} {a : Expr} {p p1 p2 p3 lp kp pos : Pos}
theorem ext_lam {ρ : Nat → Addr} {n : Nat} {H H1 : Hp} (e : ExtN H H1) (th : ∀ b o, H b = some o → ∃ o1, H1 b = some o1) : Ext ρ n H ρ n H1 where
  le := Nat.le_refl _
  same := fun _ _ => rfl
  new := fun i h1 h2 => absurd h2 (Nat.not_lt.mpr h1)
  keep := fun b o q nt _ => e b o q nt
  tups := fun b xs q => e b _ q (fun _ => nofun)
  frzs := fun b o u q => e b _ q (fun _ => nofun)
  owns := fun b x q => e b _ q (fun _ => nofun)
  there := th
theorem srep_lam {K : PySem.W.Frag} {ρ : Nat → Addr} {H H1 : Hp} {st : Sto} (s : SRep K ca ρ H st) (e : ExtN H H1) (th : ∀ b o, H b = some o → ∃ o1, H1 b = some o1) (t : Tabs ca.f.tb H1) : SRep K ca ρ H1 st :=
  s.grow (ext_lam e th) (fun i hi u q => e _ _ q (fun ps z => by
    obtain ⟨o, ho⟩ : ∃ o, st[i]? = some o := ⟨st[i], List.getElem?_eq_getElem hi⟩
    have r := s.at_ i o ho
    subst z
    cases o with
    | lst ds => obtain ⟨xs, e', _⟩ := r; rw [q] at e'; cases e'
    | dic ds => obtain ⟨xs, e', _⟩ := r; rw [q] at e'; cases e'
    | dit ds => obtain ⟨xs, e', _⟩ := r; rw [q] at e'; cases e'
    | lck ds => obtain ⟨o, xs, e', _⟩ := r; rw [q] at e'; cases e'
    | ins c fs => obtain ⟨C, dx, xs, _, e', _⟩ := r; rw [q] at e'; cases e')) t
/-- an item: its value, that it is a tuple with its key ahead -/
def ItemK (K : PySem.W.Frag) (ca : CA) (ρ : Nat → Addr) (n : Nat) (H : Hp) (h : Heap) (v : Value) (d : D) : Prop := ∃ xv a its tk, v = .ref a ∧ RelV xv v ∧ Rep K ca ρ n H d xv ∧ IsTup h a its ∧ its[0]? = some (.str (keyD d) tk)
theorem itemsK {pins : List (Addr × Obj)} {σ : L2.St} {H : Hp} {s : Shared} {ρ : Nat → Addr} {n : Nat} (I : Inv X pins σ H s) : ∀ {ds : List D} {xs : List V} {vs : List Value}, (∀ d ∈ ds, (key0 d).isSome = true) → Reps X.K ca ρ n H ds xs → Vals xs vs →
    PySem.W.EachIs (ItemK X.K ca ρ n H s.heap) vs ds
  | [], xs, vs, _, r, v => by
    simp only [Reps] at r
    subst r
    cases v
    exact .nil
  | d :: ds, xs, vs, hk, r, v => by
    simp only [Reps] at r
    obtain ⟨x, xs, rfl, r1, r2⟩ := r
    cases v with
    | cons v1 v2 =>
      rename_i u us
      refine .cons ?_ (itemsK I (fun d hd => hk d (List.mem_cons_of_mem _ hd)) r2 v2)
      have k1 := hk d List.mem_cons_self
      have core : ∀ (a : Addr) (ys : List V) (x0 : Str) (es : List D), x = .ref a → SqT X.K H a ys → Reps X.K ca ρ n H (.str x0 :: es) ys → keyD d = x0 → ItemK X.K ca ρ n H s.heap u d := fun a ys x0 es e q rr ek => by
        subst e
        obtain ⟨its, rv, tp, _⟩ := I.tuple q
        simp only [Reps] at rr
        obtain ⟨w, ws, rfl, rw1, _⟩ := rr
        simp only [Rep] at rw1
        subst rw1
        obtain ⟨z, ez, rz⟩ := rv.get (i := 0) (x := .str x0) rfl
        obtain ⟨t, rfl⟩ := rz
        cases (show u = Value.ref a from v1)
        exact ⟨.ref a, a, its.toArray, t, rfl, v1, r1, tp, by rw [ek]; simpa using ez⟩
      cases d with
      | tup es =>
        cases es with
        | nil => simp [key0] at k1
        | cons e es =>
          cases e with
          | str x0 =>
            have r1' := r1
            simp only [Rep] at r1'
            obtain ⟨a, ys, e, q, rr⟩ := r1'
            exact core a ys x0 es e (.inl (.inl q)) rr rfl
          | _ => simp [key0] at k1
      | ktup es =>
        cases es with
        | nil => simp [key0] at k1
        | cons e es =>
          cases e with
          | str x0 =>
            have r1' := r1
            simp only [Rep] at r1'
            obtain ⟨a, ys, e, q, rr⟩ := r1'
            exact core a ys x0 es e q.seq rr rfl
          | _ => simp [key0] at k1
      | _ => simp [key0] at k1
theorem outK {K : PySem.W.Frag} {H : Hp} {h : Heap} {ρ : Nat → Addr} {n : Nat} : ∀ {vs : List Value} {ds : List D}, PySem.W.EachIs (ItemK K ca ρ n H h) vs ds → ∃ xs, Vals xs vs ∧ Reps K ca ρ n H ds xs
  | _, _, .nil => ⟨[], .nil, Reps.nil⟩
  | _, _, .cons ⟨xv, a, its, tk, e, r, rp, _⟩ t => by
    obtain ⟨xs, v, q⟩ := outK t
    exact ⟨xv :: xs, .cons r v, Reps.cons rp q⟩
theorem je_sortK {k : Nat} {y : Str} {prm : Arguments} {kd : Nat} {sc : Scope} (hr : RoomL k X.A) (T : LamT X ca.f.tb) (S : Lam1 y sc) (hg : Gl X "sorted") (hm : X.mg "sorted" = none) (ha : JE X ca W a f) (hdf : defaultsOf prm X.env = ([], []))
    (hb : ∀ (q : Str) (pm cv ct : Value) (u : Value), bindArgs (PySem.W.kla_fn "<lambda>" q prm (.Subscript (.Name y p1) (.Constant (.int 0) kd p2) p3) sc [] pm cv ct) ⟨[u], []⟩ = pure [(y, u)])
    (hy : (y == ("__debug__" : Str)) = false := by decide)
    (hst : starEach [a] X.env = (false, eval a X.env) :: starEach [] X.env := by rfl) (he : backTo pos (starEach [a] X.env) = (false, eval a X.env) :: backTo pos (starEach [] X.env) := by rfl) (hpl : (backTo pos (starEach [a] X.env)).any (·.1) = false := by rfl) :
    JE X ca W (.Call (.Name "sorted" p) [a] [⟨some "key", .Lambda prm (.Subscript (.Name y p1) (.Constant (.int 0) kd p2) p3) sc lp, kp⟩] pos) (fSortK f) := by
  refine ⟨fun pins s σ H Q I h => ?_⟩
  refine wpAny_Call_Name_kw (ld_blt I hg hm (by rfl) ?_ (by decide) (by decide))
  refine PyProof.Rows.callWith_kw (thn ((ja_cons ha ja_nil hst).run pos pins s σ H (fun xs H1 => ∃ ρ1 st1 d, xs.length = 1 ∧ SRep X.K ca ρ1 H1 st1 ∧ Reps X.K ca ρ1 st1.length H1 [d] xs ∧ Post X.K ca W ρ1 st1.length H1 (kSortK d st1) (KD X.K ca Q)) I ?_) fun us s1 ⟨xs, H1, I1, r1, q1⟩ => ?_) he hpl (by rfl) (by rfl)
  · obtain ⟨ρ, st, τ, sl, sr, h⟩ := h
    refine ⟨ρ, st, τ, sl, sr, ?_⟩
    show Post X.K ca W ρ st.length H ((f τ st).bind fun d st1 => (aNil τ st1).bind fun ds st2 => .ok (d :: ds) st2) _
    have h2 := Post.bind h
    cases e : f τ st with
    | bad => rw [e] at h2; exact h2
    | ex c fs τ1 st1 => rw [e] at h2; exact h2
    | ok d st1 =>
      rw [e] at h2
      intro H2 ρ2 x2 s2 vs rs
      obtain ⟨_, _, q⟩ := h2 H2 ρ2 x2 s2
      exact ⟨ρ2, st1, d, by rw [rs.length]; rfl, s2, rs, q⟩
  · obtain ⟨ρ1, st1, d, hl, s1r, rs, q⟩ := q1
    simp only [Reps] at rs
    obtain ⟨xv, _, rfl, rx, rfl⟩ := rs
    unfold kSortK at q
    cases el : listOf st1 d with
    | none => rw [el] at q; exact q.elim
    | some ds =>
      rw [el] at q
      simp only at q
      by_cases cond : (ds.all fun d => (key0 d).isSome) = true ∧ ds.length ≤ sizeLine
      · rw [if_pos cond] at q
        obtain ⟨l, ys, rfl, hq, rr⟩ := listOf_rep s1r el rx
        obtain rfl := Vals.ref1 r1
        refine wpAny_evalAll_cons (wpAny_bind (lam_new (T := ca.f.tb) I1 T S s1r.tab hdf fun g c1 pm ct H2 s2 I2 ext tb2 th hgg hcc => wpAny_bind (wpAny_standAt (wpAny_pure (wpAny_evalAll_nil ?_)))))
        have s2r : SRep X.K ca ρ1 H2 st1 := srep_lam s1r ext th tb2
        have x2 : Ext ρ1 st1.length H1 ρ1 st1.length H2 := ext_lam ext th
        have hq2 : SqL X.K H2 l ys := by
          rcases hq with (h | ⟨o, h⟩) | h
          · exact .inl (.inl (ext _ _ h (fun _ => nofun)))
          · exact .inl (.inr ⟨o, ext _ _ h (fun _ => nofun)⟩)
          · exact .inr h
        obtain ⟨its, rv, pl, hz⟩ := I2.list hq2
        have each := itemsK I2 (fun d hd => List.all_eq_true.mp cond.1 d hd) (rr.ext x2) rv
        have rm := hr.room
        refine PySem.W.sorted_key_data (b := false) (bs := ds) (fun d => PyData.str (keyD d)) pl.isList each (fun a ha b hb => ?_) (.inr fun a ha => ?_) cond.2 (fun x hx => ?_) (PyProof.Rows.ksk_s1 _ _) (fun _ => PyProof.Rows.ksk_l1 _ _) (fun x => PyProof.Rows.ksk_t1 _ _) (fun v x ri hx h tk kp => ?_) (fun out c h' tk kp _ hat hlen each2 => ?_)
        · obtain ⟨u, _, rfl⟩ := List.mem_map.mp ha
          obtain ⟨v, _, rfl⟩ := List.mem_map.mp hb
          rfl
        · obtain ⟨u, _, rfl⟩ := List.mem_map.mp ha
          exact ⟨nofun, fun _ => nofun⟩
        · have := rm.un
          show X.A.units + 2 + PyData.depth (.str (keyD x)) < cLine
          simp only [PyData.depth]
          omega
        · obtain ⟨xv, a, it, t0, rfl, _, _, tp, e0⟩ := ri
          exact lam0_call (s := { s2 with heap := h, toks := tk }) S (by have := rm.dp; show X.A.depth < _; omega) (I2.nolimit.keeps kp) (kp _ _ hgg) (by
            obtain ⟨d1, d2, d3, d4, d5, d6, d7⟩ := hcc
            exact ⟨d1, d2, d3, d4, d5, kp _ _ d6, d7⟩) (hb _ _ _ _ _) hy (tp.keeps kp) e0
        · obtain ⟨zs, vz, rz⟩ := outK each2
          have np : H2 (s2.heap.objs.size + 1) = none := I2.hok.fresh (Nat.le_succ _)
          refine ⟨.ref (s2.heap.objs.size + 1), upd H2 (s2.heap.objs.size + 1) (.lst zs), I2.laid kp (Nat.le_succ _) ⟨?_, _, c, vz, hat⟩, rfl, ?_⟩
          · rw [rz.length, List.length_mergeSort]; exact cond.2
          · have fin := q (upd H2 (s2.heap.objs.size + 1) (.lst zs)) ρ1 (x2.trans (Ext.upd_new s2r np)) (s2r.upd_new np) (.ref (s2.heap.objs.size + 1))
            refine fin ?_
            exact rep_lv_new s2r np rz
      · rw [if_neg cond] at q; exact q.elim
end
/-- the table of a def that makes a lambda -/
theorem lamT_of {P : Program} {w : World} {K : PySem.W.Frag} {mg : Str → Option Value} {base : Heap} {N : List Str} {qual x q : Str} {scope : Scope} {f : Addr} {cdv : Value} {A : Around} {outer : List Env} {s : Shared} {H : Hp} {E : XK} {fd : FuncData} {T : List (Addr × Str)}
    (hf : f = He.fAd K (x, none)) (hc : ∃ oc od osl c, K.lookup f = some ⟨oc, od, .func fd, osl⟩ ∧ fd.code = .ref c ∧ cdv = .ref c) (TB : TabB base mg (He.cT K (x, none)).1 (He.cT K (x, none)).2) (hT : T = [((He.cT K (x, none)).2, q)]) (hq : qual ++ ".<locals>." ++ "<lambda>" = q) :
    LamT (cxOf (L2.CX P w) P w K mg base N qual scope f cdv A outer s H E) T := by
  obtain ⟨oc, od, osl, c, lk, ec, rfl⟩ := hc
  subst hf
  have e := He.codeOf_eq lk ec
  refine ⟨c, (He.cT K (x, none)).2, ?_, rfl, ?_, fun p hp _ => ?_⟩
  · have := TB
    unfold He.cT at this
    simp only [e] at this
    unfold He.cT
    simp only [e]
    exact this
  · rw [hT, ← hq]
    exact List.mem_singleton.mpr rfl
  · rw [hT] at hp
    rw [List.mem_singleton.mp hp, ← hq]
    rfl
end DL
set_option Elab.async false
set_option linter.all false
set_option maxRecDepth 100000
set_option maxHeartbeats 4000000
namespace DL
open PySem PySem.Spec PyProof.Rows L2 LamX
/-! more of the built-in functions: sum, get, {..}, dict, sorted, [::-1], None in a dict -/
def intsD : List D → Option (List Int)
  | [] => some []
  | .int i :: r => (intsD r).map (i :: ·)
  | _ => none
def strsD : List D → Option (List Str)
  | [] => some []
  | .str i :: r => (strsD r).map (i :: ·)
  | _ => none
def oSum : Fn := fun ds st => match ds with
  | [d] => match (listOf st d).bind intsD with
    | some ns => .ok (.int ns.sum) st
    | none => .bad
  | _ => .bad
theorem oSum_nox (ds st) : NoEx (oSum ds st) := by unfold oSum NoEx; intros; (repeat' split) <;> (intro h; cases h)
/-- texts in their order -/
def leSt (x y : Str) : Bool := leS x y
def oSortS : Fn := fun ds st => match ds with
  | [d] => match (listOf st d).bind strsD with
    | some ns => if ns.length ≤ sizeLine then .ok (.lv ((ns.mergeSort leS).map D.str)) st else .bad
    | none => .bad
  | _ => .bad
theorem oSortS_nox (ds st) : NoEx (oSortS ds st) := by unfold oSortS NoEx; intros; (repeat' split) <;> (intro h; cases h)
def dicOf (st : Sto) : D → Option (List (Key × D))
  | .obj i => match st[i]? with
    | some (.dic kvs) => some kvs
    | some (.lck kvs) => some kvs
    | _ => none
  | _ => none
def oDictOf : Fn := fun ds st => match ds with
  | [d] => match dicOf st d with
    | some kvs => .ok (.obj st.length) (st ++ [.dic kvs])
    | none => .bad
  | _ => .bad
theorem oDictOf_nox (ds st) : NoEx (oDictOf ds st) := by unfold oDictOf NoEx; intros; (repeat' split) <;> (intro h; cases h)
section
variable {K : PySem.W.Frag} {ca : CA} {ρ : Nat → Addr} {n : Nat} {H : Hp}
theorem reps_ints : ∀ {ds : List D} {ns : List Int} {xs : List V}, intsD ds = some ns → Reps K ca ρ n H ds xs → xs = ns.map V.int
  | [], ns, xs, e, r => by
    simp only [intsD, Option.some.injEq] at e
    subst e
    simp only [Reps] at r
    subst r
    rfl
  | d :: ds, ns, xs, e, r => by
    cases d with
    | int i =>
      simp only [intsD, Option.map_eq_some_iff] at e
      obtain ⟨m, e, rfl⟩ := e
      simp only [Reps] at r
      obtain ⟨v, ys, rfl, r1, r2⟩ := r
      simp only [Rep] at r1
      subst r1
      rw [reps_ints e r2]
      rfl
    | _ => simp [intsD] at e
theorem reps_strs : ∀ {ds : List D} {ns : List Str} {xs : List V}, strsD ds = some ns → Reps K ca ρ n H ds xs → xs = ns.map V.str
  | [], ns, xs, e, r => by
    simp only [strsD, Option.some.injEq] at e
    subst e
    simp only [Reps] at r
    subst r
    rfl
  | d :: ds, ns, xs, e, r => by
    cases d with
    | str i =>
      simp only [strsD, Option.map_eq_some_iff] at e
      obtain ⟨m, e, rfl⟩ := e
      simp only [Reps] at r
      obtain ⟨v, ys, rfl, r1, r2⟩ := r
      simp only [Rep] at r1
      subst r1
      rw [reps_strs e r2]
      rfl
    | _ => simp [strsD] at e
theorem reps_strs_back : ∀ (ns : List Str), Reps K ca ρ n H (ns.map D.str) (ns.map V.str)
  | [] => Reps.nil
  | x :: ns => Reps.cons (by simp only [Rep]) (reps_strs_back ns)
theorem each_strs : ∀ {ns : List Str} {us : List Value}, Vals (ns.map V.str) us → PySem.W.EachIs (fun v x => ∃ t, v = Value.str x t) us ns
  | [], us, v => by cases v; exact .nil
  | x :: ns, us, v => by
    cases v with
    | cons v1 v2 => exact .cons v1 (each_strs v2)
theorem each_strs_back : ∀ {ns : List Str} {us : List Value}, PySem.W.EachIs (fun v x => ∃ t, v = Value.str x t) us ns → Vals (ns.map V.str) us
  | _, _, .nil => .nil
  | _, _, .cons h t => .cons h (each_strs_back t)
theorem dicOf_rep {st : Sto} (s : SRep K ca ρ H st) {d : D} {kvs : List (Key × D)} {v : V} (e : dicOf st d = some kvs) (r : Rep K ca ρ st.length H d v) : ∃ a ws, v = .ref a ∧ Rd H a (.dK ws) ∧ RepKV K ca ρ st.length H kvs ws := by
  cases d with
  | obj i =>
    simp only [Rep] at r
    simp only [dicOf] at e
    cases q : st[i]? with
    | none => simp [q] at e
    | some m =>
      cases m with
      | dic es =>
        simp only [q, Option.some.injEq] at e; subst e
        obtain ⟨ws, h, rr⟩ := s.at_ i _ q
        exact ⟨ρ i, ws, r.2, .inl h, rr⟩
      | lck es =>
        simp only [q, Option.some.injEq] at e; subst e
        obtain ⟨o, ws, h, rr⟩ := s.at_ i _ q
        exact ⟨ρ i, ws, r.2, .inr ⟨o, h⟩, rr⟩
      | _ => simp [q] at e
  | _ => simp [dicOf] at e
end
section
variable {X : Cx} {ca : CA} {W : WX} {a b c e o : Expr} {es : List Expr} {f g k : FE} {pos p apos cpos : Pos} {x : Str}
theorem cr_sumD (hc : X.calm = true) : CallR X (.builtin "sum") (rDL ca X.K oSum) := CallR.imp (cr_sum hc) fun xs H Q ⟨ρ, st, ds, rs, s, q⟩ => by
  match ds, rs, q with
  | [d], rs, q =>
    obtain ⟨v, rfl, rv⟩ := rs.one
    simp only [oSum] at q
    cases e : (listOf st d).bind intsD with
    | none => simp only [e] at q; exact q.elim
    | some ns =>
      simp only [e] at q
      obtain ⟨es, e1, e2⟩ := Option.bind_eq_some_iff.mp e
      obtain ⟨a, ys, rfl, hq, rr⟩ := listOf_rep s e1 rv
      exact ⟨a, ns, rfl, by rw [← reps_ints e2 rr]; exact hq, q.here s _ (by simp only [Rep])⟩
  | [], _, q => exact q.elim
  | _ :: _ :: _, _, q => exact q.elim
theorem cr_sortS (hd : Deep X) : CallR X (.builtin "sorted") (rDL ca X.K oSortS) := by
  intro pins s σ H xs us Q I rv ⟨ρ, st, ds, rs, sr, q⟩
  match ds, rs, q with
  | [d], rs, q =>
    obtain ⟨v, rfl, rx⟩ := rs.one
    simp only [oSortS] at q
    cases e : (listOf st d).bind strsD with
    | none => simp only [e] at q; exact q.elim
    | some ns =>
      simp only [e] at q
      by_cases hl : ns.length ≤ sizeLine
      · rw [if_pos hl] at q
        obtain ⟨es, e1, e2⟩ := Option.bind_eq_some_iff.mp e
        obtain ⟨l, ys, rfl, hq, rr⟩ := listOf_rep sr e1 rx
        obtain rfl := Vals.ref1 rv
        rw [reps_strs e2 rr] at hq
        obtain ⟨its, r2, pl, hz⟩ := I.list hq
        have each := each_strs r2
        refine PySem.W.sorted_data (enc := PyData.str) (bs := ns) pl.isList each (each.mono fun v x ⟨t, h⟩ => ⟨[], by rw [h]; exact .str x t⟩) (fun a ha b hb => ?_) (.inr fun a ha => ?_) hl (fun x hx => ?_) fun out hlen e3 => ?_
        · obtain ⟨u, _, rfl⟩ := List.mem_map.mp ha
          obtain ⟨v, _, rfl⟩ := List.mem_map.mp hb
          rfl
        · obtain ⟨u, _, rfl⟩ := List.mem_map.mp ha
          exact ⟨nofun, fun _ => nofun⟩
        · show X.A.units + 2 + PyData.depth (.str x) < cLine
          simp only [PyData.depth]
          exact Nat.lt_of_le_of_lt (by omega) hd
        · obtain ⟨ep, he⟩ := PyProof.Rows.sortedAll_at s.heap its (List.toArray out)
          have np : H (s.heap.objs.size + 1) = none := I.hok.fresh (Nat.le_succ _)
          refine ⟨.ref (s.heap.objs.size + 1), upd H (s.heap.objs.size + 1) (.lst ((ns.mergeSort leS).map V.str)), I.laid (t' := s.toks) (fun _ _ => PyProof.Rows.sortedAll_old) (Nat.le_succ _) ⟨?_, _, ep, each_strs_back e3, he⟩, rfl, ?_⟩
          · rw [List.length_map, List.length_mergeSort]; exact hl
          · exact q _ ρ (Ext.upd_new sr np) (sr.upd_new np) _ (rep_lv_new sr np (reps_strs_back _))
      · rw [if_neg hl] at q; exact q.elim
  | [], _, q => exact q.elim
  | _ :: _ :: _, _, q => exact q.elim
theorem cr_dictOf : CallR X (.type "dict") (rDL ca X.K oDictOf) := CallR.imp call_dictD fun xs H Q ⟨ρ, st, ds, rs, s, q⟩ => by
  match ds, rs, q with
  | [d], rs, q =>
    obtain ⟨v, rfl, rv⟩ := rs.one
    simp only [oDictOf] at q
    cases e : dicOf st d with
    | none => simp only [e] at q; exact q.elim
    | some kvs =>
      simp only [e] at q
      obtain ⟨a, ws, rfl, hr, rr⟩ := dicOf_rep s e rv
      refine ⟨a, ws, rfl, hr, fun p hp => ?_⟩
      have x := ext_more (o := .dK ws) s hp (MO.dic kvs)
      exact q _ _ x (s.more hp (kept_new hp) ⟨ws, upd_same, by rw [List.length_append, List.length_singleton] at x; exact rr.ext x⟩) _ (rep_obj_new _)
  | [], _, q => exact q.elim
  | _ :: _ :: _, _, q => exact q.elim
/-! ### xs[::-1] -/
def kRev (d : D) (st : Sto) : R D := match listOf st d with
  | some ds => .ok (.lv ds.reverse) st
  | none => .bad
def fRev (f : FE) : FE := fun τ st => (f τ st).bind kRev
theorem je_rev {k : Nat} {p1 p2 p3 : Pos} (ha : JE X ca W a f) : JE X ca W (.Subscript a (.Slice none none (some (.UnaryOp .USub (.Constant (.int 1) k p1) p2)) p3) pos) (fRev f) :=
  pe_imp (pe_revL ha) fun σ H Q ⟨ρ, st, τ, sl, s, h⟩ => at_of sl s h fun d ρ1 st1 H1 x1 sl1 s1 h1 v rv => by
    unfold kRev at h1
    cases e : listOf st1 d with
    | none => rw [e] at h1; exact h1.elim
    | some ds =>
      rw [e] at h1
      obtain ⟨l, ys, rfl, hq, rr⟩ := listOf_rep s1 e rv
      exact ⟨l, ys, rfl, hq, fun p hp => h1 _ ρ1 (Ext.upd_new s1 hp) (s1.upd_new hp) _ (rep_lv_new s1 hp rr.reverse)⟩
/-! ### d.get(k, x) -/
def isDk (st : Sto) (d : D) : Bool := (dictLook st d (.str "")).isSome || (dictLook st d (.tup [])).isSome
theorem isDk_rep {K : PySem.W.Frag} {ρ : Nat → Addr} {H : Hp} {st : Sto} (s : SRep K ca ρ H st) {d : D} {v : V} (e : isDk st d = true) (r : Rep K ca ρ st.length H d v) : ∃ a, v = .ref a ∧ IsD H a := by
  cases d with
  | dv ks vs =>
    simp only [Rep] at r
    obtain ⟨a, kvs, rfl, q, _⟩ := r
    exact ⟨a, rfl, .inl ⟨kvs, q.rd⟩⟩
  | obj i =>
    simp only [Rep] at r
    simp only [isDk, dictLook] at e
    cases q : st[i]? with
    | none => simp [q] at e
    | some m =>
      cases m with
      | dic es =>
        obtain ⟨ws, h, rr⟩ := s.at_ i _ q
        exact ⟨ρ i, r.2, .inl ⟨ws, .inl h⟩⟩
      | dit es =>
        obtain ⟨ws, h, rr⟩ := s.at_ i _ q
        exact ⟨ρ i, r.2, .inr ⟨ws, .inl h⟩⟩
      | lck es =>
        obtain ⟨o, ws, h, rr⟩ := s.at_ i _ q
        exact ⟨ρ i, r.2, .inl ⟨ws, .inr ⟨o, h⟩⟩⟩
      | _ => simp [q] at e
  | _ => simp [isDk, dictLook] at e
def kGet3 (d k z : D) (st : Sto) : R D := match dictLook st d k with
  | some w => .ok (w.getD z) st
  | none => .bad
def kGet2 (g : FE) (τ : Ti) (d k : D) (st : Sto) : R D := (g τ st).bind (kGet3 d k)
def kGet1 (k g : FE) (τ : Ti) (d : D) (st : Sto) : R D := if isDk st d = true then (k τ st).bind (kGet2 g τ d) else .bad
def fDget (f k g : FE) : FE := fun τ st => (f τ st).bind (kGet1 k g τ)
theorem je_dget2 (hu : Deep X) (ho : JE X ca W o f) (he : JE X ca W e k) (hf : JE X ca W c g) (m : M2 X o "get" apos e c cpos := by exact ⟨rfl, rfl, rfl, rfl⟩) : JE X ca W (.Call (.Attribute o "get" apos) [e, c] [] cpos) (fDget f k g) :=
  pe_imp (pe_dget2 (deep1 hu) ho he hf m) fun σ H Q ⟨ρ, st, τ, sl, s, h⟩ => at_of sl s h fun d ρ1 st1 H1 x1 sl1 s1 h1 v rv => by
    unfold kGet1 at h1
    by_cases q : isDk st1 d = true
    · rw [if_pos q] at h1
      obtain ⟨a0, rfl, id⟩ := isDk_rep s1 q rv
      refine ⟨a0, rfl, id, at_of sl1 s1 h1 fun y ρ2 st2 H2 x2 sl2 s2 h2 yv ry => at_of sl2 s2 h2 fun z ρ3 st3 H3 x3 sl3 s3 h3 zv rz => ?_⟩
      unfold kGet3 at h3
      cases el : dictLook st3 d y with
      | none => rw [el] at h3; exact h3.elim
      | some w =>
        rw [el] at h3
        obtain ⟨a1, w1, e1, _, dg, wz⟩ := dictLook_rep s3 el ((rv.ext x2).ext x3) (ry.ext x3)
        cases e1
        refine ⟨w1, dg, h3.here s3 _ ?_⟩
        rcases wz with ⟨rfl, rfl⟩ | ⟨d', z', rfl, rfl, rr⟩
        · exact rz
        · exact rr
    · rw [if_neg q] at h1; exact h1.elim
/-! ### None in a dict -/
def isDK1 (st : Sto) (e : D) : Bool := (dictLook st e (.str "")).isSome
def opInN (d e : D) (st : Sto) : R D := match d with
  | .non => if isDK1 st e = true then .ok (.bl false) st else .bad
  | d => match dictLook st e d with
    | some w => .ok (.bl w.isSome) st
    | none => .bad
def opNotInN (d e : D) (st : Sto) : R D := match d with
  | .non => if isDK1 st e = true then .ok (.bl true) st else .bad
  | d => match dictLook st e d with
    | some w => .ok (.bl (!w.isSome)) st
    | none => .bad
theorem isDK1_rep {K : PySem.W.Frag} {ρ : Nat → Addr} {H : Hp} {st : Sto} (s : SRep K ca ρ H st) {d : D} {v : V} (e : isDK1 st d = true) (r : Rep K ca ρ st.length H d v) : ∃ a kvs, v = .ref a ∧ Rd H a (.dK kvs) := by
  cases d with
  | dv ks vs =>
    simp only [Rep] at r
    obtain ⟨a, kvs, rfl, q, _⟩ := r
    exact ⟨a, kvs, rfl, q.rd⟩
  | obj i =>
    simp only [Rep] at r
    simp only [isDK1, dictLook] at e
    cases q : st[i]? with
    | none => simp [q] at e
    | some m =>
      cases m with
      | dic es =>
        obtain ⟨ws, h, rr⟩ := s.at_ i _ q
        exact ⟨ρ i, ws, r.2, .inl h⟩
      | lck es =>
        obtain ⟨o, ws, h, rr⟩ := s.at_ i _ q
        exact ⟨ρ i, ws, r.2, .inr ⟨o, h⟩⟩
      | dit es => simp [q, tkeyOf] at e
      | _ => simp [q] at e
  | _ => simp [isDK1, dictLook] at e
theorem inN_go {K : PySem.W.Frag} {neg : Bool} {σ : L2.St} {H : Hp} {Q : VK} {τ : Ti} {st : Sto} {ρ : Nat → Addr} (sl : Slots K ca ρ st.length H τ σ) (s : SRep K ca ρ H st)
    (h : Post K ca W ρ st.length H (fOp (if neg then opNotInN else opInN) f g τ st) (KD K ca Q)) :
    tD K ca W f σ H fun y H1 => tD K ca W g σ H1 fun x H2 => (∃ a o, x = .ref a ∧ DGet H2 a y o ∧ Q (.bl (if neg then !o.isSome else o.isSome)) H2) ∨ ∃ a kvs, x = .ref a ∧ y = .non ∧ Rd H2 a (.dK kvs) ∧ Q (.bl neg) H2 :=
  at_of sl s h fun d ρ1 st1 H1 x1 sl1 s1 h1 v rv => at_of sl1 s1 h1 fun e ρ2 st2 H2 x2 sl2 s2 h2 u ru => by
    have nonk : ∀ (w : Option D), dictLook st2 e d = some w → Post K ca W ρ2 st2.length H2 (.ok (.bl (if neg then !w.isSome else w.isSome)) st2) (KD K ca Q) →
        ∃ a o, u = .ref a ∧ DGet H2 a v o ∧ Q (.bl (if neg then !o.isSome else o.isSome)) H2 := fun w el hp => by
      obtain ⟨a1, w1, e1, _, dg, wz⟩ := dictLook_rep s2 el ru (rv.ext x2)
      refine ⟨a1, w1, e1, dg, hp.here s2 _ ?_⟩
      simp only [Rep]
      rcases wz with ⟨rfl, rfl⟩ | ⟨d', z', rfl, rfl, rr⟩ <;> rfl
    by_cases nd : d = .non
    · subst nd
      have hv : v = .non := by simpa only [Rep] using rv
      have h3 : Post K ca W ρ2 st2.length H2 (if isDK1 st2 e = true then .ok (.bl neg) st2 else .bad) (KD K ca Q) := by cases neg <;> exact h2
      by_cases q : isDK1 st2 e = true
      · rw [if_pos q] at h3
        obtain ⟨a, kvs, eu, rd⟩ := isDK1_rep s2 q ru
        exact .inr ⟨a, kvs, eu, hv, rd, h3.here s2 _ (by simp only [Rep])⟩
      · rw [if_neg q] at h3; exact h3.elim
    · have h3 : Post K ca W ρ2 st2.length H2 (match dictLook st2 e d with | some w => .ok (.bl (if neg then !w.isSome else w.isSome)) st2 | none => .bad) (KD K ca Q) := by
        cases neg <;> (cases d <;> first | exact h2 | exact absurd rfl nd)
      cases el : dictLook st2 e d with
      | none => rw [el] at h3; exact h3.elim
      | some w => rw [el] at h3; exact .inl (nonk w el h3)
theorem je_inN (hu : Deep X) (ha : JE X ca W a f) (hb : JE X ca W b g) (hm : behindInMarks .In b = false := by with_unfolding_all rfl) : JE X ca W (.Compare a [.In] [b] pos) (fOp opInN f g) :=
  pe_imp (pe_cmp (pc_dinN (deep1 hu) ha hb) hm) fun σ H Q ⟨ρ, st, τ, sl, s, h⟩ => inN_go (neg := false) sl s h
theorem je_notinN (hu : Deep X) (ha : JE X ca W a f) (hb : JE X ca W b g) (hm : behindInMarks .NotIn b = false := by with_unfolding_all rfl) : JE X ca W (.Compare a [.NotIn] [b] pos) (fOp opNotInN f g) :=
  pe_imp (pe_cmp (pc_dnotinN (deep1 hu) ha hb) hm) fun σ H Q ⟨ρ, st, τ, sl, s, h⟩ => inN_go (neg := true) sl s h
theorem post_bof {K : PySem.W.Frag} {ρ : Nat → Addr} {n : Nat} {H : Hp} {F : FE} {τ : Ti} {st : Sto} {Q : Bool → Hp → Prop} (h : Post K ca W ρ n H (bOf F τ st) (KB Q)) : Post K ca W ρ n H (F τ st) (KD K ca (fun v H' => ∃ c, v = .bl c ∧ Q c H')) :=
  (Post.bind h).mono fun a ρ3 st3 H3 x3 s3 q v3 r3 => by
    obtain ⟨_, _, q⟩ := q
    cases a with
    | bl k => simp only [Rep] at r3; exact ⟨k, r3, q.here s3⟩
    | _ => exact q.elim
theorem jb_inN (hu : Deep X) (ha : JE X ca W a f) (hb : JE X ca W b g) (hm : behindInMarks .In b = false := by with_unfolding_all rfl) : JB X ca W (.Compare a [.In] [b] pos) (bOf (fOp opInN f g)) :=
  pt_imp (pt_cmp (pc_dinN (deep1 hu) ha hb) hm) fun σ H Q ⟨ρ, st, τ, sl, s, h⟩ => inN_go (neg := false) sl s (post_bof h)
theorem jb_notinN (hu : Deep X) (ha : JE X ca W a f) (hb : JE X ca W b g) (hm : behindInMarks .NotIn b = false := by with_unfolding_all rfl) : JB X ca W (.Compare a [.NotIn] [b] pos) (bOf (fOp opNotInN f g)) :=
  pt_imp (pt_cmp (pc_dnotinN (deep1 hu) ha hb) hm) fun σ H Q ⟨ρ, st, τ, sl, s, h⟩ => inN_go (neg := true) sl s (post_bof h)
/-! ### {k: v, ..} -/
abbrev FP := Ti → Sto → R (List (D × D))
def pNil : FP := fun _ st => .ok [] st
def kPair3 (d e : D) (ps : List (D × D)) (st : Sto) : R (List (D × D)) := .ok ((d, e) :: ps) st
def kPair2 (q : FP) (τ : Ti) (d e : D) (st : Sto) : R (List (D × D)) := (q τ st).bind (kPair3 d e)
def kPair1 (g : FE) (q : FP) (τ : Ti) (d : D) (st : Sto) : R (List (D × D)) := (g τ st).bind (kPair2 q τ d)
def pCons (f g : FE) (q : FP) : FP := fun τ st => (f τ st).bind (kPair1 g q τ)
def RepPs (K : PySem.W.Frag) (ca : CA) (ρ : Nat → Addr) (n : Nat) (H : Hp) : List (D × D) → List (V × V) → Prop
  | [], vs => vs = []
  | p :: ps, vs => ∃ x y r, vs = (x, y) :: r ∧ Rep K ca ρ n H p.1 x ∧ Rep K ca ρ n H p.2 y ∧ RepPs K ca ρ n H ps r
def JP (X : Cx) (ca : CA) (W : WX) (pos : Pos) (ks : List (Option Expr)) (vs : List Expr) (q : FP) : Prop :=
  ∃ trs, PPs X pos ks vs trs ∧ ∀ σ H Q, At X.K ca W q σ H (fun ps ρ st H1 => ∀ ws, RepPs X.K ca ρ st.length H1 ps ws → Q ws H1) → tPairs trs σ H Q
theorem jp_nil : JP X ca W pos [] [] pNil := ⟨[], pps_nil, fun σ H Q ⟨ρ, st, τ, sl, s, h⟩ => h.here s [] rfl⟩
theorem jp_cons {ks : List (Option Expr)} {vs : List Expr} {q : FP} (ha : JE X ca W a f) (hb : JE X ca W b g) (hr : JP X ca W pos ks vs q) : JP X ca W pos (some a :: ks) (b :: vs) (pCons f g q) := by
  obtain ⟨trs, h1, h2⟩ := hr
  refine ⟨_, pps_cons ha hb h1, fun σ H Q ⟨ρ, st, τ, sl, s, h⟩ => ?_⟩
  exact at_of sl s h fun d ρ1 st1 H1 x1 sl1 s1 h1 v rv => at_of sl1 s1 h1 fun e ρ2 st2 H2 x2 sl2 s2 h3 u ru => h2 _ _ _ (at_of sl2 s2 h3 fun ps ρ3 st3 H3 x3 sl3 s3 h4 ws rs =>
    h4.here s3 _ ⟨v, u, ws, rfl, (rv.ext x2).ext x3, ru.ext x3, rs⟩)
def pairsK : List (D × D) → Option (List (Key × D))
  | [] => some []
  | p :: r => match keyOf p.1, pairsK r with
    | some k, some q => some ((k, p.2) :: q)
    | _, _ => none
def mergeD (kvs more : List (Key × D)) : List (Key × D) := more.foldl (fun acc kv => putD acc kv.1 kv.2) kvs
theorem pairsK_rep {K : PySem.W.Frag} {ρ : Nat → Addr} {n : Nat} {H : Hp} : ∀ {ps : List (D × D)} {ws : List (V × V)} {kvs : List (Key × D)}, pairsK ps = some kvs → RepPs K ca ρ n H ps ws → ∃ us, ws = us.map (fun kv => (kV kv.1, kv.2)) ∧ RepKV K ca ρ n H kvs us
  | [], ws, kvs, e, r => by
    simp only [pairsK, Option.some.injEq] at e
    subst e
    simp only [RepPs] at r
    subst r
    exact ⟨[], rfl, by simp only [RepKV]⟩
  | p :: ps, ws, kvs, e, r => by
    obtain ⟨x, y, r', rfl, r1, r2, r3⟩ := r
    unfold pairsK at e
    cases e1 : keyOf p.1 with
    | none => rw [e1] at e; cases e
    | some k =>
      cases e2 : pairsK ps with
      | none => rw [e1, e2] at e; cases e
      | some q =>
        rw [e1, e2] at e
        cases e
        obtain ⟨us, e3, r4⟩ := pairsK_rep e2 r3
        refine ⟨(k, y) :: us, ?_, ?_⟩
        · rw [e3]
          have : x = kV k := by
            obtain ⟨d, e⟩ := p
            cases d with
            | int i => simp only [keyOf, Option.some.injEq] at e1; subst e1; simp only [Rep] at r1; exact r1
            | str i => simp only [keyOf, Option.some.injEq] at e1; subst e1; simp only [Rep] at r1; exact r1
            | _ => cases e1
          rw [this]
          rfl
        · simp only [RepKV]
          exact ⟨y, us, rfl, r2, r4⟩
theorem repKV_merge {K : PySem.W.Frag} {ρ : Nat → Addr} {n : Nat} {H : Hp} : ∀ (more : List (Key × D)) {mws : List (Key × V)} {kvs : List (Key × D)} {ws : List (Key × V)}, RepKV K ca ρ n H more mws → RepKV K ca ρ n H kvs ws → RepKV K ca ρ n H (mergeD kvs more) (mergeK ws mws)
  | [], mws, kvs, ws, r, q => by simp only [RepKV] at r; subst r; exact q
  | p :: more, mws, kvs, ws, r, q => by
    simp only [RepKV] at r
    obtain ⟨v, r', rfl, r1, r2⟩ := r
    show RepKV K ca ρ n H (mergeD (putD kvs p.1 p.2) more) (mergeK (putK ws p.1 v) r')
    exact repKV_merge more r2 (RepKV.put r1 q)
def kDisp (n : Nat) (ps : List (D × D)) (st : Sto) : R D := match pairsK ps, st[n]? with
  | some kvs, some (.dic []) => if kvs.length ≤ 15 then .ok (.obj n) (st.set n (.dic (mergeD [] kvs))) else .bad
  | _, _ => .bad
def fDisp (q : FP) : FE := fun τ st => (q τ (st ++ [.dic []])).bind (kDisp st.length)
theorem je_disp {ks : List (Option Expr)} {vs : List Expr} {q : FP} (h : JP X ca W pos ks vs q) (hall : ks.all (·.isSome) = true := by rfl) (hl : ks.length = vs.length := by rfl) (h0 : ks ≠ [] := by exact fun z => by cases z) (h15 : ks.length ≤ 15 := by decide) :
    JE X ca W (.Dict ks vs pos) (fDisp q) := by
  obtain ⟨trs, h1, h2⟩ := h
  refine pe_imp (pe_disp h1 hall hl h0 h15) fun σ H Q ⟨ρ, st, τ, sl, s, h⟩ p hp => h2 _ _ _ ?_
  have x0 := ext_more (o := .dK []) s hp (MO.dic [])
  have s0 := s.more hp (kept_new (o := .dK []) hp) (m := .dic []) ⟨[], upd_same, by simp only [RepKV]⟩
  refine at_of (sl.ext x0) s0 (f := q) (Post.pre x0 h) fun ps ρ2 st2 H2 x2 sl2 s2 h3 ws rs => ?_
  unfold kDisp at h3
  cases e1 : pairsK ps with
  | none => rw [e1] at h3; exact h3.elim
  | some kvs =>
    cases e2 : st2[st.length]? with
    | none => rw [e1, e2] at h3; exact h3.elim
    | some m =>
      rw [e1, e2] at h3
      cases m with
      | dic es =>
        cases es with
        | cons a b => exact h3.elim
        | nil =>
          simp only at h3
          by_cases hk : kvs.length ≤ 15
          · rw [if_pos hk] at h3
            obtain ⟨us, e3, rk⟩ := pairsK_rep e1 rs
            obtain ⟨w0, ha, r0⟩ := s2.at_ _ _ e2
            have w0e : w0 = [] := by simpa only [RepKV] using r0
            have hρ : ρ2 st.length = p := by
              rw [x2.same st.length (by rw [List.length_append, List.length_singleton]; exact Nat.lt_succ_self _)]
              exact more_same
            rw [hρ, w0e] at ha
            have hlen : us.length = kvs.length := by
              have : ∀ {a : List (Key × D)} {b : List (Key × V)}, RepKV X.K ca ρ2 st2.length H2 a b → b.length = a.length := by
                intro a
                induction a with
                | nil => intro b r; simp only [RepKV] at r; subst r; rfl
                | cons c a ih =>
                  intro b r
                  simp only [RepKV] at r
                  obtain ⟨v, t, rfl, _, r2⟩ := r
                  rw [List.length_cons, List.length_cons, ih r2]
              exact this rk
            refine ⟨ha, us, e3, by rw [hlen]; exact hk, ?_⟩
            have xw : Ext ρ2 st2.length H2 ρ2 st2.length (upd H2 p (.dK (mergeK [] us))) := by rw [← hρ]; exact Ext.write s2 e2 rfl
            have s3 : SRep X.K ca ρ2 (upd H2 p (.dK (mergeK [] us))) (st2.set st.length (.dic (mergeD [] kvs))) := by
              have := s2.write (o := .dK (mergeK [] us)) (m := .dic (mergeD [] kvs)) e2 rfl ⟨_, upd_same, by
                have := repKV_merge _ (rk.ext (Ext.write (o := .dK (mergeK [] us)) s2 e2 rfl)) (show RepKV X.K ca ρ2 st2.length _ ([] : List (Key × D)) [] by simp only [RepKV])
                exact this⟩
              rw [hρ] at this
              exact this
            refine h3 _ ρ2 (by rw [List.length_set]; exact xw) s3 _ ?_
            simp only [Rep]
            rw [List.length_set]
            exact ⟨(List.getElem?_eq_some_iff.mp e2).1, by rw [hρ]⟩
          · rw [if_neg hk] at h3; exact h3.elim
      | _ => exact h3.elim
end
end DL
set_option Elab.async false
set_option linter.all false
set_option maxRecDepth 100000
set_option maxHeartbeats 4000000
namespace DL
open PySem PySem.Spec PyProof.Rows L2 DL.Ex
/-! evaluation of DL18, DL19; instances; dicts -/
@[simp] theorem fSortK_eq (f : FE) (τ : Ti) (st : Sto) : fSortK f τ st = (f τ st).bind kSortK := rfl
theorem kSortK_lv {ds : List D} (h : ∀ d, d ∈ ds → (key0 d).isSome = true) (hl : ds.length ≤ sizeLine) (st : Sto) : kSortK (.lv ds) st = .ok (.lv (ds.mergeSort leK)) st :=
  if_pos ⟨List.all_eq_true.mpr h, hl⟩
@[simp] theorem fDget_eq (f k g : FE) (τ : Ti) (st : Sto) : fDget f k g τ st = (f τ st).bind (kGet1 k g τ) := rfl
@[simp] theorem kGet2_eq (g : FE) (τ : Ti) (d k : D) (st : Sto) : kGet2 g τ d k st = (g τ st).bind (kGet3 d k) := rfl
theorem kGet1_eq {st : Sto} {d : D} (h : isDk st d = true) (k g : FE) (τ : Ti) : kGet1 k g τ d st = (k τ st).bind (kGet2 g τ d) := if_pos h
theorem kGet3_eq {st : Sto} {d k : D} {w : Option D} (h : dictLook st d k = some w) (z : D) : kGet3 d k z st = .ok (w.getD z) st := by unfold kGet3; rw [h]
@[simp] theorem fRev_eq (f : FE) (τ : Ti) (st : Sto) : fRev f τ st = (f τ st).bind kRev := rfl
@[simp] theorem kRev_lv (ds : List D) (st : Sto) : kRev (.lv ds) st = .ok (.lv ds.reverse) st := rfl
@[simp] theorem fDisp_eq (q : FP) (τ : Ti) (st : Sto) : fDisp q τ st = (q τ (st ++ [.dic []])).bind (kDisp st.length) := rfl
@[simp] theorem pNil_eq (τ : Ti) (st : Sto) : pNil τ st = .ok [] st := rfl
@[simp] theorem pCons_eq (f g : FE) (q : FP) (τ : Ti) (st : Sto) : pCons f g q τ st = (f τ st).bind (kPair1 g q τ) := rfl
@[simp] theorem kPair1_eq (g : FE) (q : FP) (τ : Ti) (d : D) (st : Sto) : kPair1 g q τ d st = (g τ st).bind (kPair2 q τ d) := rfl
@[simp] theorem kPair2_eq (q : FP) (τ : Ti) (d e : D) (st : Sto) : kPair2 q τ d e st = (q τ st).bind (kPair3 d e) := rfl
@[simp] theorem kPair3_eq (d e : D) (ps : List (D × D)) (st : Sto) : kPair3 d e ps st = .ok ((d, e) :: ps) st := rfl
theorem kDisp_eq {ps : List (D × D)} {kvs : List (Key × D)} (h : pairsK ps = some kvs) (hl : kvs.length ≤ 15) (st : Sto) : kDisp st.length ps (st ++ [.dic []]) = .ok (.obj st.length) (st ++ [.dic (mergeD [] kvs)]) := by
  unfold kDisp
  rw [h, get_last]
  simp only [set_last]
  exact if_pos hl
@[simp] theorem oSum_lv (ns : List Int) (st : Sto) : oSum [.lv (ns.map D.int)] st = .ok (.int ns.sum) st := by
  have : ∀ ns : List Int, intsD (ns.map D.int) = some ns := fun ns => by
    induction ns with
    | nil => rfl
    | cons i r ih => rw [List.map_cons, intsD, ih]; rfl
  have e : (listOf st (.lv (ns.map D.int))).bind intsD = some ns := this ns
  simp only [oSum, e]
theorem strsD_map (ns : List Str) : strsD (ns.map D.str) = some ns := by
  induction ns with
  | nil => rfl
  | cons i r ih => rw [List.map_cons, strsD, ih]; rfl
theorem oSortS_of {st : Sto} {d : D} {ns : List Str} (h : listOf st d = some (ns.map D.str)) (hl : ns.length ≤ sizeLine) : oSortS [d] st = .ok (.lv ((ns.mergeSort leS).map D.str)) st := by
  have e : (listOf st d).bind strsD = some ns := by rw [h]; exact strsD_map ns
  simp only [oSortS, e]
  exact if_pos hl
theorem listOf_obj {st : Sto} {k : Nat} {xs : List D} (h : st[k]? = some (.lst xs)) : listOf st (.obj k) = some xs := by simp only [listOf, h]
theorem oDictOf_dic {st : Sto} {k : Nat} {kvs : List (Key × D)} (h : st[k]? = some (.dic kvs)) : oDictOf [.obj k] st = .ok (.obj st.length) (st ++ [.dic kvs]) := by
  have e : dicOf st (.obj k) = some kvs := by simp only [dicOf, h]
  simp only [oDictOf, e]
/-! ### a dict of the store -/
section
variable {st : Sto} {k : Nat} {kvs : List (Key × D)}
theorem look_dic (h : st[k]? = some (.dic kvs)) (x : Str) : dictLook st (.obj k) (.str x) = some (valD kvs (.inr x)) := by simp only [dictLook, h, keyOf, Option.map_some]
theorem look_lck (h : st[k]? = some (.lck kvs)) (x : Str) : dictLook st (.obj k) (.str x) = some (valD kvs (.inr x)) := by simp only [dictLook, h, keyOf, Option.map_some]
theorem isDk_of {d : D} {w : Option D} (h : dictLook st d (.str "") = some w) : isDk st d = true := by unfold isDk; rw [h]; rfl
theorem inN_str {d : D} {x : Str} {w : Option D} (h : dictLook st d (.str x) = some w) : opInN (.str x) d st = .ok (.bl w.isSome) st := by unfold opInN; simp only [h]
theorem notInN_str {d : D} {x : Str} {w : Option D} (h : dictLook st d (.str x) = some w) : opNotInN (.str x) d st = .ok (.bl (!w.isSome)) st := by unfold opNotInN; simp only [h]
theorem inN_non {d : D} {w : Option D} (h : dictLook st d (.str "") = some w) : opInN .non d st = .ok (.bl false) st := by
  show (if isDK1 st d = true then R.ok (D.bl false) st else R.bad) = _
  rw [if_pos (by unfold isDK1; rw [h]; rfl)]
theorem notInN_non {d : D} {w : Option D} (h : dictLook st d (.str "") = some w) : opNotInN .non d st = .ok (.bl true) st := by
  show (if isDK1 st d = true then R.ok (D.bl true) st else R.bad) = _
  rw [if_pos (by unfold isDK1; rw [h]; rfl)]
theorem opIx_dict {x : Str} {w : Option D} (ho : (∃ kvs, st[k]? = some (.dic kvs)) ∨ ∃ kvs, st[k]? = some (.lck kvs)) (h : dictLook st (.obj k) (.str x) = some w) : opIx (.obj k) (.str x) st = ofO w st := by
  have e : seqOf st (.obj k) = none := by
    rcases ho with ⟨q, h⟩ | ⟨q, h⟩ <;> simp only [seqOf, listOf, h]
  unfold opIx
  simp only [e, h]
theorem opNotIn_dict' {x : Str} {w : Option D} (h : dictLook st (.obj k) (.str x) = some w) : opNotIn (.str x) (.obj k) st = .ok (.bl (!w.isSome)) st := opNotIn_dict _ _ _ _ h
theorem opIn_dict' {x : Str} {w : Option D} (h : dictLook st (.obj k) (.str x) = some w) : opIn (.str x) (.obj k) st = .ok (.bl w.isSome) st := opIn_dict _ _ _ _ h
theorem putItem_dic (h : st[k]? = some (.dic kvs)) (hl : kvs.length < sizeLine) (x : Str) (d : D) : putItem (.obj k) (.str x) d st = .ok () (st.set k (.dic (putD kvs (.inr x) d))) := by
  simp only [putItem, h, keyOf, hl, if_true]
theorem oLen_dic (h : st[k]? = some (.dic kvs)) : oLen [.obj k] st = .ok (.int (kvs.length : Nat)) st := by simp only [oLen, lenD, h]
end
/-- a walk over a dict -/
theorem sForV_dic {f : FE} {g : FG} {u : FS} {τ : Ti} {st : Sto} {k : Nat} {kvs : List (Key × D)} (h1 : f τ st = .ok (.obj k) st) (h2 : st[k]? = some (.dic kvs)) (h3 : f τ (st.set k (.lck kvs)) = .ok (.obj k) (st.set k (.lck kvs))) :
    sForV f g u τ st = opened k kvs (forD g u (kvs.map fun p => kD p.1) τ (st.set k (.lck kvs))) := by
  have hk := (List.getElem?_eq_some_iff.mp h2).1
  have d : isDic f τ st = true := by unfold isDic; rw [h1]; simp only [h2]
  unfold sForV
  rw [if_pos d]
  unfold withLock
  rw [h1]
  simp only [h2]
  congr 1
  rw [sFor_eq]
  have : iLck (fun kvs => kvs.map fun p => kD p.1) f τ (st.set k (.lck kvs)) = .ok (.imm (kvs.map fun p => kD p.1)) (st.set k (.lck kvs)) := by
    unfold iLck
    rw [h3, bind_ok]
    have : lckOf (st.set k (.lck kvs)) (.obj k) = some kvs := by simp only [lckOf, List.getElem?_set_self hk]
    rw [this]
  rw [this, bind_ok, kFor_imm]
@[simp] theorem opened_ok {α : Type} (k : Nat) (kvs : List (Key × D)) (o : α) (st : Sto) : opened k kvs (.ok o st) = .ok o (st.set k (.dic kvs)) := rfl
/-! ### instances -/
section
variable {st : Sto} {k : Nat} {c : Str} {fs : List (Str × D)}
theorem insOf_at (h : st[k]? = some (.ins c fs)) : insOf st c (.obj k) = some fs := by simp only [insOf, h, if_true]
theorem kFld_at {y : Str} {d : D} (h : st[k]? = some (.ins c fs)) (e : fs.lookup y = some d) : kFld c y (.obj k) st = .ok d st := by
  unfold kFld; rw [insOf_at h]; simp only [e, ofO_some]
theorem kMeth1_at {m : Str} {n : Nat} {r : Fn} {g : FA} {τ : Ti} (h : st[k]? = some (.ins c fs)) (e : fs.lookup m = none) : kMeth1 c m n r g τ (.obj k) st = (g τ st).bind (kMeth n r τ (.obj k)) := by
  unfold kMeth1; rw [insOf_at h]; simp only [e, if_true]
theorem putAttr_at {y : Str} {d : D} (h : st[k]? = some (.ins c fs)) (hl : fs.length < 900) : putAttr c y (.obj k) d st = .ok () (st.set k (.ins c (putFD y d fs))) := by
  simp only [putAttr, h]
  exact if_pos ⟨trivial, by omega⟩
end
@[simp] theorem kMeth_1 (r : Fn) (τ : Ti) (d : D) (st : Sto) : kMeth 1 r τ d [] st = exAt τ (r [d] st) := rfl
@[simp] theorem kMeth_2 (r : Fn) (τ : Ti) (d e : D) (st : Sto) : kMeth 2 r τ d [e] st = exAt τ (r [d, e] st) := rfl
@[simp] theorem kMeth_3 (r : Fn) (τ : Ti) (d e g : D) (st : Sto) : kMeth 3 r τ d [e, g] st = exAt τ (r [d, e, g] st) := rfl
def kMade (n : Nat) (d : D) (st : Sto) : R D := match d with
  | .non => .ok (.obj n) st
  | _ => .bad
@[simp] theorem kMade_non (n : Nat) (st : Sto) : kMade n .non st = .ok (.obj n) st := rfl
def kMake (c : Str) (n : Nat) (r : Fn) (τ : Ti) (ds : List D) (st : Sto) : R D := if ds.length + 1 = n then (exAt τ (r (.obj st.length :: ds) (st ++ [.ins c []]))).bind (kMade st.length) else .bad
@[simp] theorem fMakeN_eq (c : Str) (n : Nat) (r : Fn) (h : FA) (τ : Ti) (st : Sto) : fMakeN c n r h τ st = (h τ st).bind (kMake c n r τ) := by
  unfold fMakeN; congr 1
@[simp] theorem kMake_1 (c : Str) (r : Fn) (τ : Ti) (st : Sto) : kMake c 1 r τ [] st = (exAt τ (r [.obj st.length] (st ++ [.ins c []]))).bind (kMade st.length) := rfl
@[simp] theorem kMake_2 (c : Str) (r : Fn) (τ : Ti) (a : D) (st : Sto) : kMake c 2 r τ [a] st = (exAt τ (r [.obj st.length, a] (st ++ [.ins c []]))).bind (kMade st.length) := rfl
@[simp] theorem kMake_3 (c : Str) (r : Fn) (τ : Ti) (a b : D) (st : Sto) : kMake c 3 r τ [a, b] st = (exAt τ (r [.obj st.length, a, b] (st ++ [.ins c []]))).bind (kMade st.length) := rfl
/-! ### the rest -/
@[simp] theorem opIs_non (d : D) (st : Sto) : opIs d .non st = .ok (.bl (isNonD d)) st := rfl
@[simp] theorem opIsNot_non (d : D) (st : Sto) : opIsNot d .non st = .ok (.bl (!isNonD d)) st := rfl
@[simp] theorem isNonD_non : isNonD .non = true := rfl
@[simp] theorem isNonD_str (x : Str) : isNonD (.str x) = false := rfl
@[simp] theorem isNonD_tup (ds : List D) : isNonD (.tup ds) = false := rfl
@[simp] theorem isNonD_obj (i : Nat) : isNonD (.obj i) = false := rfl
def kAug (i : Nat) (op : Int → Int → Int) (x : Int) (τ : Ti) (d : D) (st : Sto) : R Out := match d with
  | .int y => .ok (.nx (τ.set i (some (.int (op x y))))) st
  | _ => .bad
theorem opAddA_str {x y : Str} (h : x.length + y.length ≤ sizeLine) (st : Sto) : opAddA (.str x) (.str y) st = .ok (.str (x ++ y)) st := by
  have e : opAddA (.str x) (.str y) st = opAdd (.str x) (.str y) st := rfl
  rw [e]; exact if_pos h
theorem oAppend_at {st : Sto} {k : Nat} {xs : List D} (h : st[k]? = some (.lst xs)) (hl : xs.length < sizeLine) (d : D) : oAppend (.obj k) [d] st = .ok .non (st.set k (.lst (xs ++ [d]))) := by
  simp only [oAppend, h, hl, if_true]
/-- a comprehension, item by item, where nothing changes: over the images of a list -/
theorem lcD_on {α : Type} {g : FG} {t : FB} {e : FE} {τ : Ti} {st : Sto} (inp out : α → D) (xs : List α) (h : ∀ x, x ∈ xs → lcOne g t e τ (inp x) st = .ok (some (out x)) st) (hl : xs.length ≤ 16777216) :
    lcD g t e τ finLv (xs.map inp) [] st = .ok (.lv (xs.map out)) st := by
  have := lcD_list (g := g) (t := t) (e := e) (τ := τ) (fin := finLv) (st := st) (ps := xs.map fun x => (inp x, out x)) (acc := []) (fun p hp => by
    obtain ⟨x, hx, rfl⟩ := List.mem_map.mp hp
    exact h x hx) (by rw [sizeLine_eq, List.length_map, List.length_nil]; omega)
  rw [List.map_map, List.map_map, List.nil_append] at this
  exact this
/-- a comprehension whose items change the store: P tells what stands behind so many items -/
theorem lcD_run {α β : Type} {g : FG} {t : FB} {e : FE} {τ : Ti} {fin : List D → Sto → R β} (inp out : α → D) (S : List α → Sto) : ∀ (xs done : List α) (acc : List D),
    (∀ (ys : List α) (x : α) (zs : List α), done ++ xs = ys ++ x :: zs → done.length ≤ ys.length → lcOne g t e τ (inp x) (S ys) = .ok (some (out x)) (S (ys ++ [x]))) → acc.length + xs.length ≤ sizeLine →
    lcD g t e τ fin (xs.map inp) acc (S done) = fin (acc ++ xs.map out) (S (done ++ xs))
  | [], done, acc, _, _ => by rw [List.map_nil, lcD_nil]; simp
  | x :: xs, done, acc, h, hl => by
    simp only [List.length_cons] at hl
    rw [List.map_cons, lcD_cons, h done x xs rfl (Nat.le_refl _), bind_ok]
    show (if acc.length < sizeLine then lcD g t e τ fin (xs.map inp) (acc ++ [out x]) (S (done ++ [x])) else .bad) = _
    rw [if_pos (by omega), lcD_run inp out S xs (done ++ [x]) (acc ++ [out x]) (fun ys y zs e hy => h ys y zs (by rw [← e]; simp) (by rw [List.length_append, List.length_singleton] at hy; omega)) (by simp; omega)]
    simp
end DL
namespace DL
open PySem PySem.Spec PyProof.Rows L2 DL.Ex
/-- a comprehension whose items change the store: P tells what stands -/
theorem lcD_inv {β : Type} {g : FG} {t : FB} {e : FE} {τ : Ti} {fin : List D → Sto → R β} {P : List D → Sto → Prop} : ∀ (ds acc : List D) (st : Sto), P acc st → acc.length + ds.length ≤ 16777216 →
    (∀ d, d ∈ ds → ∀ acc st, P acc st → ∃ y st1, lcOne g t e τ d st = .ok (some y) st1 ∧ P (acc ++ [y]) st1) → ∃ acc' st', lcD g t e τ fin ds acc st = fin acc' st' ∧ P acc' st' ∧ acc'.length = acc.length + ds.length
  | [], acc, st, h, _, _ => ⟨acc, st, rfl, h, rfl⟩
  | d :: ds, acc, st, h, hl, step => by
    simp only [List.length_cons] at hl
    obtain ⟨y, st1, h1, h2⟩ := step d List.mem_cons_self acc st h
    obtain ⟨acc', st', h3, h4, h5⟩ := lcD_inv (fin := fin) ds (acc ++ [y]) st1 h2 (by rw [List.length_append, List.length_singleton]; omega) fun x hx => step x (List.mem_cons_of_mem _ hx)
    refine ⟨acc', st', ?_, h4, by rw [h5, List.length_append, List.length_singleton, List.length_cons]; omega⟩
    rw [lcD_cons, h1, bind_ok]
    show (if acc.length < sizeLine then lcD g t e τ fin ds (acc ++ [y]) st1 else .bad) = _
    rw [if_pos (by rw [sizeLine_eq]; omega), h3]
/-- what a draw leaves: the box is another one, objects may have come -/
structure Kp (b : Nat) (st st' : Sto) : Prop where
  box : Box st' b
  le : st.length ≤ st'.length
  at_ : ∀ i, i < st.length → i ≠ b → st'[i]? = st[i]?
theorem Kp.refl {b : Nat} {st : Sto} (B : Box st b) : Kp b st st := ⟨B, Nat.le_refl _, fun _ _ _ => rfl⟩
theorem Kp.trans {b : Nat} {s1 s2 s3 : Sto} (a : Kp b s1 s2) (c : Kp b s2 s3) : Kp b s1 s3 := ⟨c.box, Nat.le_trans a.le c.le, fun i h n => (c.at_ i (Nat.lt_of_lt_of_le h a.le) n).trans (a.at_ i h n)⟩
theorem Box.lt {st : Sto} {b : Nat} (B : Box st b) : b < st.length := by
  obtain ⟨g, a, ns, _, h, _⟩ := B.ex
  exact (List.getElem?_eq_some_iff.mp h).1
theorem Box.app {st : Sto} {b : Nat} (B : Box st b) (ms : Sto) : Box (st ++ ms) b := by
  obtain ⟨g, a, ns, ne, h1, h2⟩ := B.ex
  exact ⟨g, a, ns, ne, by rw [List.getElem?_append_left (List.getElem?_eq_some_iff.mp h1).1]; exact h1, by rw [List.getElem?_append_left (List.getElem?_eq_some_iff.mp h2).1]; exact h2⟩
theorem Kp.app {st : Sto} {b : Nat} (B : Box st b) (ms : Sto) : Kp b st (st ++ ms) := ⟨B.app ms, by simp, fun i h _ => List.getElem?_append_left h⟩
/-- an object behind is another one -/
theorem Box.set {st : Sto} {b i : Nat} {m : MO} (B : Box st b) (h : i ≠ b) (hm : ∀ ns : List D, st[i]? ≠ some (.lst ns)) : Box (st.set i m) b := by
  obtain ⟨g, a, ns, ne, h1, h2⟩ := B.ex
  have hg : i ≠ g := fun z => hm _ (z ▸ h2)
  exact ⟨g, a, ns, ne, by rw [List.getElem?_set_ne h]; exact h1, by rw [List.getElem?_set_ne hg]; exact h2⟩
theorem at_lt {st : Sto} {i : Nat} {m : MO} (h : st[i]? = some m) : i < st.length := (List.getElem?_eq_some_iff.mp h).1
/-- equal data are told equal -/
theorem eqDeep_same {st : Sto} {d : D} {p : PyData} (e : toPyS st d = some p) (hc : p.canLay0 = true) (hd : p.depth ≤ 64) : eqDeep st d d = some true := by
  have sh : SeqAt.shaped p = true := by unfold SeqAt.shaped; rw [hc, decide_eq_true hd]; rfl
  unfold eqDeep
  rw [e]
  simp only
  rw [if_pos ⟨sh, sh⟩, PySem.SeqAt.eqv_refl p hc]
theorem opNe_same {st : Sto} {d : D} {p : PyData} (e : toPyS st d = some p) (hs : eqS d d = none) (hc : p.canLay0 = true) (hd : p.depth ≤ 64) : opNe d d st = .ok (.bl false) st := by
  unfold opNe eqD
  rw [hs]
  simp only [eqDeep_same e hc hd]
  rfl
theorem opEq_same {st : Sto} {d : D} {p : PyData} (e : toPyS st d = some p) (hs : eqS d d = none) (hc : p.canLay0 = true) (hd : p.depth ≤ 64) : opEq d d st = .ok (.bl true) st := by
  unfold opEq eqD
  rw [hs]
  simp only [eqDeep_same e hc hd]
  rfl
end DL
namespace DL
open PySem PySem.Spec PyProof.Rows L2 DL.Ex
theorem pickI {ds : List D} {r : Int} (h0 : 0 ≤ r) (h1 : r < (ds.length : Nat)) (st : Sto) : ∃ d, d ∈ ds ∧ opIx (.lv ds) (.int r) st = .ok d st := by
  obtain ⟨i, rfl⟩ := Int.eq_ofNat_of_zero_le h0
  have hi : i < ds.length := by omega
  refine ⟨ds[i], List.getElem_mem hi, ?_⟩
  rw [opIx_lv, DL.atI_nat, List.getElem?_eq_getElem hi]; rfl
theorem oLen_lv (ds : List D) (st : Sto) : oLen [.lv ds] st = .ok (.int (ds.length : Nat)) st := rfl
/-- one more entry of a row of pairs, or another one in its place -/
def putP {α : Type} (l : List (Str × α)) (x : Str) (a : α) : List (Str × α) := if (l.any fun p => decide (p.1 = x)) = true then l.map (fun p => if p.1 = x then (p.1, a) else p) else l ++ [(x, a)]
theorem putD_map {α : Type} (f : α → D) (l : List (Str × α)) (x : Str) (a : α) :
    putD (l.map fun p => ((Sum.inr p.1 : Key), f p.2)) (.inr x) (f a) = (putP l x a).map (fun p => ((Sum.inr p.1 : Key), f p.2)) := by
  have dk : ∀ y : Str, decide ((Sum.inr y : Key) = .inr x) = decide (y = x) := fun y => by
    by_cases h : y = x
    · rw [h]; simp
    · rw [decide_eq_false h, decide_eq_false fun z => h (Sum.inr.inj z)]
  have e : ((l.map fun p => ((Sum.inr p.1 : Key), f p.2)).any fun kv => decide (kv.1 = (Sum.inr x : Key))) = l.any fun p => decide (p.1 = x) := by
    rw [List.any_map]
    congr 1
    funext p
    exact dk p.1
  unfold putD putP
  rw [e]
  split
  · rw [List.map_map, List.map_map]
    refine List.map_congr_left fun p _ => ?_
    simp only [Function.comp_apply]
    by_cases h : p.1 = x
    · rw [if_pos h, if_pos (by rw [h])]
    · rw [if_neg h, if_neg fun z => h (Sum.inr.inj z)]
  · rw [List.map_append]; rfl
theorem putP_len {α : Type} (l : List (Str × α)) (x : Str) (a : α) : (putP l x a).length ≤ l.length + 1 := by
  unfold putP
  split
  · rw [List.length_map]; omega
  · rw [List.length_append, List.length_singleton]; omega
theorem putP_mem {α : Type} {l : List (Str × α)} {x : Str} {a : α} {p : Str × α} (h : p ∈ putP l x a) : p = (x, a) ∨ p ∈ l := by
  unfold putP at h
  split at h
  · obtain ⟨q, hq, rfl⟩ := List.mem_map.mp h
    by_cases z : q.1 = x
    · rw [if_pos z]; exact .inl (by rw [z])
    · rw [if_neg z]; exact .inr hq
  · rcases List.mem_append.mp h with h | h
    · exact .inr h
    · exact .inl (List.mem_singleton.mp h)
def lookP {α : Type} (l : List (Str × α)) (x : Str) : Option α := (l.find? fun p => decide (p.1 = x)).map (·.2)
theorem lookP_put {α : Type} (l : List (Str × α)) (x : Str) (a : α) (y : Str) : lookP (putP l x a) y = if y = x then some a else lookP l y := by
  unfold putP
  by_cases h : (l.any fun p => decide (p.1 = x)) = true
  · rw [if_pos h]
    have key : ∀ l : List (Str × α), ((l.any fun p => decide (p.1 = x)) = true ∨ y ≠ x) → lookP (l.map fun p => if p.1 = x then (p.1, a) else p) y = if y = x then some a else lookP l y := fun l => by
      induction l with
      | nil =>
        intro h
        rcases h with h | h
        · simp at h
        · rw [if_neg h]; rfl
      | cons p r ih =>
        intro h
        unfold lookP at ih ⊢
        rw [List.map_cons, List.find?_cons, List.find?_cons]
        by_cases q : p.1 = x
        · rw [if_pos q]
          by_cases z : y = x
          · rw [if_pos z]; simp [q, z]
          · have z2 : ¬ p.1 = y := fun w => z (by rw [← w, q])
            rw [if_neg z]
            simp only [decide_eq_false z2]
            have := ih (.inr z)
            rw [if_neg z] at this
            exact this
        · rw [if_neg q]
          by_cases z : p.1 = y
          · have : y ≠ x := fun w => q (z.trans w)
            rw [if_neg this]
            simp [z]
          · simp only [decide_eq_false z]
            refine ih ?_
            rcases h with h | h
            · rw [List.any_cons, decide_eq_false q, Bool.false_or] at h
              exact .inl h
            · exact .inr h
    exact key l (.inl h)
  · rw [if_neg h]
    unfold lookP
    rw [List.find?_append]
    by_cases z : y = x
    · subst z
      have : l.find? (fun p => decide (p.1 = y)) = none := List.find?_eq_none.mpr fun p hp q => h (List.any_eq_true.mpr ⟨p, hp, q⟩)
      rw [this, if_pos rfl]; simp
    · rw [if_neg z]
      have z2 : ¬ x = y := fun w => z w.symm
      cases q : l.find? (fun p => decide (p.1 = y)) with
      | none => simp [z2]
      | some p => simp
theorem lookP_mem {α : Type} {l : List (Str × α)} {x : Str} {a : α} (h : lookP l x = some a) : (x, a) ∈ l := by
  unfold lookP at h
  obtain ⟨p, hp, rfl⟩ := Option.map_eq_some_iff.mp h
  have := List.find?_some hp
  have e : p.1 = x := of_decide_eq_true this
  rw [← e]
  exact List.mem_of_find?_eq_some hp
theorem lookP_isSome {α : Type} {l : List (Str × α)} {x : Str} : (lookP l x).isSome = true ↔ x ∈ l.map (·.1) := by
  unfold lookP
  rw [Option.isSome_map, List.find?_isSome]
  simp
end DL
namespace DL
theorem set_same {st : Sto} {i : Nat} {m : MO} (h : st[i]? = some m) : st.set i m = st := by
  refine List.ext_getElem? fun j => ?_
  by_cases e : i = j
  · subst e; rw [List.getElem?_set_self (at_lt h), h]
  · rw [List.getElem?_set_ne e]
end DL
set_option Elab.async false
set_option linter.all false
set_option maxRecDepth 100000
set_option maxHeartbeats 4000000
namespace DL
open PySem PySem.Spec PyProof.Rows L2 LamX
/-! an __init__ of an own exception that begins with super().__init__(e) -/
/-- its scope: the parameters, __class__, super -/
structure IniS (ps : List Str) (sc : Scope) : Prop where
  kind : sc.kind = .function
  co : sc.isCoroutine = false
  gen : sc.isGenerator = false
  nd : ps.Nodup
  par : ∀ x ∈ ps, sc.names.lookup x = some .local
  nocell : ∀ y ∈ sc.names, y.2 ≠ .cell
  free : ∀ y ∈ sc.names, y.2 = .free → y.1 = "__class__"
  hkc : sc.names.lookup ("__class__" : Str) = some .free
  hks : sc.names.lookup ("super" : Str) = some .globalImplicit
  nocl : ("__class__" : Str) ∉ ps
abbrev iniEnv (qual : Str) (sc : Scope) (L f : Addr) (cdv : Value) (cc : Addr) : Env := PySem.W.envX qual sc L f cdv [("__class__", cc)]
def iniCx (CX : CXT) (P : Program) (w : World) (K : PySem.W.Frag) (mg : Str → Option Value) (base : Heap) (N : List Str) (qual : Str) (sc : Scope) (f : Addr) (cdv : Value) (cc : Addr) (A : Around) (outer : List Env) (s : Shared) (H : Hp) (E : XK) : Cx where
  prog := P
  w := w
  K := K
  mg := mg
  base := base
  A := A.deeper (iniEnv qual sc s.heap.objs.size f cdv cc)
  N := N
  s_0 := s
  H_0 := H
  env := iniEnv qual sc s.heap.objs.size f cdv cc
  outer := outer
  stack := iniEnv qual sc s.heap.objs.size f cdv cc :: outer
  ex := []
  fn := fun x => !(x == ("__class__" : Str))
  calm := true
  pn := []
  xe := fun e s' => wpAny (model P w) (A.deeper (iniEnv qual sc s.heap.objs.size f cdv cc)) (leaving (iniEnv qual sc s.heap.objs.size f cdv cc) e) (fun _ s'' => CX outer H s E e s'') (fun e' s'' => CX outer H s E e' s'') s'
theorem zip_lookup : ∀ {ps : List Str} {us : List Value} {i : Nat} {x : Str} {u : Value}, ps.Nodup → ps[i]? = some x → us[i]? = some u → (ps.zip us).reverse.lookup x = some u := by
  have key : ∀ {ps : List Str} {us : List Value} {i : Nat} {x : Str} {u : Value} {acc : List (Str × Value)}, ps.Nodup → ps[i]? = some x → us[i]? = some u → ((ps.zip us).reverse ++ acc).lookup x = some u := by
    intro ps
    induction ps with
    | nil => intro us i x u acc _ h; simp at h
    | cons p ps ih =>
      intro us i x u acc nd h1 h2
      cases us with
      | nil => simp at h2
      | cons v us =>
        rw [List.zip_cons_cons, List.reverse_cons, List.append_assoc]
        cases i with
        | zero =>
          simp only [List.getElem?_cons_zero, Option.some.injEq] at h1 h2
          subst h1
          subst h2
          have nm : ∀ l : List (Str × Value), (∀ q ∈ l, q.1 ≠ p) → (l ++ ([(p, v)] ++ acc)).lookup p = some v := by
            intro l
            induction l with
            | nil => intro _; simp [List.lookup_cons]
            | cons q l ihl =>
              intro h
              have e : (p == q.1) = false := beq_eq_false_iff_ne.mpr (Ne.symm (h q List.mem_cons_self))
              rw [List.cons_append, List.lookup_cons, e]
              exact ihl fun z hz => h z (List.mem_cons_of_mem _ hz)
          refine nm _ fun q hq => ?_
          have := (List.of_mem_zip (a := q.1) (b := q.2) (List.mem_reverse.mp hq)).1
          exact fun e => (List.nodup_cons.mp nd).1 (e ▸ this)
        | succ i =>
          simp only [List.getElem?_cons_succ] at h1 h2
          exact ih (List.nodup_cons.mp nd).2 h1 h2
  intro ps us i x u nd h1 h2
  have := key (acc := []) nd h1 h2
  rw [List.append_nil] at this
  exact this
section
variable {CX : CXT} {P : Program} {w : World} {K : PySem.W.Frag} {mg : Str → Option Value} {base : Heap} {ps : List Str} {qual : Str} {sc : Scope} {f : Addr} {cdv : Value} {cc : Addr} {A : Around} {outer : List Env} {s : Shared} {H : Hp} {E : XK}
theorem ini_inv {us : List Value} {vs : List V} {h1 : Heap} {tk : Nat} (S : IniS ps sc) (hd : A.handled = none) (e0 : Env0 P w K mg base A outer s H) (hl : vs.length = ps.length) (r : Vals vs us)
    (hcc : ∃ o v, base.get? cc = some o ∧ o.data = .cell v) (hns : h1.Ns s.heap.objs.size fun x => (ps.zip us).reverse.lookup x) (kp : ∀ b o, s.heap.get? b = some o → h1.get? b = some o) :
    Inv (iniCx CX P w K mg base ps qual sc f cdv cc A outer s H E) [] (L2.start ps vs) H { s with heap := h1, toks := tk } := by
  have noA : ∀ b : Addr, b ∉ (iniCx CX P w K mg base ps qual sc f cdv cc A outer s H E).ex := fun b z => absurd (show b ∈ ([] : List Addr) from z) (by simp)
  have one : ∀ {x : Str} {c : Addr}, ([("__class__", cc)] : List (Str × Addr)).lookup x = some c → x = "__class__" ∧ c = cc := fun {x c} h => by
    rw [List.lookup_cons] at h
    cases q : x == ("__class__" : Str) with
    | true => rw [q] at h; exact ⟨beq_iff_eq.mp q, (Option.some.inj h).symm⟩
    | false => rw [q] at h; cases h
  obtain ⟨oc, vc, bc, dc⟩ := hcc
  refine ⟨⟨e0.mod, S.kind, rfl, rfl, Nat.le_refl _, fun y z c h2 h3 => (one h2).1.trans (one h3).1.symm, fun y hy => ?_, fun y c h2 h3 => ?_, fun _ => hd, Around.frames_deeper e0.frames, .inr ⟨rfl, rfl⟩, fun b z => absurd z (noA b), e0.bs, e0.bsz, fun b _ _ => noA b, fun b z => absurd z (noA b), e0.funs, e0.frf⟩,
    rfl, e0.bare, Un.kept kp, ⟨_, hns, fun i y v h2 h3 h4 => ?_⟩, fun y c h => ?_, e0.hok.fresh (Nat.le_refl _), fun y c h => ?_, fun p hp => absurd (show p ∈ ([] : List (Addr × Obj)) from hp) (by simp), e0.hok.kept kp, ?_⟩
  · have hy : sc.names.lookup y = some .cell ∨ sc.names.lookup y = some .free := hy
    rcases hy with hy | hy
    · exact absurd rfl (S.nocell _ (PySem.mem_of_lookup hy))
    · have := S.free _ (PySem.mem_of_lookup hy) rfl
      exact ⟨cc, by show ([("__class__", cc)] : List (Str × Addr)).lookup y = some cc; rw [show y = "__class__" from this]; rfl⟩
  · obtain ⟨e1, _⟩ := one h3
    rw [e1] at h2
    exact absurd (show (!(("__class__" : Str) == "__class__")) = true from h2) (by decide)
  · have hi : i < vs.length := by
      have := (List.getElem?_eq_some_iff.mp h2).1
      rw [hl]; exact this
    have ha : vs[i]? = some v := by
      unfold L2.start at h3
      rw [List.getElem?_append_left (by simpa using hi), List.getElem?_map] at h3
      cases e : vs[i]? with
      | none => rw [e] at h3; cases h3
      | some a => rw [e] at h3; cases h3; rfl
    obtain ⟨u, hu, rv⟩ := r.get ha
    exact ⟨u, rv, .inl ⟨S.par y (List.mem_of_getElem? h2), zip_lookup S.nd h2 hu⟩⟩
  · obtain ⟨_, rfl⟩ := one h
    exact ⟨vc, oc, kp _ _ (e0.bs _ _ bc).1, dc⟩
  · obtain ⟨_, rfl⟩ := one h
    exact (e0.bs _ _ bc).2
  · show (vs.map some ++ List.replicate (ps.length - vs.length) none).length = ps.length
    simp [hl]
end
/-! ### the method-wrapper of ValueError.__init__ is called -/
section
variable {X : Cx} {pins : List (Addr × Obj)} {σ : L2.St} {H : Hp} {s : Shared} {A : Around} {E : Value → Shared → Prop}
theorem mw_call {a C u : Addr} {us : List Value} {Q : Value → Shared → Prop} (T : OexC X.K C) (I : Inv X pins σ H s) (e : H a = some (exo a C none)) (hu : s.heap.get? u = some (PySem.W.kxs_mw "ValueError.__init__" a)) (hl : us.length ≤ sizeLine)
    (h : ∀ s', Inv X pins σ H s' → Q .none s') : wpAny (model X.prog X.w) A (call (.ref u) us) Q E s := by
  obtain ⟨nm, q, N, bs, bm, sn, sub, ab, col, dd, k0, k1, k2, k3, k5, hC, hbm⟩ := T.cls
  obtain ⟨t1, ho⟩ := exo_at I.hok e
  obtain ⟨hp, g, d, t, os⟩ := s
  refine wpAny_call (codeAny_of_tree ?_)
  show wpAny _ A.in1 (callAny (.ref u) ⟨us, []⟩) _ _ _
  simp only [callAny]
  refine wpAny_bind (wpAny_load hu ?_)
  simp only [PySem.W.kxs_mw, show (Value.type "method-wrapper" == Value.type "method" || Value.type "method-wrapper" == Value.type "builtin_function_or_method" || Value.type "method-wrapper" == Value.type "method-wrapper") = true by decide, if_true]
  refine PySem.W.KFB.if_so (by decide) ?_
  refine wpAny_bind (PySem.ESX.check_bound F.excBase_ValueError (I.kIn _ _ hC) ho rfl ?_)
  refine wpAny_bind (wpAny_pure (wpAny_pure ?_))
  refine ⟨Code.quiet_builtin _ (by decide +kernel), codeAny_builtin F.excBase_ValueError.initEntry ?_⟩
  refine PySem.W.exc_init_tree (cls := .ref C) (t0 := t1) (dv := none) (c2 := .none) (c3 := .none) (b4 := .bool false) ho hl fun h' k hx _ => ?_
  have J := I.write (t' := t) (x := a) (e := a) (o := exo a C none) (by rw [e]; exact True.intro) (.inl rfl) k ⟨_, hx⟩ (exo_ok hx)
  have eu : upd H a (exo a C none) = H := by
    funext b
    by_cases hb : b = a
    · rw [hb, upd_same, e]
    · rw [upd_ne hb]
  rw [eu] at J
  exact h _ J
end
end DL
set_option Elab.async false
set_option linter.all false
set_option maxRecDepth 100000
set_option maxHeartbeats 4000000
namespace DL
open PySem PySem.Spec PyProof.Rows L2 LamX
/-- the def of an __init__ that says super() -/
structure SupF (P : Program) (K : PySem.W.Frag) (mg : Str → Option Value) (fI : Addr) (qual : Str) (params : Arguments) (body : List Stmt) (sc : Scope) (fd : FuncData) (cda cc D : Addr) : Prop where
  fdEq : ∃ (dV kV doc pm ct : Value) (an : Option Addr), fd = PySem.W.ksFn "__init__" qual params body sc dV kV doc pm an (.ref cda) ct cc
  lk : ∃ oc od osl, K.lookup fI = some ⟨oc, od, .func fd, osl⟩
  hcd : PySem.W.codeIn K (.ref cda) qual = true
  file : ∃ ccl cdd ccs vs file tf, K.lookup cda = some ⟨ccl, cdd, .fields vs, ccs⟩ ∧ vs[2]? = some (.str file tf) ∧ ((P.main.file : Str) == file) = true
  cell : ∃ cl cld csl, K.lookup cc = some ⟨cl, cld, .cell (some (.ref D)), csl⟩
  clsD : ∃ cdD, PySem.W.clsIn K D = some cdD
  sup : mg "super" = none
  top : (P.main.scope.names.lookup ("super" : Str)).isSome = false
  par : (params.posonlyargs ++ params.args).head?.map (·.arg) = some "self"
/-- .. of the class at C -/
structure SupC (K : PySem.W.Frag) (C D : Addr) : Prop where
  oex : OexC K C
  sub : PySem.W.mroIn K C (.ref D) = some true
  hm : PySem.W.ks_superIn K C D "__init__" = some (some (.builtin "ValueError.__init__"))
  hB : PySem.W.subIn K (.ref C) (.type "ValueError") = some true
  third : PySem.W.nsIn K cStatics "thirdparty.any" = some none
section
variable {CX : CXT} {P : Program} {w : World} {K : PySem.W.Frag} {mg : Str → Option Value} {base : Heap} {qual : Str} {params : Arguments} {sc : Scope} {f cda cc D C : Addr} {fd : FuncData} {k : Nat} {ps : List Str} {e : Expr} {rest : List Stmt} {p0 p1 p2 p3 p4 : Pos}
/-- super().__init__(e); rest -/
theorem fn_super (F : SupF P K mg f qual params (.Expr (.Call (.Attribute (.Call (.Name "super" p0) [] [] p1) "__init__" p2) [e] [] p3) p4 :: rest) sc fd cda cc D) (S : IniS ("self" :: ps) sc) (T : SupC K C D) {te : TE} {t : TS}
    (te_mono : ∀ {σ : L2.St} {H : Hp} {Q Q' : VK}, te σ H Q → (∀ y H1, Q y H1 → Q' y H1) → te σ H Q')
    (hbody : ∀ (A : Around) (outer : List Env) (s : Shared) (H : Hp) (E : XK), Room k (A.deeper (iniEnv qual sc s.heap.objs.size f (.ref cda) cc)) → PE (iniCx CX P w K mg base (("self" : Str) :: ps) qual sc f (.ref cda) cc A outer s H E) e te ∧ PSs (iniCx CX P w K mg base (("self" : Str) :: ps) qual sc f (.ref cda) cc A outer s H E) rest t)
    (he : ∀ env : Env, starEach [e] env = (false, eval e env) :: starEach [] env) (hpl : ∀ env : Env, (backTo p3 (starEach [] env)).any (·.1) = false) (hsw : ∀ env : Env, swapsWith (.Call (.Attribute (.Call (.Name "super" p0) [] [] p1) "__init__" p2) [e] [] p3) none p4.line env = pure false)
    {pl : Sem Bool}
    (hev : ∀ env : Env, eval (.Call (.Attribute (.Call (.Name "super" p0) [] [] p1) "__init__" p2) [e] [] p3) env = (do
      let ov ← attributeBase (.Call (.Name "super" p0) [] [] p1) "__init__" env (eval (.Call (.Name "super" p0) [] [] p1) env)
      standAt p2.atName
      let (f, first) ← holding [ov] (getMethod ov "__init__" pl)
      callWith p3 f first (backTo p3 (starEach [e] env)) [])) :
    FnOk P w K mg base CX (k + 1) f fd ("self" :: ps) (fun vs H Q _ => ∃ a ws, vs = V.ref a :: ws ∧ ws.length = ps.length ∧ H a = some (exo a C none) ∧
      te (L2.start ("self" :: ps) vs) H fun y H1 => H1 a = some (exo a C none) ∧ t { nx := fun _ H' => Q .non H', rt := Q } (L2.start ("self" :: ps) vs) H1) := by
  obtain ⟨dV, kV, doc, pm, ct, an, rfl⟩ := F.fdEq
  obtain ⟨oc, od, osl, lk⟩ := F.lk
  obtain ⟨ccl, cdd, ccs, cvs, file, tf, lcode, hvs, hfile⟩ := F.file
  obtain ⟨cl, cld, csl, lcell⟩ := F.cell
  obtain ⟨cdD, hD⟩ := F.clsD
  refine ⟨fun vs H Q E h => ?_, fun A outer s H args us vs Q E hr e0 hb r hsp => ?_⟩
  · obtain ⟨a, ws, rfl, hl, _⟩ := h
    simp [hl]
  obtain ⟨a, ws, rfl, hl, ha, hq⟩ := hsp
  have KX : K.In s.heap := e0.mod.kin.keeps fun b o q => (e0.bs b o q).1
  have nl : s.heap.NoLimit := e0.mod.nolimit.keeps fun b o q => (e0.bs b o q).1
  cases r with
  | @cons _ u0 _ ur ra rr =>
  obtain rfl : u0 = Value.ref a := ra
  have rall : Vals (V.ref a :: ws) (Value.ref a :: ur) := .cons rfl rr
  refine codeAny_call_function hr.depth (KX _ _ lk) rfl S.co S.gen rfl (PySem.W.codeRec_of KX F.hcd) (hb _ _ _ _ ?_)
  refine wpAny_newFunctionEnv S.nocell (fun x hx => S.par x.1 (List.of_mem_zip (a := x.1) (b := x.2) hx).1) (fun h1 hns hsb => ⟨nl.fresh _ hsb, ?_⟩) S.kind
  have kp : ∀ b o, s.heap.get? b = some o → h1.get? b = some o := fun b o q => hsb.extBut b o (Nat.ne_of_lt (Heap.lt_size q)) (Heap.get?_push_of_some _ q)
  show codeAny _ _ (.func _ (iniEnv qual sc s.heap.objs.size f (.ref cda) cc)) _ _
  refine PySem.ks_codeAny_funcAt ?_
  have I : L2.Inv (iniCx CX P w K mg base (("self" : Str) :: ps) qual sc f (.ref cda) cc A outer s H E) [] (L2.start (("self" : Str) :: ps) (V.ref a :: ws)) H { s with heap := h1, toks := s.toks + ((("self" : Str) :: ps).zip (Value.ref a :: ur)).length } :=
    ini_inv S hr.hd e0 (by simp [hl]) rall ⟨_, _, e0.mod.kin _ _ lcell, rfl⟩ hns kp
  obtain ⟨he1, hr1⟩ := hbody A outer s H E (hr.deeper _)
  obtain ⟨t1, ho⟩ := exo_at I.hok ha
  have hCc := T.oex.cls
  obtain ⟨nm, q, N, bs, bm, sn, sub, ab, col, dd, k0, k1, k2, k3, k5, hC, hbm⟩ := hCc
  have hcl : PySem.W.clsIn K C = some { name := nm, bases := bs, mro := .ref C :: bm, ns := N, qualname := q, hasDict := true, slotNames := sn, subclasses := sub, abstract := ab, collection := col, hasDel := false } := by unfold PySem.W.clsIn; rw [hC] <;> rfl
  have hKD : ∃ oD, K.lookup D = some oD ∧ oD.data = .cls cdD := by
    unfold PySem.W.clsIn at hD
    split at hD
    · rename_i c d cd' sl hoD
      cases hD
      exact ⟨_, hoD, rfl⟩
    · cases hD
  obtain ⟨oD, hD1, hD2⟩ := hKD
  have haC : a ≠ C := fun z => by
    have e := I.kIn _ _ hC
    rw [← z, ho] at e
    cases e
  refine PySem.ks_wpAt_execs_cons (PySem.ks_wpAt_Expr_any (PySem.ks_wpAt_MethodCall (pl := pl) ?_ (hev _)) I.quiet (hsw _))
  have hmd := I.mod
  obtain ⟨mb, hb1, hb2⟩ := hmd.blt
  obtain ⟨ar, har, hae⟩ := Option.map_eq_some_iff.mp F.par
  refine PySem.ks_wpAt_super_base (env := iniEnv qual sc s.heap.objs.size f (.ref cda) cc) S.hks S.hkc (by decide) rfl (I.kIn _ _ lk) rfl har rfl (I.kIn _ _ lcode) rfl hvs hfile F.top ?_
  refine PySem.W.ks_loadName_global S.kind S.hks (Calls.loadGlobal_builtin (by rw [show (iniEnv qual sc s.heap.objs.size f (.ref cda) cc).globals = _ from I.ok.glob]; exact hmd.glob.keeps I.bk) F.sup (by rw [show (iniEnv qual sc s.heap.objs.size f (.ref cda) cc).builtins = _ from I.ok.blt]; exact hb1.keeps I.bk) ((hb2 _ (by decide)).trans (show bootBuiltins "super" = some (.type "super") by decide +kernel)) ⟨rfl, ?_⟩)
  refine wpAny_loadName_free S.kind S.hkc rfl ⟨_, I.kIn _ _ lcell, rfl⟩ ?_
  rw [hae]
  refine wpAny_loadName_local S.kind (S.par _ List.mem_cons_self) hns (zip_lookup (i := 0) S.nd rfl rfl) ?_
  have hDh := I.kIn _ _ hD1
  refine PySem.ks_wpAny_isType_cls hDh hD2 ⟨rfl, ?_⟩
  refine PySem.ks_wpAny_call_super hDh hD2 ho rfl (fun c e => by cases e) (PySem.W.looks_mroIn I.kIn T.sub) (fun h2 hso k2 => ?_)
  have I2 : L2.Inv (iniCx CX P w K mg base (("self" : Str) :: ps) qual sc f (.ref cda) cc A outer s H E) [] (L2.start (("self" : Str) :: ps) (V.ref a :: ws)) H { s with heap := h2, toks := s.toks + ((("self" : Str) :: ps).zip (Value.ref a :: ur)).length } := I.kept k2
  have ho2 := k2 _ _ ho
  have hal := T.hm
  unfold PySem.W.ks_superIn at hal
  rw [hcl] at hal
  refine PySem.W.kxs_getMethod PySem.W.kxs_ValueError hso (PySem.W.looks_opaque I2.kIn T.third) (fun A Q E s k q => wpAny_bind ((PySem.W.looks_clsIn I2.kIn hcl) A _ E s k (wpAny_pure q))) rfl I2.kIn hal
    ((show PySem.W.InstAt h2 a _ C none from ⟨ho2, rfl, rfl, trivial⟩).type.andThen (PySem.W.looks_subIn I2.kIn T.hB)) haC (by decide) ?_
  have I3 := ClX.pin_new (t' := s.toks + ((("self" : Str) :: ps).zip (Value.ref a :: ur)).length + 1) (o := PySem.W.kxs_mw "ValueError.__init__" a) I2 (fun _ _ z => Heap.get?_push_of_some _ z) (Nat.le_refl _) (Heap.get?_push_at rfl rfl) (fun v z => nomatch z)
  have hA := (pa_cons he1 pa_nil (he _)).run p3 _ _ _ H (fun xs H1 => xs.length = 1 ∧ H1 a = some (exo a C none) ∧ t { nx := fun _ H' => Q .non H', rt := Q } (L2.start (("self" : Str) :: ps) (V.ref a :: ws)) H1) I3
    (by
      show te _ H fun x H1 => _
      exact te_mono hq fun y H1 h => ⟨rfl, h⟩)
  rw [he] at hA
  rw [he]
  refine PySem.W.kxs_callWith (i := "ValueError.__init__") (x := a) (by show (false || (backTo p3 (starEach [] _)).any (·.1)) = false; rw [hpl]; rfl) ?_
  refine Calls.evalArgs_plain (thn hA fun us s3 hx => ?_)
  obtain ⟨xs, H1, I4, r4, hl4, e4, q4⟩ := hx
  refine ⟨ClX.pin_at I4, ?_⟩
  refine mw_call T.oex (ClX.unpin I4) e4 (ClX.pin_at I4) (by rw [List.nil_append, ← r4.length, hl4, sizeLine_eq]; decide) fun s5 I5 => ?_
  have done : ∀ {σ' : L2.St} {H' : Hp} {v : V} {z : Value} {s2 : Shared}, L2.Inv (iniCx CX P w K mg base (("self" : Str) :: ps) qual sc f (.ref cda) cc A outer s H E) [] σ' H' s2 → RelV v z → Q v H' → CE outer P w H s Q z s2 :=
    fun {σ' H' v z s2} J rv q => ⟨v, H', J.os, J.bare, J.base, J.hok, rv, q⟩
  refine PySem.wpAt_of_wpAny (wpAny_mono (hr1.run [] s5 _ H1 _ I5 q4) (fun fl s2 hs => ?_) fun _ _ hs => hs)
  match fl, hs with
  | .ret z, ⟨v, σ', H', J, rv', q⟩ => exact done J rv' q
  | .next, ⟨σ', H', J, q⟩ => exact done (v := V.non) (z := Value.none) J rfl q
  | .brk, ⟨_, _, _, q⟩ => exact False.elim q
  | .cont, ⟨_, _, _, q⟩ => exact False.elim q
end
end DL
set_option Elab.async false
set_option linter.all false
set_option maxRecDepth 100000
set_option maxHeartbeats 4000000
namespace DL
open PySem PySem.Spec PyProof.Rows L2 LamX
/-! try with clauses, each with or without a name -/
/-- a clause: the class, the slot of its name, what its suite does with what it caught -/
structure Cl where
  c : Value
  sl : Option Nat
  su : Addr → Value → Option Addr → TS
def putSl (sl : Option Nat) (v : Option V) (σ : L2.St) : L2.St := match sl with
  | none => σ
  | some i => σ.set i v
def endSl (sl : Option Nat) (D : Ends) : Ends := { nx := fun σ H => D.nx (putSl sl none σ) H, rt := D.rt, bk := fun σ H => D.bk (putSl sl none σ) H, ct := fun σ H => D.ct (putSl sl none σ) H }
def wCl (K : PySem.W.Frag) (Wo : WX) (D : Ends) : List Cl → WX
  | [] => Wo
  | q :: r => fun cls d σ H => ∃ b, PySem.W.exmOne K cls q.c = some b ∧ (b = true → ∀ a, H a = none → q.su a cls d (endSl q.sl D) (putSl q.sl (some (.ref a)) σ) H) ∧ (b = false → wCl K Wo D r cls d σ H)
def SuOk (X : Cx) (bs : List Stmt) (ts : Addr → Value → Option Addr → TS) : Prop :=
  ∀ (a : Addr) (o : Obj) (cls : Value) (d : Option Addr) (pn : List (Addr × Obj)), Zc cls d o → (∃ fv, o.data = .fields fv) → PSs (X.suite a ((a, o) :: pn)) bs (ts a cls d)
inductive ClOk (X : Cx) : List ExceptHandler → List Cl → Prop
  | nil : ClOk X [] []
  | plain {x : Str} {c : Value} {ts : Addr → Value → Option Addr → TS} {b1 : Stmt} {bs : List Stmt} {np po : Pos} {hs : List ExceptHandler} {l : List Cl} (hc : Names X x c) (su : SuOk X (b1 :: bs) ts) (r : ClOk X hs l) :
      ClOk X (.ExceptHandler (some (.Name x np)) none (b1 :: bs) po :: hs) (⟨c, none, ts⟩ :: l)
  | named {x n : Str} {i : Nat} {c : Value} {ts : Addr → Value → Option Addr → TS} {b1 : Stmt} {bs : List Stmt} {np po : Pos} {hs : List ExceptHandler} {l : List Cl} (hc : Names X x c) (hi : X.N[i]? = some n) (hl : X.env.kindOf n = some .local)
      (su : SuOk X (b1 :: bs) ts) (r : ClOk X hs l) : ClOk X (.ExceptHandler (some (.Name x np)) (some n) (b1 :: bs) po :: hs) (⟨c, some i, ts⟩ :: l)
section
variable {X : Cx} {body : List Stmt} {h1 : ExceptHandler} {hs : List ExceptHandler} {l : List Cl} {pos : Pos} {tb : WX → TS} {Wo : WX}
/-- the clauses, one after another -/
theorem clauses_run {a : Addr} {B : Heap} {sI s2 : Shared} {pins : List (Addr × Obj)} {σ : L2.St} {H : Hp} {cls : Value} {d : Option Addr} {D : Ends} {g : Heap} (hN : X.N.Nodup) (hst : X.stack = X.env :: X.outer)
    (hf : X.env.frame = some X.env.locals) (tk : Takes X Wo) (J : Inv X pins σ H sI) (nb : ∀ b o, sI.heap.get? b = some o → b ∉ frs X.stack → B.get? b = some o) (up : sI.heap.UpToSlots g)
    (fl : HandSPX.FlyingZ B (X.env :: X.outer) a (Zc cls d) g) (na : H a = none) (os : s2.os = sI.os) (ag : AllBare s2.gens) (nL : a ≠ X.env.locals) (nF : a ∉ X.fs) :
    ∀ {hs : List ExceptHandler} {l : List Cl}, ClOk X hs l → wCl X.K Wo D l cls d σ H → wpAny (model X.prog X.w) X.A (handleBy (.ref a) X.env hs) (SP X pins D) X.xe { s2 with heap := g } := by
  have okX := J.ok
  have Jg : Inv X pins σ H { s2 with heap := g } := J.landed nb fl.1 up os ag
  obtain ⟨og, vg, eg, zg, dg⟩ := fl.there
  have Sg := Jg.suite eg dg na nL nF
  have ty : PySem.W.Looks (model X.prog X.w) g (typeOf (.ref a)) cls := fun A Q E s k q => wpAny_typeOf_ref (k _ _ eg) (by rw [zg.1]; exact q)
  have named : ∀ {x : Str} {c : Value} {np : Pos} {Q : Value → Shared → Prop} {E : Value → Shared → Prop}, Names X x c → Q c { s2 with heap := g } → wpAny (model X.prog X.w) (X.A.mark (some (.ref a))) (eval (.Name x np) X.env) Q E { s2 with heap := g } := by
    intro x c np Q E hc q
    obtain ⟨k1, k2, k3⟩ := hc
    rcases k3 with k3 | ⟨k3, k4, k5⟩
    · exact ld_glob (X := X.suite a ((a, og) :: (X.pn ++ pins))) Sg k1 k3 q k2
    · exact ld_blt (X := X.suite a ((a, og) :: (X.pn ++ pins))) Sg k1 k3 k4 q k5 k2
  intro hs l hk
  induction hk with
  | nil =>
    intro w
    refine wpAny_handleBy_nil ?_
    obtain ⟨_, _, _, o1, v1, T, oT, tt, e1, z1, d1, i1, r1⟩ := id fl
    unfold PySem.passOn
    refine wpAny_bind (wpAny_field e1 d1 i1 ?_)
    rw [if_neg (show ¬ ((Value.ref T == Value.none) = true) from by simp)]
    have on : wpAny (model X.prog X.w) X.A (setFlight (.ref a) X.env.frame) (fun _ s4 => wpAny (model X.prog X.w) X.A (throw (.ref a) : Sem Flow) (SP X pins D) X.xe s4) X.xe { s2 with heap := g } := by
      rw [hf]
      exact HandSPX.setFlight_upZ fl fun g4 y4 u4 => wpAny_throw (tk _ _ ⟨a, B, sI, pins, σ, H, cls, d, rfl, J, nb, up.trans u4, .inr (.inr (by rw [hst]; exact y4)), na, os, ag, w⟩)
    first
      | exact wpAny_bind (wpAny_pure (wpAny_bind on))
      | exact wpAny_bind on
  | @plain x c ts b1 bs np po hs2 l2 hc su r ih =>
    intro w
    obtain ⟨b, be, yes, no⟩ := w
    refine wpAny_handleBy_cons (codeAny_handlers_test ?_) (by intro q; cases q)
    refine named hc ((PySem.W.exm_one (M := model X.prog X.w) Jg.kIn ty be).here ?_)
    cases b with
    | false => exact ih (no rfl)
    | true =>
      refine codeAny_handlers_suite (HandSPX.lands_againZ fl fun g4 fl4 u4 => ?_)
      obtain ⟨o4, v4, e4, z4, d4⟩ := fl4.there
      have J4 : Inv X pins σ H { s2 with heap := g4 } := J.landed nb fl4.1 (up.trans u4) os ag
      have S4 := J4.suite e4 d4 na nL nF
      refine wpAny_mono ((su a o4 cls d (X.pn ++ pins) z4 ⟨_, d4⟩).run [] _ _ H _ S4 (yes rfl a na)) (fun f s6 q => ?_) (fun _ _ z => z.elim)
      match f, q with
      | .next, ⟨_, _, S6, q6⟩ => exact ⟨_, _, S6.unsuite okX, q6⟩
      | .brk, ⟨_, _, S6, q6⟩ => exact ⟨_, _, S6.unsuite okX, q6⟩
      | .cont, ⟨_, _, S6, q6⟩ => exact ⟨_, _, S6.unsuite okX, q6⟩
      | .ret _, ⟨_, _, _, S6, r6, q6⟩ => exact ⟨_, _, _, S6.unsuite okX, r6, q6⟩
  | @named x n i c ts b1 bs np po hs2 l2 hc hi hl su r ih =>
    intro w
    obtain ⟨b, be, yes, no⟩ := w
    refine wpAny_handleBy_cons (codeAny_handlers_test ?_) (by intro q; cases q)
    refine named hc ((PySem.W.exm_one (M := model X.prog X.w) Jg.kIn ty be).here ?_)
    cases b with
    | false => exact ih (no rfl)
    | true =>
      refine codeAny_handlers_suite_as (HandSPX.lands_againZ fl fun g4 fl4 u4 => ?_)
      obtain ⟨o4, v4, e4, z4, d4⟩ := fl4.there
      have J4 : Inv X pins σ H { s2 with heap := g4 } := J.landed nb fl4.1 (up.trans u4) os ag
      have S4 := J4.suite e4 d4 na nL nF
      refine store_ok (X := X.suite a ((a, o4) :: (X.pn ++ pins))) (v := .ref a) S4 hN hi (.inl hl) rfl (fun s5 S5 => ?_) (.inr hl)
      refine wpAny_mono ((su a o4 cls d (X.pn ++ pins) z4 ⟨_, d4⟩).run [] s5 _ H _ S5 (yes rfl a na)) (fun f s6 q => ?_) (fun _ _ z => z.elim)
      match f, q with
      | .next, ⟨_, _, S6, q6⟩ => exact gone_ok (S6.unsuite okX) hN hi hl fun s7 J7 => ⟨_, _, J7, q6⟩
      | .brk, ⟨_, _, S6, q6⟩ => exact gone_ok (S6.unsuite okX) hN hi hl fun s7 J7 => ⟨_, _, J7, q6⟩
      | .cont, ⟨_, _, S6, q6⟩ => exact gone_ok (S6.unsuite okX) hN hi hl fun s7 J7 => ⟨_, _, J7, q6⟩
      | .ret _, ⟨_, _, _, S6, r6, q6⟩ => exact gone_ok (S6.unsuite okX) hN hi hl fun s7 J7 => ⟨_, _, _, J7, r6, q6⟩
theorem ps_clauses (hN : X.N.Nodup) (hst : X.stack = X.env :: X.outer) (hf : X.env.frame = some X.env.locals) (tk : Takes X Wo)
    (hb : ∀ (W : WX) (pn : List (Addr × Obj)) (xe : Value → Shared → Prop), Takes (X.tr pn xe) W → PassesOwn (model X.prog X.w) X.A X.env xe → PSs (X.tr pn xe) body (tb W))
    (hh : ClOk X (h1 :: hs) l) : PS X (.Try body (h1 :: hs) [] [] pos) (fun D σ H => tb (wCl X.K Wo D l) D σ H) := by
  refine ⟨fun pins s σ H D I hw => ?_⟩
  have okX := I.ok
  have hfr : X.A.frames = some (X.env :: X.outer) := okX.frames.trans (congrArg some hst)
  refine wpAny_Try_except (wpAny_mono ((hb (wCl X.K Wo D l) (X.pn ++ pins) _ (fun u s2 xx => ?_) PassesOwn.looking).run [] s σ H D (I.toTry _) hw) (fun f s2 q => ?_) (fun e s2 he => he))
  · obtain ⟨a, B, sI, pins2, σ2, H2, cls, d, rfl, J2, nb, up, sky, na, os, ag, w⟩ := xx
    have J : Inv X pins σ2 H2 sI := J2.ofTry okX
    have skyX : Sky B (X.env :: X.outer) a (Zc cls d) X.env.locals s2.heap := hst ▸ sky
    refine Sky.land Zc.steady hfr hf skyX fun g fl up2 => ?_
    obtain ⟨og, vg, eg, zg, dg⟩ := fl.there
    have far : a ∉ frs (X.env :: X.outer) := fun hm => by
      obtain ⟨_, o', e', n'⟩ := fl.2.2.1.mem hm
      rw [eg] at e'
      exact n' _ (Option.some.inj e' ▸ dg)
    have nL : a ≠ X.env.locals := fun z => far (List.mem_filterMap.mpr ⟨X.env, List.mem_cons_self, hf.trans (congrArg some z.symm)⟩)
    have nF : a ∉ X.fs := fun hm => by
      obtain ⟨en, m1, m2⟩ := List.mem_filterMap.mp hm
      exact far (List.mem_filterMap.mpr ⟨en, List.mem_cons_of_mem _ m1, m2⟩)
    exact clauses_run hN hst hf tk J nb (up.trans up2) fl na os ag nL nF hh w
  · match f, q with
    | .next, ⟨_, _, J, q⟩ => exact wpAny_execs_nil ⟨_, _, J.ofTry okX, q⟩
    | .brk, ⟨_, _, J, q⟩ => exact ⟨_, _, J.ofTry okX, q⟩
    | .cont, ⟨_, _, J, q⟩ => exact ⟨_, _, J.ofTry okX, q⟩
    | .ret _, ⟨_, _, _, J, r, q⟩ => exact ⟨_, _, _, J.ofTry okX, r, q⟩
end
end DL
set_option Elab.async false
set_option linter.all false
set_option maxRecDepth 100000
set_option maxHeartbeats 4000000
namespace DL
open PySem PySem.Spec PyProof.Rows L2 LamX
/-! raise C(e, ..), C an own exception with an __init__ -/
theorem exo_code {a C : Addr} {d : Option Addr} {q : Str} : exo a C d ≠ CodeO a q := fun z => by
  unfold CodeO at z
  have z' : HO.ext _ = HO.ext _ := z
  injection z' with z2
  obtain ⟨h, hh⟩ : ∃ h : Heap, h.get? a = some ({ cls := .ref C, dict := d, data := .fields #[.ref 0, .none, .none, .none, .bool false, .none] } : Obj) :=
    ⟨{ objs := Array.replicate (a + 1) ({ cls := .ref C, dict := d, data := .fields #[.ref 0, .none, .none, .none, .bool false, .none] } : Obj) }, by
      unfold Heap.get?
      rw [Array.getElem?_replicate, if_pos (Nat.lt_succ_self a)]⟩
  obtain ⟨oc, vs, t, e1, e2, e3⟩ := (congrFun z2 h).mp ⟨0, hh⟩
  rw [hh] at e1
  cases e1
  cases e2
  cases e3
section
variable {K : PySem.W.Frag} {ca : CA} {ρ : Nat → Addr} {n : Nat} {H H' : Hp} {st : Sto} {a C dx : Addr} {od : Option Addr}
/-- the exception that is being made goes out of the heap, or is changed: the store stays -/
theorem rk_but (e : H a = some (exo a C od)) (ag : ∀ b o, b ≠ a → H b = some o → H' b = some o) : RK K ca ρ n H ca ρ n H' := by
  have ne : ∀ {b : Addr} {o : HO}, H b = some o → o ≠ exo a C od → b ≠ a := fun {b o} h1 h2 z => h2 (by rw [z, e] at h1; exact (Option.some.inj h1).symm)
  refine ⟨rfl, Nat.le_refl _, fun _ _ => rfl, fun b xs q => ag b _ (ne q fun z => by unfold exo at z; cases z) q, fun b xs q => ⟨ag b _ (ne q.1 fun z => by unfold exo at z; cases z) q.1, q.2⟩, fun b xs q => ?_, fun b kvs q => ⟨?_, q.2⟩, ?_⟩
  · rcases q with ⟨o, q⟩ | q
    · exact .inl ⟨o, ag b _ (ne q fun z => by unfold exo at z; cases z) q⟩
    · exact .inr q
  · rcases q.1 with q | ⟨o, q⟩
    · exact .inl (ag b _ (ne q fun z => by unfold exo at z; cases z) q)
    · exact .inr ⟨o, ag b _ (ne q fun z => by unfold exo at z; cases z) q⟩
  · exact fun b o xs q => ag b _ (ne q fun z => by unfold exo at z; cases z) q
theorem srep_but (s : SRep K ca ρ H st) (e : H a = some (exo a C od)) (ag : ∀ b o, b ≠ a → H b = some o → H' b = some o) : SRep K ca ρ H' st := by
  have ne : ∀ {b : Addr} {o : HO}, H b = some o → o ≠ exo a C od → b ≠ a := fun {b o} h1 h2 z => h2 (by rw [z, e] at h1; exact (Option.some.inj h1).symm)
  have x : RK K ca ρ st.length H ca ρ st.length H' := rk_but e ag
  refine ⟨fun i o q => ?_, s.inj, fun b hb => ?_, fun p hp => ?_⟩
  · have q := s.at_ i o q
    cases o with
    | lst ds => obtain ⟨xs, e1, r⟩ := q; exact ⟨xs, ag _ _ (ne e1 fun z => by unfold exo at z; cases z) e1, r.rk x⟩
    | dic ks => obtain ⟨xs, e1, r⟩ := q; exact ⟨xs, ag _ _ (ne e1 fun z => by unfold exo at z; cases z) e1, r.rk x⟩
    | dit ks => obtain ⟨xs, e1, r⟩ := q; exact ⟨xs, ag _ _ (ne e1 fun z => by unfold exo at z; cases z) e1, r.rk x⟩
    | lck ks => obtain ⟨o, xs, e1, r⟩ := q; exact ⟨o, xs, ag _ _ (ne e1 fun z => by unfold exo at z; cases z) e1, r.rk x⟩
    | ins c fs => obtain ⟨C', dy, xs, c1, e1, d1, r⟩ := q; exact ⟨C', dy, xs, c1, ag _ _ (ne e1 fun z => by unfold exo at z; cases z) e1, ag _ _ (ne d1 fun z => by unfold exo at z; cases z) d1, r.rk x⟩
  · obtain ⟨⟨xs, e1⟩, n1⟩ := s.res b hb
    exact ⟨⟨xs, ag _ _ (ne e1 fun z => by unfold exo at z; cases z) e1⟩, n1⟩
  · obtain ⟨ps, h1, h2, h3⟩ := s.tab p hp
    refine ⟨ps, ag _ _ (ne h1 fun z => by unfold exo at z; cases z) h1, h2, fun pos cv hc => ?_⟩
    obtain ⟨c, e1, e2⟩ := h3 pos cv hc
    refine ⟨c, e1, ag _ _ (fun z => ?_) e2⟩
    subst z
    rw [e] at e2
    exact exo_code (Option.some.inj e2)
end
/-! ### self.f = p, .. -/
/-- the fields of an exception: each a parameter -/
def tFl (K : PySem.W.Frag) : List (Str × Nat) → TS
  | [] => tNext
  | q :: r => tSeq (tOst K q.1 (tVar 0) (tVar (q.2 + 1))) (tFl K r)
def fldV : List (Str × Nat) → List V → List (Str × V) → Option (List (Str × V))
  | [], _, acc => some acc
  | q :: r, vs, acc => match vs[q.2]? with
    | some v => fldV r vs ((q.1, v) :: acc)
    | none => none
def fldD : List (Str × Nat) → List D → List (Str × D) → Option (List (Str × D))
  | [], _, acc => some acc
  | q :: r, vs, acc => match vs[q.2]? with
    | some v => fldD r vs ((q.1, v) :: acc)
    | none => none
theorem fld_rep {K : PySem.W.Frag} {ca : CA} {ρ : Nat → Addr} {n : Nat} {H : Hp} {ds : List D} {vs : List V} (rs : Reps K ca ρ n H ds vs) : ∀ {fl : List (Str × Nat)} {ad fs : List (Str × D)} {av : List (Str × V)}, RepKV K ca ρ n H ad av → fldD fl ds ad = some fs →
    ∃ ws, fldV fl vs av = some ws ∧ RepKV K ca ρ n H fs ws
  | [], ad, fs, av, r, e => by cases e; exact ⟨av, rfl, r⟩
  | q :: l, ad, fs, av, r, e => by
    simp only [fldD] at e
    cases z : ds[q.2]? with
    | none => rw [z] at e; cases e
    | some d =>
      rw [z] at e
      obtain ⟨v, ev, rv⟩ := rs.get z
      simp only [fldV, ev]
      exact fld_rep rs (by simp only [RepKV]; exact ⟨v, av, rfl, rv, r⟩) e
section
variable {K : PySem.W.Frag} {C a : Addr} {vs : List V}
theorem tfl_old (T : OexC K C) {σ : L2.St} (h0 : σ[0]? = some (some (.ref a))) (hv : ∀ i v, vs[i]? = some v → σ[i + 1]? = some (some v)) {D : Ends} {dx : Addr} : ∀ {fl : List (Str × Nat)} {acc ws : List (Str × V)} {H : Hp}, (∀ q ∈ fl, PySem.W.findIn K (.ref C) q.1 = some none) →
    fldV fl vs acc = some ws → fl.length + acc.length ≤ 900 → H a = some (exo a C (some dx)) → dx ≠ a → H dx = some (exd dx acc) → (∀ H', H' a = some (exo a C (some dx)) → H' dx = some (exd dx ws) → (∀ b, b ≠ a → b ≠ dx → H' b = H b) → D.nx σ H') → tFl K fl D σ H
  | [], acc, ws, H, hn, e, hl, ha, hne, hd, k => by
    cases e
    exact k H ha hd fun _ _ _ => rfl
  | q :: l, acc, ws, H, hn, e, hl, ha, hne, hd, k => by
    simp only [fldV] at e
    cases z : vs[q.2]? with
    | none => rw [z] at e; cases e
    | some v =>
      rw [z] at e
      refine ⟨v, hv _ _ z, .ref a, h0, a, C, rfl, T, hn q List.mem_cons_self, .inr ⟨dx, acc, ha, hd, by rw [List.length_cons] at hl; omega, ?_⟩⟩
      refine tfl_old T h0 hv (fun q hq => hn q (List.mem_cons_of_mem _ hq)) e (by rw [List.length_cons] at hl ⊢; omega) (by rw [upd_ne (Ne.symm hne)]; exact ha) hne upd_same fun H' h1 h2 h3 => k H' h1 h2 fun b b1 b2 => by rw [h3 b b1 b2, upd_ne b2]
theorem tfl_new (T : OexC K C) {σ : L2.St} (h0 : σ[0]? = some (some (.ref a))) (hv : ∀ i v, vs[i]? = some v → σ[i + 1]? = some (some v)) {D : Ends} {fl : List (Str × Nat)} {ws : List (Str × V)} {H : Hp} (hn : ∀ q ∈ fl, PySem.W.findIn K (.ref C) q.1 = some none)
    (e : fldV fl vs [] = some ws) (hne : fl ≠ []) (hl : fl.length ≤ 900) (ha : H a = some (exo a C none))
    (k : ∀ dx H', H dx = none → dx ≠ a → H' a = some (exo a C (some dx)) → H' dx = some (exd dx ws) → (∀ b, b ≠ a → b ≠ dx → H' b = H b) → D.nx σ H') : tFl K fl D σ H := by
  cases fl with
  | nil => exact absurd rfl hne
  | cons q l =>
    simp only [fldV] at e
    cases z : vs[q.2]? with
    | none => rw [z] at e; cases e
    | some v =>
      rw [z] at e
      refine ⟨v, hv _ _ z, .ref a, h0, a, C, rfl, T, hn q List.mem_cons_self, .inl ⟨ha, fun dx hd hda => ?_⟩⟩
      refine tfl_old T h0 hv (fun q hq => hn q (List.mem_cons_of_mem _ hq)) e (by rw [List.length_cons] at hl; rw [List.length_singleton]; omega) upd_same hda (by rw [upd_ne hda, upd_same]) fun H' h1 h2 h3 => k dx H' hd hda h1 h2 fun b b1 b2 => by rw [h3 b b1 b2, upd_ne b1, upd_ne b2]
end
/-! ### the raise -/
def spI (K : PySem.W.Frag) (ca : CA) (C : Addr) (n : Nat) (fe : FE) (fl : List (Str × Nat)) (N : List Str) : Sp := fun vs H Q _ => ∃ a ws, vs = V.ref a :: ws ∧ ws.length = n ∧ H a = some (exo a C none) ∧
  tD K ca W0 fe (L2.start N vs) H fun _ H1 => H1 a = some (exo a C none) ∧ tFl K fl { nx := fun _ H' => Q .non H', rt := Q } (L2.start N vs) H1
/-- C(..) makes an exception with these fields -/
structure ExcG (P : Program) (w : World) (K : PySem.W.Frag) (mg : Str → Option Value) (base : Heap) (cf : CF) (c : Str) (n : Nat) (fe : FE) (fl : List (Str × Nat)) : Prop where
  ex : ∃ (C fI : Addr) (fd : FuncData) (ps : List Str), cf c = some C ∧ mg c = some (.ref C) ∧ OexC K C ∧ PySem.W.findIn K (.ref C) "__init__" = some (some (.ref fI)) ∧ PySem.W.typeIn K (.ref fI) = some (.type "function") ∧ Binds K fd ("self" :: ps) [] ∧ ps.length = n ∧
    (∀ q ∈ fl, PySem.W.findIn K (.ref C) q.1 = some none) ∧ ∀ rv, FnOk P w K mg base CX0 11 fI fd ("self" :: ps) (spI K ⟨cf, rv⟩ C n fe fl ("self" :: ps))
def sRaise (c : Str) (n : Nat) (fe : FE) (fl : List (Str × Nat)) (h : FA) : FS := fun τ st => (h τ st).bind fun ds st1 => if ds.length = n then (noX (fe (none :: ds.map some) st1)).bind fun _ st2 => match fldD fl ds [] with
    | some fs => .ex c fs τ st2
    | none => .bad
  else .bad
section
variable {X : Cx} {ca : CA} {W : WX} {k n : Nat} {c : Str} {p pos pos' : Pos} {e : Expr} {es : List Expr} {h : FA} {fe : FE} {fl : List (Str × Nat)}
theorem js_raise (E : ExcG X.prog X.w X.K X.mg X.base ca.f c n fe fl) (hn : n ≤ 1000) (hf : fl ≠ []) (hl : fl.length ≤ 900) (z : Cz X W k) (hg : Gl X c) (ha : JA X ca W (e :: es) h)
    (hdb : (c == ("__debug__" : Str)) = false := by decide) (he : starEach (e :: es) X.env = (false, eval e X.env) :: starEach es X.env := by rfl)
    (hpl : (backTo pos (starEach es X.env)).any (·.1) = false := by rfl) : JS X ca W (.Raise (some (.Call (.Name c p) (e :: es) [] pos)) none pos') (sRaise c n fe fl h) := by
  obtain ⟨C, fI, fd, ps, hc, hm, T, iC, tI, hb, hps, hno, F⟩ := E.ex
  refine ps_imp (ps_raise z.hc z.tk (pmk_oex T iC tI (F ca.rv) z.hr.room hb .nil (fun _ _ _ _ _ _ _ h => h.elim) hg hm ha hdb he hpl)) fun Dn σ H ⟨ρ, st, τ, sl, s, h⟩ => ?_
  refine at_of sl s h fun ds ρ1 st1 H1 x1 sl1 s1 h1 vs rs => ?_
  by_cases hd : ds.length = n
  · rw [if_pos hd] at h1
    have lv : vs.length = n := by rw [rs.length]; exact hd
    refine ⟨by rw [lv]; exact hn, fun a ha => ?_⟩
    cases q : fe (none :: ds.map some) st1 with
    | bad => rw [q] at h1; exact h1.elim
    | ex c' f' τ' s' => rw [q] at h1; exact h1.elim
    | ok y st2 =>
      rw [q] at h1
      replace h1 : Post X.K ca W ρ1 st1.length H1 (match fldD fl ds [] with
        | some fs => (.ex c fs τ st2 : R Out)
        | none => .bad) (KS X.K ca Dn) := h1
      cases qf : fldD fl ds [] with
      | none => rw [qf] at h1; exact h1.elim
      | some fs =>
        rw [qf] at h1
        rw [List.append_nil]
        have xa : Ext ρ1 st1.length H1 ρ1 st1.length (upd H1 a (exo a C none)) := Ext.upd_new s1 ha
        have sa : SRep X.K ca ρ1 (upd H1 a (exo a C none)) st1 := s1.upd_new ha
        have len1 : (("self" : Str) :: ps).length - (V.ref a :: vs).length = 0 := by rw [List.length_cons, List.length_cons, lv, hps, Nat.sub_self]
        have st0 : L2.start (("self" : Str) :: ps) (V.ref a :: vs) = some (V.ref a) :: vs.map some := by
          unfold L2.start
          rw [len1, List.replicate_zero, List.append_nil, List.map_cons]
        refine ⟨a, vs, rfl, lv, upd_same, ρ1, st1, none :: ds.map some, ?_, sa, ?_⟩
        · rw [st0]
          refine ⟨by simp [rs.length], fun i d e => ?_⟩
          cases i with
          | zero => cases e
          | succ i =>
            rw [List.getElem?_cons_succ, List.getElem?_map] at e
            cases qi : ds[i]? with
            | none => rw [qi] at e; cases e
            | some d' =>
              rw [qi] at e
              cases e
              obtain ⟨v, ev, rv⟩ := rs.get qi
              exact ⟨v, by rw [List.getElem?_cons_succ, List.getElem?_map, ev]; rfl, rv.ext xa⟩
        · rw [q]
          intro H2 ρ2 x2 s2 v rv
          have off : ∀ i, i < st1.length → ρ1 i ≠ a := s1.ne_new ha
          have ea : H2 a = some (exo a C none) := x2.keep a _ upd_same (fun ps z => by unfold exo at z; cases z) off
          refine ⟨ea, ?_⟩
          obtain ⟨ws, hw, rk⟩ := fld_rep (rs.ext xa) (fl := fl) (ad := []) (av := []) (by simp only [RepKV]) qf
          have rk2 : RepKV X.K ca ρ2 st2.length H2 fs ws := rk.ext x2
          refine tfl_new T (vs := vs) (by rw [st0]; rfl) (fun i v e => by rw [st0, List.getElem?_cons_succ, List.getElem?_map, e]; rfl) hno hw hf hl ea fun dx H3 hdx hda h3a h3d h3o => ?_
          have up : ∀ {b : Addr} {o : HO}, H1 b = some o → b ≠ a := fun {b o} e z => by rw [z, ha] at e; cases e
          have dn : H1 dx = none := by
            cases e : H1 dx with
            | none => rfl
            | some o =>
              obtain ⟨o2, e2⟩ := x2.there dx o (by rw [upd_ne hda]; exact e)
              rw [hdx] at e2; cases e2
          have dne : ∀ {b : Addr} {o : HO}, H2 b = some o → b ≠ dx := fun {b o} e z => by rw [z, hdx] at e; cases e
          have ag : ∀ b o, b ≠ a → H2 b = some o → upd (del H3 a) dx (.xd ws) b = some o := fun b o hba e => by
            rw [upd_ne (dne e), del_ne hba, h3o b hba (dne e)]; exact e
          refine ⟨rfl, dx, ws, h3a, h3d, dn, ?_⟩
          refine h1 C σ (some dx) (upd (del H3 a) dx (.xd ws)) ρ2 hc ?_ ?_ (.inr ⟨dx, ws, rfl, upd_same, rk2.rk (rk_but ea ag)⟩) (srep_but s2 ea ag)
          · have y := xa.trans x2
            exact {
              le := y.le
              same := y.same
              new := y.new
              keep := fun b o e nt hn => ag b o (up e) (y.keep b o e nt hn)
              tups := fun b xs e => ag b _ (up e) (y.tups b xs e)
              frzs := fun b o u e => ag b _ (up e) (y.frzs b o u e)
              owns := fun b u e => ag b _ (up e) (y.owns b u e)
              there := fun b o e => by
                obtain ⟨o2, e2⟩ := y.there b o e
                exact ⟨o2, ag b o2 (up e) e2⟩ }
          · have x3 : RK X.K ca ρ2 st2.length H2 ca ρ2 st2.length (upd (del H3 a) dx (.xd ws)) := rk_but ea ag
            refine ⟨sl1.1, fun i d e => ?_⟩
            obtain ⟨v, ev, rv⟩ := sl1.2 i d e
            exact ⟨v, ev, ((rv.ext xa).ext x2).rk x3⟩
  · rw [if_neg hd] at h1; exact h1.elim
end
end DL
set_option Elab.async false
set_option linter.all false
set_option maxRecDepth 100000
set_option maxHeartbeats 4000000
namespace DL
open PySem PySem.Spec PyProof.Rows L2 LamX
/-! raise C() of a class without own __init__; try -/
structure ExcO (K : PySem.W.Frag) (mg : Str → Option Value) (cf : CF) (c : Str) : Prop where
  ex : ∃ (C : Addr), cf c = some C ∧ mg c = some (.ref C) ∧ PySem.W.excIn K C [.type "ValueError", .type "Exception", .type "BaseException", .type "object"] "ValueError.__new__" = true ∧ PySem.W.keepIn K (.ref C) = true ∧ PySem.W.subIn K (.ref C) (.type "BaseException") = some true ∧ PySem.W.typeIn K (.ref C) = some (.type "type")
def sRaise0 (c : Str) : FS := fun τ st => .ex c [] τ st
section
variable {X : Cx} {ca : CA} {W : WX} {k n : Nat} {c : Str} {p pos pos' : Pos}
theorem pmk_own0 {C : Addr} (q : PySem.W.excIn X.K C [.type "ValueError", .type "Exception", .type "BaseException", .type "object"] "ValueError.__new__" = true) (gC : X.mg c = some (.ref C)) (kC : PySem.W.keepIn X.K (.ref C) = true) (r : Raises X (.ref C)) (hg : Gl X c)
    (hdb : (c == ("__debug__" : Str)) = false) : PMk X (.Call (.Name c p) [] [] pos) (fun _ H Q => Q (.ref C) none H) := fun pins s σ H Q I h => by
  refine wpAny_Call_Name_kw (ld_glob I hg gC (PySem.W.callWith_K0 I.kIn kC ?_) hdb)
  obtain ⟨bm, N, nm, qn, bs, hdct, sn, sub, ab, col, dd, k0, k1, k2, k3, k5, mN, hC, hN, hni, T⟩ := exc_obj I.kIn q
  exact wpAny_call_exc_subT F.excBase_ValueError T hC hN hni (fun h' e hm => mk_of I hm r h (I.hok.gone hm.new)) (Nat.zero_le _)
theorem js_raise0 (E : ExcO X.K X.mg ca.f c) (z : Cz X W k) (hg : Gl X c) (hdb : (c == ("__debug__" : Str)) = false := by decide) : JS X ca W (.Raise (some (.Call (.Name c p) [] [] pos)) none pos') (sRaise0 c) := by
  obtain ⟨C, hc, hm, q, kC, b1, b2⟩ := E.ex
  refine ps_imp (ps_raise z.hc z.tk (pmk_own0 q hm kC (raises_own b1 b2) hg hdb)) fun Dn σ H ⟨ρ, st, τ, sl, s, h⟩ => ?_
  exact h C σ none H ρ hc (Ext.refl _ _ _) sl (.inl rfl) s
end
/-! ### except suites -/
/-- a clause: the classes that it takes, those that it lets by, the slot of its name, its suite -/
structure Hd where
  yes : List Str
  no : List Str
  sl : Option Nat
  su : Str → List (Str × D) → FS
def clr (sl : Option Nat) (τ : Ti) : Ti := match sl with
  | none => τ
  | some i => τ.set i none
def clrO (sl : Option Nat) : Out → Out
  | .nx τ => .nx (clr sl τ)
  | .bk τ => .bk (clr sl τ)
  | .ct τ => .ct (clr sl τ)
  | .rt d => .rt d
def hRun : List Hd → Str → List (Str × D) → FS
  | [], c, fs => fun τ st => .ex c fs τ st
  | h :: r, c, fs => fun τ st => if h.yes.contains c = true then (noX (h.su c fs (clr h.sl τ) st)).bind fun o st1 => .ok (clrO h.sl o) st1
    else if h.no.contains c = true then hRun r c fs τ st else .bad
def sTry (u : FS) (hs : List Hd) : FS := fun τ st => match u τ st with
  | .ok o st1 => .ok o st1
  | .ex c fs τ1 st1 => hRun hs c fs τ1 st1
  | .bad => .bad
section
variable (K : PySem.W.Frag) (ca : CA) (sl : Option Nat) (a : Addr) (fs : List (Str × D)) (d : Option Addr)
/-- what stands in a suite: the fields of what was caught too -/
def AtX {α : Type} (f : Ti → Sto → R α) (σ : L2.St) (H : Hp) (F : α → (Nat → Addr) → Sto → Hp → Prop) : Prop :=
  ∃ ρ st τ, Slots K ca ρ st.length H τ σ ∧ (∀ i, sl = some i → i < σ.length → σ[i]? = some (some (.ref a))) ∧ SRep K ca ρ H st ∧ ExRep K ca ρ st.length H fs d ∧ Post K ca W0 ρ st.length H (f τ st) F
def tX (f : FE) : TE := fun σ H Q => AtX K ca sl a fs d f σ H (KD K ca Q)
def tXA (f : FA) : TA := fun σ H Q => AtX K ca sl a fs d f σ H (KA K ca Q)
def tXS (f : FS) : TS := fun Dn σ H => AtX K ca sl a fs d f σ H (KS K ca Dn)
end
section
variable {X : Cx} {ca : CA} {sl : Option Nat} {a : Addr} {fs : List (Str × D)} {d : Option Addr} {e : Expr} {es : List Expr} {f : FE} {g : FA} {pos : Pos}
theorem xd_off {K : PySem.W.Frag} {ρ : Nat → Addr} {H : Hp} {st : Sto} {dd : Addr} {ws : List (Str × V)} (s : SRep K ca ρ H st) (e : H dd = some (.xd ws)) : ∀ i, i < st.length → ρ i ≠ dd := fun i hi z => by
  have q := s.at_ i st[i] (List.getElem?_eq_getElem hi)
  rw [z] at q
  generalize st[i] = o at q
  cases o with
  | lst ds => obtain ⟨xs, e1, _⟩ := q; rw [e] at e1; cases e1
  | dic ds => obtain ⟨xs, e1, _⟩ := q; rw [e] at e1; cases e1
  | dit ds => obtain ⟨xs, e1, _⟩ := q; rw [e] at e1; cases e1
  | lck ds => obtain ⟨o, xs, e1, _⟩ := q; rw [e] at e1; cases e1
  | ins c ds => obtain ⟨_, _, xs, _, e1, _⟩ := q; rw [e] at e1; cases e1
theorem ExRep.ext {K : PySem.W.Frag} {ρ ρ' : Nat → Addr} {H H' : Hp} {st : Sto} {n' : Nat} (s : SRep K ca ρ H st) (x : Ext ρ st.length H ρ' n' H') (r : ExRep K ca ρ st.length H fs d) : ExRep K ca ρ' n' H' fs d := by
  rcases r with r | ⟨dd, ws, h1, h2, h3⟩
  · exact .inl r
  · exact .inr ⟨dd, ws, h1, x.keep dd _ h2 (fun _ => nofun) (xd_off s h2), h3.ext x⟩
/-- an expression is walked first -/
theorem atX_of {K : PySem.W.Frag} {ρ : Nat → Addr} {st : Sto} {τ : Ti} {σ : L2.St} {H : Hp} {α β : Type} {f : Ti → Sto → R α} {F : α → (Nat → Addr) → Sto → Hp → Prop} {G : β → (Nat → Addr) → Sto → Hp → Prop} {k : α → Sto → R β} (sl1 : Slots K ca ρ st.length H τ σ)
    (hs : ∀ i, sl = some i → i < σ.length → σ[i]? = some (some (.ref a))) (s : SRep K ca ρ H st) (r : ExRep K ca ρ st.length H fs d) (h : Post K ca W0 ρ st.length H ((f τ st).bind k) G)
    (g : ∀ a ρ1 st1 H1, Ext ρ st.length H ρ1 st1.length H1 → Slots K ca ρ1 st1.length H1 τ σ → SRep K ca ρ1 H1 st1 → ExRep K ca ρ1 st1.length H1 fs d → Post K ca W0 ρ1 st1.length H1 (k a st1) G → F a ρ1 st1 H1) : AtX K ca sl a fs d f σ H F :=
  ⟨ρ, st, τ, sl1, hs, s, r, (Post.bind h).mono fun a ρ1 st1 H1 x s1 q => g a ρ1 st1 H1 x (sl1.ext x) s1 (r.ext s x) q.2.2⟩
variable {pn : List (Addr × Obj)} {o : Obj} {cls : Value}
/-- the suite's context -/
abbrev XS (X : Cx) (a : Addr) (o : Obj) (pn : List (Addr × Obj)) : Cx := X.suite a ((a, o) :: pn)
theorem jx_of (h : JE (XS X a o pn) ca W0 e f) : PE (XS X a o pn) e (tX X.K ca sl a fs d f) := pe_imp h fun σ H Q ⟨ρ, st, τ, h1, _, s, _, h⟩ => ⟨ρ, st, τ, h1, s, h⟩
def fX (fs : List (Str × D)) (n : Str) : FE := fun _ st => match fs.lookup n with
  | some d => .ok d st
  | none => .bad
/-- e.n, e the name of what was caught -/
theorem jx_fld {C : Addr} {i : Nat} {x n : Str} {p : Pos} (T : XfC X.K C) (hno : PySem.W.findIn X.K (.ref C) n = some none) (hz : Zc (.ref C) d o) (hf : ∃ vs, o.data = .fields vs) (hsl : sl = some i) (hi : X.N[i]? = some x) (hv : Vis X.env.scope x)
    (hd : (x == ("__debug__" : Str)) = false := by decide) (hcd : (x == ("__classdict__" : Str)) = false := by decide) (hb : attributeBase (.Name x p) n X.env (eval (.Name x p) X.env) = eval (.Name x p) X.env := by rfl) :
    PE (XS X a o pn) (.Attribute (.Name x p) n pos) (tX X.K ca sl a fs d (fX fs n)) := by
  refine ⟨fun pins s σ H Q I h => (pe_xf (cls := .ref C) T hno hz hf (pe_var (i := i) (X := X.suite a ((a, o) :: pn)) hi hv hd hcd) hb).run pins s σ H Q I ?_⟩
  obtain ⟨ρ, st, τ, _, h2, sr, r, h⟩ := h
  have li : i < σ.length := by
    rw [I.len]; exact (List.getElem?_eq_some_iff.mp hi).1
  refine ⟨_, h2 i hsl li, rfl, rfl, ?_⟩
  unfold fX at h
  cases q : fs.lookup n with
  | none => rw [q] at h; exact h.elim
  | some y =>
    rw [q] at h
    rcases r with r | ⟨dd, ws, e1, e2, rk⟩
    · subst r; cases q
    · rcases rk.lookup (y := n) with ⟨l1, _⟩ | ⟨y', v, l1, l2, rv⟩
      · rw [q] at l1; cases l1
      · rw [q] at l1; cases l1
        exact ⟨dd, ws, v, e1, e2, l2, h.here sr v rv⟩
theorem ax_nil : PA (XS X a o pn) [] (tXA X.K ca sl a fs d aNil) := pa_imp pa_nil fun σ H Q ⟨ρ, st, τ, _, _, s, _, h⟩ => h.here s [] Reps.nil
theorem ax_cons (he : PE (XS X a o pn) e (tX X.K ca sl a fs d f)) (hr : PA (XS X a o pn) es (tXA X.K ca sl a fs d g)) (hs : starEach (e :: es) X.env = (false, eval e X.env) :: starEach es X.env := by rfl) :
    PA (XS X a o pn) (e :: es) (tXA X.K ca sl a fs d (aCons f g)) :=
  pa_imp (pa_cons he hr hs) fun σ H Q ⟨ρ, st, τ, h1, h2, s, r, h⟩ => atX_of h1 h2 s r h fun d1 ρ1 st1 H1 x1 sl1 s1 r1 h3 v rv => atX_of sl1 h2 s1 r1 h3 fun ds ρ2 st2 H2 x2 sl2 s2 r2 h4 vs rs => h4.here s2 (v :: vs) (Reps.cons (rv.ext x2) rs)
theorem jx_tup {x1} (ha : PA (XS X a o pn) es (tXA X.K ca sl a fs d g)) : PE (XS X a o pn) (.Tuple es x1 pos) (tX X.K ca sl a fs d (fTup g)) :=
  pe_imp (pe_tup ha) fun σ H Q ⟨ρ, st, τ, h1, h2, s, r, h⟩ => atX_of h1 h2 s r h fun ds ρ1 st1 H1 x1 sl1 s1 r1 h3 vs rs => by
    by_cases z : ds.length ≤ sizeLine
    · rw [if_pos z] at h3
      exact ⟨by rw [rs.length]; exact z, fun p hp => h3 _ ρ1 (Ext.upd_new s1 hp) (s1.upd_new hp) _ (rep_tup_new s1 hp rs)⟩
    · rw [if_neg z] at h3; exact h3.elim
theorem jx_lv (ha : PA (XS X a o pn) es (tXA X.K ca sl a fs d g)) : PE (XS X a o pn) (.List es pos) (tX X.K ca sl a fs d (fLv g)) :=
  pe_imp (pe_lst ha) fun σ H Q ⟨ρ, st, τ, h1, h2, s, r, h⟩ => atX_of h1 h2 s r h fun ds ρ1 st1 H1 x1 sl1 s1 r1 h3 vs rs => by
    by_cases z : ds.length ≤ sizeLine
    · rw [if_pos z] at h3
      exact ⟨by rw [rs.length]; exact z, fun p hp => h3 _ ρ1 (Ext.upd_new s1 hp) (s1.upd_new hp) _ (rep_lv_new s1 hp rs)⟩
    · rw [if_neg z] at h3; exact h3.elim
theorem sx_ret (he : PE (XS X a o pn) e (tX X.K ca sl a fs d f)) : PSs (XS X a o pn) [.Return (some e) pos] (tXS X.K ca sl a fs d (sRet f)) :=
  pss_one (ps_imp (ps_ret he) fun Dn σ H ⟨ρ, st, τ, h1, h2, s, r, h⟩ => atX_of h1 h2 s r h fun y ρ1 st1 H1 x1 sl1 s1 r1 h3 v rv => h3.here s1 v rv)
theorem sx_of {ss : List Stmt} {u : FS} (h : JSs (XS X a o pn) ca W0 ss u) : PSs (XS X a o pn) ss (tXS X.K ca sl a fs d u) := pss_imp h fun Dn σ H ⟨ρ, st, τ, h1, _, s, _, h⟩ => ⟨ρ, st, τ, h1, s, h⟩
end
/-! ### try -/
/-- a clause's class takes the classes of a list and lets those of another by -/
def Hit (K : PySem.W.Frag) (cf : CF) (c : Value) (yes no : List Str) : Prop := (∀ x ∈ yes, ∀ C, cf x = some C → PySem.W.exmOne K (.ref C) c = some true) ∧ ∀ x ∈ no, ∀ C, cf x = some C → PySem.W.exmOne K (.ref C) c = some false
def SuJ (X : Cx) (ca : CA) (h : Hd) (bs : List Stmt) : Prop := ∀ (x : Str), x ∈ h.yes → ∀ (C : Addr), ca.f x = some C → ∀ (fs : List (Str × D)) (a : Addr) (o : Obj) (d : Option Addr) (pn : List (Addr × Obj)), Zc (.ref C) d o → (∃ fv, o.data = .fields fv) →
  PSs (XS X a o pn) bs (tXS X.K ca h.sl a fs d (h.su x fs))
inductive HdsJ (X : Cx) (ca : CA) : List ExceptHandler → List Hd → Prop
  | nil : HdsJ X ca [] []
  | plain {x : Str} {c : Value} {h : Hd} {b1 : Stmt} {bs : List Stmt} {np po : Pos} {hs : List ExceptHandler} {l : List Hd} (hc : Names X x c) (hh : Hit X.K ca.f c h.yes h.no) (hsl : h.sl = none) (su : SuJ X ca h (b1 :: bs)) (r : HdsJ X ca hs l) :
      HdsJ X ca (.ExceptHandler (some (.Name x np)) none (b1 :: bs) po :: hs) (h :: l)
  | named {x n : Str} {i : Nat} {c : Value} {h : Hd} {b1 : Stmt} {bs : List Stmt} {np po : Pos} {hs : List ExceptHandler} {l : List Hd} (hc : Names X x c) (hh : Hit X.K ca.f c h.yes h.no) (hsl : h.sl = some i) (hi : X.N[i]? = some n)
      (hl : X.env.kindOf n = some .local) (su : SuJ X ca h (b1 :: bs)) (r : HdsJ X ca hs l) : HdsJ X ca (.ExceptHandler (some (.Name x np)) (some n) (b1 :: bs) po :: hs) (h :: l)
/-- what a clause's suite does -/
def tSu (K : PySem.W.Frag) (ca : CA) (h : Hd) : Addr → Value → Option Addr → TS := fun a cls d Dn σ H => ∃ x C fs, x ∈ h.yes ∧ ca.f x = some C ∧ cls = .ref C ∧ tXS K ca h.sl a fs d (h.su x fs) Dn σ H
section
variable {X : Cx} {ca : CA} {W : WX} {body : List Stmt} {h1 : ExceptHandler} {hs : List ExceptHandler} {u : FS} {l : List Hd} {pos : Pos}
theorem suOk_of {h : Hd} {bs : List Stmt} (su : SuJ X ca h bs) : SuOk X bs (tSu X.K ca h) := fun a o cls d pn hz hf => by
  refine ⟨fun pins s σ H D I q => ?_⟩
  obtain ⟨x, C, fs, hx, hC, rfl, q⟩ := q
  exact (su x hx C hC fs a o d pn hz hf).run pins s σ H D I q
theorem slots_put {K : PySem.W.Frag} {ρ : Nat → Addr} {n : Nat} {H : Hp} {τ : Ti} {σ : L2.St} {sl : Option Nat} {v : Option V} (h : Slots K ca ρ n H τ σ) : Slots K ca ρ n H (clr sl τ) (putSl sl v σ) := by
  cases sl with
  | none => exact h
  | some i =>
    refine ⟨by simp [clr, putSl, h.1], fun j e q => ?_⟩
    have hj : j ≠ i := fun z => by
      subst z
      by_cases hl : j < τ.length
      · rw [show clr (some j) τ = τ.set j none from rfl, List.getElem?_set_self hl] at q; cases q
      · have := (List.getElem?_eq_some_iff.mp q).1
        rw [show clr (some j) τ = τ.set j none from rfl, List.length_set] at this
        exact hl this
    rw [show clr (some i) τ = τ.set i none from rfl, List.getElem?_set_ne (Ne.symm hj)] at q
    obtain ⟨v, e', r⟩ := h.2 j e q
    exact ⟨v, by rw [show putSl (some i) _ σ = σ.set i _ from rfl, List.getElem?_set_ne (Ne.symm hj)]; exact e', r⟩
theorem hds_cl (hh : HdsJ X ca hs l) : ∃ cl : List Cl, ClOk X hs cl ∧ ∀ (Dn : Ends) (c : Str) (C : Addr) (fs : List (Str × D)) (τ : Ti) (st : Sto) (σ : L2.St) (dx : Option Addr) (H : Hp) (ρ : Nat → Addr), ca.f c = some C → Slots X.K ca ρ st.length H τ σ →
    ExRep X.K ca ρ st.length H fs dx → SRep X.K ca ρ H st → Post X.K ca W ρ st.length H (hRun l c fs τ st) (KS X.K ca Dn) → wCl X.K W Dn cl (.ref C) dx σ H := by
  have step : ∀ {h : Hd} {r : List Hd} {cl : List Cl} {cv : Value}, Hit X.K ca.f cv h.yes h.no →
      (∀ (Dn : Ends) (c : Str) (C : Addr) (fs : List (Str × D)) (τ : Ti) (st : Sto) (σ : L2.St) (dx : Option Addr) (H : Hp) (ρ : Nat → Addr), ca.f c = some C → Slots X.K ca ρ st.length H τ σ →
        ExRep X.K ca ρ st.length H fs dx → SRep X.K ca ρ H st → Post X.K ca W ρ st.length H (hRun r c fs τ st) (KS X.K ca Dn) → wCl X.K W Dn cl (.ref C) dx σ H) →
      ∀ (Dn : Ends) (c : Str) (C : Addr) (fs : List (Str × D)) (τ : Ti) (st : Sto) (σ : L2.St) (dx : Option Addr) (H : Hp) (ρ : Nat → Addr), ca.f c = some C → Slots X.K ca ρ st.length H τ σ →
        ExRep X.K ca ρ st.length H fs dx → SRep X.K ca ρ H st → Post X.K ca W ρ st.length H (hRun (h :: r) c fs τ st) (KS X.K ca Dn) → wCl X.K W Dn (⟨cv, h.sl, tSu X.K ca h⟩ :: cl) (.ref C) dx σ H := by
    intro h r cl cv hit ih Dn c C fs τ st σ dx H ρ hc sl ex s q
    unfold hRun at q
    by_cases y : h.yes.contains c = true
    · rw [if_pos y] at q
      have mem : c ∈ h.yes := List.contains_iff_mem.mp y
      refine ⟨true, hit.1 c mem C hc, fun _ a na => ⟨c, C, fs, mem, hc, rfl, ρ, st, clr h.sl τ, slots_put sl, fun i e li => ?_, s, ex, ?_⟩, fun z => by cases z⟩
      · show (putSl h.sl (some (.ref a)) σ)[i]? = _
        rw [e]
        have li' : i < σ.length := by
          have li2 : i < (putSl h.sl (some (V.ref a)) σ).length := li
          rw [e] at li2
          simpa [putSl] using li2
        exact List.getElem?_set_self li'
      · cases z : h.su c fs (clr h.sl τ) st with
        | bad => rw [z] at q; exact q.elim
        | ex c' f' τ' s' => rw [z] at q; exact q.elim
        | ok o st1 =>
          rw [z] at q
          intro H' ρ' x s1
          have q1 := q H' ρ' x s1
          cases o with
          | rt d => exact q1
          | nx τ' => exact fun σ1 sl1 => q1 _ (slots_put sl1)
          | bk τ' => exact fun σ1 sl1 => q1 _ (slots_put sl1)
          | ct τ' => exact fun σ1 sl1 => q1 _ (slots_put sl1)
    · rw [if_neg y] at q
      by_cases n : h.no.contains c = true
      · rw [if_pos n] at q
        exact ⟨false, hit.2 c (List.contains_iff_mem.mp n) C hc, (fun z => nomatch z), fun _ => ih Dn c C fs τ st σ dx H ρ hc sl ex s q⟩
      · rw [if_neg n] at q; exact q.elim
  induction hh with
  | nil => exact ⟨[], .nil, fun Dn c C fs τ st σ dx H ρ hc sl ex s q => q C σ dx H ρ hc (Ext.refl _ _ _) sl ex s⟩
  | plain hc hit hsl su r ih =>
    obtain ⟨cl, h1, h2⟩ := ih
    refine ⟨_, ?_, step hit h2⟩
    rw [hsl]
    exact .plain hc (suOk_of su) h1
  | named hc hit hsl hi hl su r ih =>
    obtain ⟨cl, h1, h2⟩ := ih
    refine ⟨_, ?_, step hit h2⟩
    rw [hsl]
    exact .named hc hi hl (suOk_of su) h1
theorem js_try (hN : X.N.Nodup) (hst : X.stack = X.env :: X.outer) (hf : X.env.frame = some X.env.locals) (tk : Takes X W)
    (hb : ∀ (W : WX) (pn : List (Addr × Obj)) (xe : Value → Shared → Prop), Takes (X.tr pn xe) W → PassesOwn (model X.prog X.w) X.A X.env xe → JSs (X.tr pn xe) ca W body u)
    (hh : HdsJ X ca (h1 :: hs) l) : JS X ca W (.Try body (h1 :: hs) [] [] pos) (sTry u l) := by
  obtain ⟨cl, k1, k2⟩ := hds_cl (W := W) hh
  refine ps_imp (ps_clauses (tb := fun W => tDS X.K ca W u) hN hst hf tk hb k1) fun Dn σ H ⟨ρ, st, τ, sl, s, h⟩ => ⟨ρ, st, τ, sl, s, ?_⟩
  unfold sTry at h
  cases q : u τ st with
  | bad => rw [q] at h; exact h
  | ok o st1 => rw [q] at h; exact h
  | ex c fs τ1 st1 =>
    rw [q] at h
    exact fun C σ1 dx H1 ρ1 hc x sl1 ex s1 => k2 Dn c C fs τ1 st1 σ1 dx H1 ρ1 hc sl1 ex s1 (Post.pre x h)
end
end DL
set_option Elab.async false
set_option linter.all false
set_option maxRecDepth 100000
set_option maxHeartbeats 4000000
namespace DL
open PySem PySem.Spec PyProof.Rows L2 LamX
/-! facts of the head for one's own exceptions -/
/-- an __init__ in a class that says super() -/
structure ClI where
  c : Str
  qual : Str
  params : Arguments
  body : List Stmt
  scope : Scope
abbrev FnE : Type := Option (Str × Str × Arguments × FuncBody × Scope × Addr × List Str × Addr)
def ClI.ad (K : PySem.W.Frag) (d : ClI) : Addr := He.fAd K (d.c, some "__init__")
def fnE (K : PySem.W.Frag) (d : ClI) : FnE := match K.lookup (d.ad K) with
  | some ⟨_, _, .func z, _⟩ => some (z.name, z.qualname, z.params, z.body, z.scope, z.globals, z.closure.map (·.1), z.builtins)
  | _ => none
def ClI.val (d : ClI) : FnE := some ("__init__", d.qual, d.params, .stmts d.body, d.scope, mainGlobals, ["__class__"], builtinsNs)
def fileB (F : Str) (K : PySem.W.Frag) (a : Addr) : Bool := match K.lookup a with
  | some ⟨_, _, .fields vs, _⟩ => (match (vs[2]? : Option Value) with
    | some (Value.str x _) => F == x
    | _ => false)
  | _ => false
def cellB (K : PySem.W.Frag) (a C : Addr) : Bool := match K.lookup a with
  | some ⟨_, _, .cell (some (.ref D)), _⟩ => D == C
  | _ => false
def noneB : Value → Bool
  | .none => true
  | _ => false
def ClI.ok (F : Str) (K : PySem.W.Frag) (d : ClI) : Bool := match K.lookup (d.ad K) with
  | some ⟨_, _, .func z, _⟩ => (match z.closure, z.code with
    | [(_, cc)], .ref a => cellB K cc (He.ga K d.c) && (PySem.W.codeIn K z.code d.qual && (fileB F K a && noneB z.defaults))
    | _, _ => false)
  | _ => false
section
variable {K : PySem.W.Frag} {C : Addr}
theorem bb {a b : Bool} (h : (a && b) = true) : a = true ∧ b = true := Bool.and_eq_true_iff.mp h
theorem fileB_ok {F : Str} {a : Addr} (h : fileB F K a = true) : ∃ c d s vs x t, K.lookup a = some ⟨c, d, .fields vs, s⟩ ∧ vs[2]? = some (.str x t) ∧ (F == x) = true := by
  unfold fileB at h
  split at h
  · rename_i c d vs s q
    split at h
    · rename_i x t z
      exact ⟨c, d, s, vs, x, t, q, z, h⟩
    · cases h
  · cases h
theorem cellB_ok {a : Addr} (h : cellB K a C = true) : ∃ c d s, K.lookup a = some ⟨c, d, .cell (some (.ref C)), s⟩ := by
  unfold cellB at h
  split at h
  · rename_i c d D s q
    cases beq_iff_eq.mp h
    exact ⟨c, d, s, q⟩
  · cases h
theorem fn_ok {F : Str} {d : ClI} (e : fnE K d = d.val) (h : d.ok F K = true) : ∃ (oc : Value) (od : Option Addr) (kV doc pm ct : Value) (an : Option Addr) (cda cc : Addr) (osl : Array (Option Value)),
    K.lookup (d.ad K) = some ⟨oc, od, .func (PySem.W.ksFn "__init__" d.qual d.params d.body d.scope .none kV doc pm an (.ref cda) ct cc), osl⟩ ∧ cellB K cc (He.ga K d.c) = true ∧ PySem.W.codeIn K (.ref cda) d.qual = true ∧ fileB F K cda = true := by
  unfold fnE at e
  unfold ClI.ok at h
  split at h
  · rename_i oc od z osl q
    rw [q] at e
    obtain ⟨n1, n2, n3, n4, n5, n6, n7, n8, n9, n10, n11, n12, n13, n14, n15⟩ := z
    dsimp only at h e
    split at h
    · rename_i _ _ x cc cda
      have e2 := Option.some.inj (show _ = some _ from e)
      simp only [Prod.mk.injEq] at e2
      obtain ⟨rfl, rfl, rfl, rfl, rfl, rfl, e7, rfl⟩ := e2
      obtain ⟨h1, h⟩ := bb h
      obtain ⟨h2, h⟩ := bb h
      obtain ⟨h3, h4⟩ := bb h
      have ex : x = "__class__" := by
        simp only [List.map_cons, List.map_nil, List.cons.injEq, and_true] at e7
        exact e7
      subst ex
      cases n8 with
      | none => exact ⟨oc, od, _, _, _, _, _, cda, cc, osl, q, h1, h2, h3⟩
      | _ => cases h4
    · cases h
  · cases h
def oexB (K : PySem.W.Frag) (C : Addr) : Bool := (match K.lookup C with
  | some ⟨.type t, _, .cls cd, sl⟩ => (match cd.mro, sl.toList with
    | .ref C' :: bm, [_, _, _, _, some (.builtin n), _] => t == "type" && (C' == C && (n == "ValueError.__new__" && (!cd.hasDel && (cd.hasDict && PySem.HandSPX.refsVE bm))))
    | _, _ => false)
  | _ => false) && (decide (PySem.W.findIn K (.ref C) "__setattr__" = some (some (.builtin "object.__setattr__"))) && (decide (PySem.W.subIn K (.ref C) (.type "BaseException") = some true) &&
    (decide (PySem.W.typeIn K (.ref C) = some (.type "type")) && PySem.W.keepIn K (.ref C))))
theorem oexB_ok (h : oexB K C = true) : OexC K C := by
  obtain ⟨h0, h⟩ := bb h
  obtain ⟨h1, h⟩ := bb h
  obtain ⟨h2, h⟩ := bb h
  obtain ⟨h3, h4⟩ := bb h
  refine ⟨?_, of_decide_eq_true h1, of_decide_eq_true h2, of_decide_eq_true h3, h4⟩
  split at h0
  · rename_i t dd cd sl q
    split at h0
    · rename_i C' bm k0 k1 k2 k3 n k5 hm hs
      obtain ⟨a1, h0⟩ := bb h0
      obtain ⟨a2, h0⟩ := bb h0
      obtain ⟨a3, h0⟩ := bb h0
      obtain ⟨a4, h0⟩ := bb h0
      obtain ⟨a5, a6⟩ := bb h0
      obtain ⟨z1, z2, z3, z4, z5, z6, z7, z8, z9, z10, z11⟩ := cd
      dsimp only at hm a4 a5
      cases beq_iff_eq.mp a1
      cases beq_iff_eq.mp a2
      cases beq_iff_eq.mp a3
      have a4' : z11 = false := by simpa using a4
      subst hm a4' a5
      obtain ⟨l⟩ := sl
      dsimp only at hs
      subst hs
      exact ⟨_, _, _, _, _, _, _, _, _, _, _, _, _, _, _, q, a6⟩
    · cases h0
  · cases h0
def supB (K : PySem.W.Frag) (C : Addr) : Bool := oexB K C && (decide (PySem.W.mroIn K C (.ref C) = some true) && (decide (PySem.W.ks_superIn K C C "__init__" = some (some (.builtin "ValueError.__init__"))) &&
  (decide (PySem.W.subIn K (.ref C) (.type "ValueError") = some true) && decide (PySem.W.nsIn K cStatics "thirdparty.any" = some none))))
theorem supB_ok (h : supB K C = true) : SupC K C C := by
  obtain ⟨h0, h⟩ := bb h
  obtain ⟨h1, h⟩ := bb h
  obtain ⟨h2, h⟩ := bb h
  obtain ⟨h3, h4⟩ := bb h
  exact ⟨oexB_ok h0, of_decide_eq_true h1, of_decide_eq_true h2, of_decide_eq_true h3, of_decide_eq_true h4⟩
theorem oex_cls (T : OexC K C) : ∃ cd, PySem.W.clsIn K C = some cd := by
  obtain ⟨nm, q, N, bs, bm, sn, sub, ab, col, dd, k0, k1, k2, k3, k5, hC, _⟩ := T.cls
  exact ⟨_, by unfold PySem.W.clsIn; rw [hC] <;> rfl⟩
/-- all of it -/
def excB (F : Str) (K : PySem.W.Frag) (d : ClI) (fs : List Str) : Bool := supB K (He.ga K d.c) && (d.ok F K && (decide (PySem.W.findIn K (.ref (He.ga K d.c)) "__init__" = some (some (.ref (d.ad K)))) &&
  (decide (PySem.W.typeIn K (.ref (d.ad K)) = some (.type "function")) && fs.all fun f => decide (PySem.W.findIn K (.ref (He.ga K d.c)) f = some none))))
/-- .. of a class without own __init__ -/
def excB0 (K : PySem.W.Frag) (C : Addr) : Bool := PySem.W.excIn K C [.type "ValueError", .type "Exception", .type "BaseException", .type "object"] "ValueError.__new__" && (PySem.W.keepIn K (.ref C) && (decide (PySem.W.subIn K (.ref C) (.type "BaseException") = some true) && decide (PySem.W.typeIn K (.ref C) = some (.type "type"))))
theorem excO_of {mg : Str → Option Value} {tb : List (Addr × Str)} {c : Str} (g : mg c = some (.ref (He.ga K c))) (h : excB0 K (He.ga K c) = true) : ExcO K mg (cfOf K tb) c := by
  obtain ⟨h0, h⟩ := bb h
  obtain ⟨h1, h⟩ := bb h
  obtain ⟨h2, h3⟩ := bb h
  exact ⟨_, rfl, g, h0, h1, of_decide_eq_true h2, of_decide_eq_true h3⟩
def hitB (K : PySem.W.Frag) (c : Value) (yes no : List Str) : Bool := (yes.all fun x => decide (PySem.W.exmOne K (.ref (He.ga K x)) c = some true)) && no.all fun x => decide (PySem.W.exmOne K (.ref (He.ga K x)) c = some false)
theorem hit_of {tb : List (Addr × Str)} {c : Value} {yes no : List Str} (h : hitB K c yes no = true) : Hit K (cfOf K tb) c yes no := by
  obtain ⟨h1, h2⟩ := bb h
  exact ⟨fun x hx C hC => by cases hC; exact of_decide_eq_true (List.all_eq_true.mp h1 x hx), fun x hx C hC => by cases hC; exact of_decide_eq_true (List.all_eq_true.mp h2 x hx)⟩
end
section
variable {P : Program} {w : World} {K : PySem.W.Frag} {mg : Str → Option Value} {base : Heap} {tb : List (Addr × Str)} {d : ClI} {ps : List Str} {e : Expr} {rest : List Stmt} {p0 p1 p2 p3 p4 : Pos} {fe : FE} {fl : List (Str × Nat)} {n : Nat} {pl : Sem Bool}
theorem tD_mono {ca : CA} {W : WX} {f : FE} {σ : L2.St} {H : Hp} {Q Q' : VK} (h : tD K ca W f σ H Q) (i : ∀ y H1, Q y H1 → Q' y H1) : tD K ca W f σ H Q' := by
  obtain ⟨ρ, st, τ, sl, s, h⟩ := h
  exact ⟨ρ, st, τ, sl, s, h.mono fun a ρ' st' H' _ _ q v r => i _ _ (q v r)⟩
theorem excG_of (ev : fnE K d = d.val) (b : excB P.main.file K d (fl.map (·.1)) = true) (g : mg d.c = some (.ref (He.ga K d.c))) (hs : mg "super" = none) (ht : (P.main.scope.names.lookup ("super" : Str)).isSome = false)
    (S : IniS ("self" :: ps) d.scope) (hn : ps.length = n) (hpar : (d.params.posonlyargs ++ d.params.args).head?.map (·.arg) = some "self")
    (hbody : d.body = .Expr (.Call (.Attribute (.Call (.Name "super" p0) [] [] p1) "__init__" p2) [e] [] p3) p4 :: rest)
    (hb : ∀ (kV doc pm : Value) (an : Option Addr) (cdv ct : Value) (cc : Addr) (us : List Value), us.length = (("self" : Str) :: ps).length → bindArgs (PySem.W.ksFn "__init__" d.qual d.params d.body d.scope .none kV doc pm an cdv ct cc) ⟨us, []⟩ = pure ((("self" : Str) :: ps).zip us))
    (hJ : ∀ (rv : List Addr) (f cda cc : Addr) (A : Around) (outer : List Env) (s : Shared) (H : Hp) (E : XK), JE (iniCx CX0 P w K mg base ("self" :: ps) d.qual d.scope f (.ref cda) cc A outer s H E) ⟨cfOf K tb, rv⟩ W0 e fe ∧
      PSs (iniCx CX0 P w K mg base ("self" :: ps) d.qual d.scope f (.ref cda) cc A outer s H E) rest (tFl K fl))
    (he : ∀ env : Env, starEach [e] env = (false, eval e env) :: starEach [] env) (hpl : ∀ env : Env, (backTo p3 (starEach [] env)).any (·.1) = false) (hsw : ∀ env : Env, swapsWith (.Call (.Attribute (.Call (.Name "super" p0) [] [] p1) "__init__" p2) [e] [] p3) none p4.line env = pure false)
    (hev : ∀ env : Env, eval (.Call (.Attribute (.Call (.Name "super" p0) [] [] p1) "__init__" p2) [e] [] p3) env = (do
      let ov ← attributeBase (.Call (.Name "super" p0) [] [] p1) "__init__" env (eval (.Call (.Name "super" p0) [] [] p1) env)
      standAt p2.atName
      let (f, first) ← holding [ov] (getMethod ov "__init__" pl)
      callWith p3 f first (backTo p3 (starEach [e] env)) [])) :
    ExcG P w K mg base (cfOf K tb) d.c n fe fl := by
  obtain ⟨b1, b⟩ := bb b
  obtain ⟨b2, b⟩ := bb b
  obtain ⟨b3, b⟩ := bb b
  obtain ⟨b4, b5⟩ := bb b
  have T := supB_ok b1
  obtain ⟨oc, od, kV, doc, pm, ct, an, cda, cc, osl, lk, k1, k2, k3⟩ := fn_ok ev b2
  have hF : SupF P K mg (d.ad K) d.qual d.params d.body d.scope (PySem.W.ksFn "__init__" d.qual d.params d.body d.scope .none kV doc pm an (.ref cda) ct cc) cda cc (He.ga K d.c) :=
    ⟨⟨_, _, _, _, _, _, rfl⟩, ⟨_, _, _, lk⟩, k2, fileB_ok k3, cellB_ok k1, oex_cls T.oex, hs, ht, hpar⟩
  refine ⟨He.ga K d.c, d.ad K, _, ps, rfl, g, T.oex, of_decide_eq_true b3, of_decide_eq_true b4, Binds.all fun us hl => hb kV doc pm an (.ref cda) ct cc us hl, hn, fun q hq => ?_, fun rv => ?_⟩
  · exact of_decide_eq_true (List.all_eq_true.mp b5 q.1 (List.mem_map_of_mem hq))
  · rw [hbody] at hF
    refine FnOk.imp (show FnOk P w K mg base CX0 (10 + 1) (d.ad K) _ ("self" :: ps) _ from ?_) fun vs H Q E q => q
    rw [hbody]
    subst hn
    exact fn_super hF S T (te := tD K ⟨cfOf K tb, rv⟩ W0 fe) (t := tFl K fl) (fun h i => tD_mono h i) (fun A outer s H E _ => hJ rv _ _ _ A outer s H E) he hpl hsw hev
end
/-! ### a module's tuple of constants -/
theorem reps_dv {K : PySem.W.Frag} {tb : List (Addr × Str)} : ∀ {vs : List He.Dv}, vs.all dvOk = true → ∀ (rv : List Addr) (ρ : Nat → Addr) (n : Nat) (H : Hp), Reps K ⟨cfOf K tb, rv⟩ ρ n H (vs.map dvD) (vs.map (He.Dv.v K))
  | [], _, _, _, _, _ => Reps.nil
  | v :: vs, h, rv, ρ, n, H => by
    obtain ⟨h1, h2⟩ := bb (show (dvOk v && vs.all dvOk) = true from h)
    exact Reps.cons (dvD_rep h1 rv ρ n H) (reps_dv h2 rv ρ n H)
def tupN (K : PySem.W.Frag) (x : Str) : Bool := match K.lookup (He.ga K x) with
  | some ⟨_, none, _, _⟩ => true
  | _ => false
theorem tupN_ok {K : PySem.W.Frag} {x : Str} (h : tupN K x = true) : ∃ o, K.lookup (He.ga K x) = some o ∧ o.dict = none := by
  unfold tupN at h
  split at h
  · rename_i q
    exact ⟨_, q, rfl⟩
  · cases h
theorem constD_tup {K : PySem.W.Frag} {mg : Str → Option Value} {h : Heap} {tb : List (Addr × Str)} {x : Str} {vs : List He.Dv} (g : mg x = some (.ref (He.ga K x))) (q : He.tupB K x vs = true ∧ tupN K x = true) (ho : vs.all dvOk = true) : ConstD K mg (cfOf K tb) x (.ktup (vs.map dvD)) := by
  refine ⟨.ref (He.ga K x), _, g, rfl, fun rv ρ n H => ?_⟩
  have z := He.tupB_ok q.1 (fun _ => none)
  simp only [Rep]
  rcases z with (z | ⟨o, z⟩) | z
  · cases z
  · cases z
  · exact ⟨_, _, rfl, .inr ⟨tupN_ok q.2, z⟩, reps_dv ho rv ρ n H⟩
/-! ### for the printed text -/
theorem Cz.tr {X : Cx} {W W' : WX} {k : Nat} {pn : List (Addr × Obj)} {xe : Value → Shared → Prop} (z : Cz X W k) (tk : Takes (X.tr pn xe) W') : Cz (X.tr pn xe) W' k := ⟨tk, z.hr, z.sl, z.hg, z.hc⟩
theorem suJ1 {X : Cx} {ca : CA} {h : Hd} {bs : List Stmt} {c : Str} {C : Addr} (hy : h.yes = [c]) (hc : ca.f c = some C)
    (hs : ∀ (fs : List (Str × D)) (a : Addr) (o : Obj) (d : Option Addr) (pn : List (Addr × Obj)), Zc (.ref C) d o → (∃ fv, o.data = .fields fv) → PSs (XS X a o pn) bs (tXS X.K ca h.sl a fs d (h.su c fs))) : SuJ X ca h bs := fun y hy2 C2 hC fs a o d pn hz hf => by
  rw [hy] at hy2
  cases List.mem_singleton.mp hy2
  rw [hc] at hC
  cases hC
  exact hs fs a o d pn hz hf
/-- a class of exceptions, as an except clause names it -/
structure XcOk (K : PySem.W.Frag) (mg : Str → Option Value) (x : Str) (cf : CF) (yes no : List Str) : Prop where
  g : mg x = some (.ref (He.ga K x))
  h : Hit K cf (.ref (He.ga K x)) yes no
structure XfOk (K : PySem.W.Frag) (cf : CF) (c f : Str) : Prop where
  a : cf c = some (He.ga K c)
  t : XfC K (He.ga K c)
  n : PySem.W.findIn K (.ref (He.ga K c)) f = some none
def xfldB (K : PySem.W.Frag) (c f : Str) : Bool := xfB K (He.ga K c) && decide (PySem.W.findIn K (.ref (He.ga K c)) f = some none)
theorem xfOk_of {K : PySem.W.Frag} {tb : List (Addr × Str)} {c f : Str} (h : xfldB K c f = true) : XfOk K (cfOf K tb) c f := ⟨rfl, xfB_ok (bb h).1, of_decide_eq_true (bb h).2⟩
/-! ### the Hook -/
def asE (g : Addr → Option Obj) (n : Nat) : List Addr := He.asD g n ++ [cStatics]
abbrev AlE : Type := He.AlX × List FnE
section
variable (n : Nat) (fa : List He.Fa) (fn : List He.DefD) (ts : List He.Tab) (tf : List He.Defn) (ex : PySem.W.Frag → Bool) (cl : List ClI)
structure SaysE (w : World) (h : Heap) (K : PySem.W.Frag) : Prop where
  x : He.SaysX fa fn ts tf ex w h K
  e : ∀ d ∈ cl, fnE K d = d.val
def obsE (g : Addr → Option Obj) : AlE := ((He.obsT fa fn ts (He.frT g (asE g n)), ex (He.frT g (asE g n)) && He.tabsB g tf (He.frT g (asE g n))), cl.map (fnE (He.frT g (asE g n))))
def valE (w : World) : AlE := (He.valX fn ts w, cl.map ClI.val)
end
section
variable {n : Nat} {fa : List He.Fa} {fn : List He.DefD} {ts : List He.Tab} {tf : List He.Defn} {ex : PySem.W.Frag → Bool} {cl : List ClI}
theorem saysE_of {w : World} {h : Heap} (q : obsE n fa fn ts tf ex cl h.get? = valE fn ts cl w) : SaysE fa fn ts tf ex cl w h (He.frT h.get? (asE h.get? n)) := by
  have q1 : He.obsT fa fn ts (He.frT h.get? (asE h.get? n)) = He.valT fn ts w := congrArg (fun z : AlE => z.1.1) q
  have q2 : (ex (He.frT h.get? (asE h.get? n)) && He.tabsB h.get? tf (He.frT h.get? (asE h.get? n))) = true := congrArg (fun z : AlE => z.1.2) q
  have q3 : cl.map (fnE (He.frT h.get? (asE h.get? n))) = cl.map ClI.val := congrArg (fun z : AlE => z.2) q
  obtain ⟨x1, x2⟩ := bb q2
  have tab : ∀ p ∈ tf, PySem.W.codeHdIn (He.frT h.get? (asE h.get? n)) (He.cT (He.frT h.get? (asE h.get? n)) p).1 (He.cT (He.frT h.get? (asE h.get? n)) p).2 = true ∧ ∃ o, h.get? (He.cT (He.frT h.get? (asE h.get? n)) p).2 = some o ∧ He.emptyTab o = true := fun p hp => by
    obtain ⟨y1, y2⟩ := bb (List.all_eq_true.mp x2 p hp)
    refine ⟨y1, ?_⟩
    split at y2
    · rename_i o z
      exact ⟨o, z, y2⟩
    · cases y2
  refine ⟨⟨q1, x1, fun p hp => (tab p hp).1, fun p hp => ?_, fun p hp => ?_⟩, fun d hd => ?_⟩
  · obtain ⟨_, o, z1, z2⟩ := tab p hp
    exact He.frT_none z1 z2
  · obtain ⟨_, o, z1, z2⟩ := tab p hp
    rw [z1, He.emptyTab_eq z2]
  · obtain ⟨i, hi, rfl⟩ := List.mem_iff_getElem.mp hd
    have z := congrArg (fun l : List FnE => l[i]?) q3
    simp only [List.getElem?_map, List.getElem?_eq_getElem hi, Option.map_some, Option.some.injEq] at z
    exact z
def hookE (n : Nat) (fa : List He.Fa) (fn : List He.DefD) (ts : List He.Tab) (tf : List He.Defn) (ex : PySem.W.Frag → Bool) (cl : List ClI) : PySem.W.Hook where
  α := AlE
  obs := fun s => obsE n fa fn ts tf ex cl s.heap.get?
  val := fun w => valE fn ts cl w
  says := fun w h => ∃ K : PySem.W.Frag, K.In h ∧ SaysE fa fn ts tf ex cl w h K
  of := fun _ _ e => ⟨_, He.frT_in, saysE_of e⟩
  keeps := fun _ _ _ ⟨K, hK, c⟩ k => ⟨K, PySem.W.Frag.In.keeps hK k, ⟨⟨c.x.t, c.x.more, c.x.hd, c.x.out, fun p hp => k _ _ (c.x.empty p hp)⟩, c.e⟩⟩
theorem obsE_eq {g : Addr → Option Obj} {s : Shared} (h : ∀ a, g a = s.heap.get? a) : obsE n fa fn ts tf ex cl g = (hookE n fa fn ts tf ex cl).obs s := by
  cases (funext h : g = s.heap.get?)
  rfl
end
end DL
set_option Elab.async false
set_option linter.all false
set_option maxRecDepth 100000
set_option maxHeartbeats 4000000
namespace DL
open PySem PySem.Spec PyProof.Rows L2 LamX
/-! tuples whose object is known (.ktup): a display, a slice; dict(..) of pairs -/
section
variable {X : Cx} {ca : CA} {W : WX} {a e : Expr} {es : List Expr} {f : FE} {h : FA} {pos p : Pos} {x : Str} {t : TA}
theorem frz_laid {pins : List (Addr × Obj)} {σ : L2.St} {H : Hp} {s : Shared} {its : List Value} {xs : List V} {tk : Nat} (I : Inv X pins σ H s) (r : Vals xs its) (z : xs.length ≤ sizeLine) :
    Inv X pins σ (upd H s.heap.objs.size (.frz { cls := .type "tuple", data := .seq its.toArray } (.tup xs))) { s with heap := s.heap.push { cls := .type "tuple", data := .seq its.toArray }, toks := tk } := by
  refine I.laid (fun b u e => Heap.get?_push_of_some _ e) (Nat.le_refl _) ?_
  have at_ : (s.heap.push { cls := .type "tuple", data := .seq its.toArray }).get? s.heap.objs.size = some { cls := .type "tuple", data := .seq its.toArray } := Heap.get?_push_size _ rfl
  exact ⟨at_, z, its, r, ⟨_, at_, rfl, _, rfl⟩⟩
def tTupB (t : TA) : TE := fun σ H Q => t σ H fun xs H1 => xs.length ≤ sizeLine ∧ ∀ (p : Addr) (o : Obj), H1 p = none → o.dict = none → Q (.ref p) (upd H1 p (.frz o (.tup xs)))
theorem pe_tupB {x1} (ht : PA X es t) : PE X (.Tuple es x1 pos) (tTupB t) := by
  refine ⟨fun pins s σ H Q I hq => wpAny_Tuple_spliced (thn (ht.run pos pins s σ H _ I hq) fun us s1 ⟨xs, H1, I1, r, z, q⟩ => ⟨by rw [← r.length]; exact z, ?_⟩)⟩
  exact ⟨.ref s1.heap.objs.size, _, frz_laid (tk := s1.toks) I1 r z, rfl, q _ _ (I1.hok.fresh (Nat.le_refl _)) rfl⟩
theorem rep_ktup {ρ : Nat → Addr} {st : Sto} {H : Hp} {p : Addr} {o : Obj} {ds : List D} {vs : List V} {K : PySem.W.Frag} (s : SRep K ca ρ H st) (hp : H p = none) (ho : o.dict = none) (r : Reps K ca ρ st.length H ds vs) : Rep K ca ρ st.length (upd H p (.frz o (.tup vs))) (.ktup ds) (.ref p) := by
  simp only [Rep]; exact ⟨p, vs, rfl, .inl ⟨o, upd_same, ho⟩, r.ext (Ext.upd_new s hp)⟩
def fTupB (h : FA) : FE := fun τ st => (h τ st).bind fun ds st1 => if ds.length ≤ sizeLine then .ok (.ktup ds) st1 else .bad
theorem je_tupB {x1} (ha : JA X ca W es h) : JE X ca W (.Tuple es x1 pos) (fTupB h) :=
  pe_imp (pe_tupB ha) fun σ H Q ⟨ρ, st, τ, sl, s, h⟩ => at_of sl s h fun ds ρ1 st1 H1 x1 sl1 s1 h1 vs r1 => by
    by_cases z : ds.length ≤ sizeLine
    · rw [if_pos z] at h1
      exact ⟨by rw [r1.length]; exact z, fun p o hp ho => h1 _ ρ1 (Ext.upd_new s1 hp) (s1.upd_new hp) _ (rep_ktup s1 hp ho r1)⟩
    · rw [if_neg z] at h1; exact h1.elim
/-- t[lo:hi] -/
def opSlB (d : D) (lo hi : Option Int) (st : Sto) : R D := match d with
  | .ktup ds => .ok (.ktup (cutD ds lo hi)) st
  | _ => .bad
theorem opSlB_nox (d lo hi st) : NoEx (opSlB d lo hi st) := by unfold opSlB NoEx; intros; (repeat' split) <;> (intro h; cases h)
theorem sl_tupB : SlR X (fun x lo hi H Q => ∃ a xs, x = .ref a ∧ SqT X.K H a xs ∧ (HT.sIx xs.length 0 lo = 0 ∧ HT.sIx xs.length xs.length hi = xs.length → Q (.ref a) H) ∧
    ∀ (p : Addr) (o : Obj), H p = none → o.dict = none → Q (.ref p) (upd H p (.frz o (.tup (cutV xs lo hi))))) := by
  intro pins s σ H x v vl vu lo hi sl Q I rx hs pl pu ⟨a, xs, ex, hx, q1, q2⟩
  subst ex
  cases rx
  obtain ⟨its, r, ht, hz⟩ := I.tuple hx
  have hl : its.toArray.size = xs.length := by rw [List.size_toArray]; exact r.length.symm
  refine ⟨"tuple", _, PyProof.Rows.slot_tuple_getitem.lookup, ht.typeIs, ?_⟩
  by_cases hw : HT.sIx xs.length 0 lo = 0 ∧ HT.sIx xs.length xs.length hi = xs.length
  · exact getItem_tuple_whole ht hs pl pu (hl ▸ hw) ⟨.ref a, H, I, rfl, q1 hw⟩
  · refine HT.getItem_tuple_cut ht hs pl pu (hl ▸ hw) ?_ (hl ▸ hz)
    rw [hl]
    have rc : Vals (cutV xs lo hi) ((its.toArray.toList.drop (HT.sIx xs.length 0 lo)).take (HT.sIx xs.length xs.length hi - HT.sIx xs.length 0 lo)) := (r.drop _).take _
    exact ⟨.ref s.heap.objs.size, _, frz_laid (tk := s.toks) I rc (Nat.le_trans (cutV_length xs lo hi) hz), rfl, q2 _ _ (I.hok.fresh (Nat.le_refl _)) rfl⟩
theorem oSlB : SlR X (fun x lo hi H Q => ∃ ρ st d, Rep X.K ca ρ st.length H d x ∧ SRep X.K ca ρ H st ∧ Post X.K ca (fun _ _ _ _ => False) ρ st.length H (opSlB d lo hi st) (KD X.K ca Q)) := by
  intro pins s σ H x v vl vu lo hi sl Q I rx hs pl pu ⟨ρ, st, d, rd, sr, h⟩
  cases d with
  | ktup ds =>
    have rd0 := rd
    simp only [Rep] at rd
    obtain ⟨p, xs, rfl, hq, rs⟩ := rd
    refine sl_tupB pins s σ H _ v vl vu lo hi sl Q I rx hs pl pu ⟨p, xs, rfl, hq.seq, fun hw => ?_, fun q o hp ho => h _ ρ (Ext.upd_new sr hp) (sr.upd_new hp) _ (rep_ktup sr hp ho (rs.cut lo hi))⟩
    refine h.here sr _ ?_
    simp only [Rep]
    refine ⟨p, xs, rfl, hq, ?_⟩
    have e := rs.cut lo hi
    have ec : cutV xs lo hi = xs := by unfold cutV; rw [hw.1, hw.2]; simp
    rw [ec] at e
    exact e
  | _ => exact h.elim
def fSlB (f : FE) (lo hi : FO) : FE := fun τ st => (f τ st).bind fun d st1 => (lo τ st1).bind fun l st2 => (hi τ st2).bind fun u st3 => opSlB d l u st3
theorem je_slB {lo hi : Option Expr} {fl fh : FO} {p2 : Pos} (ha : JE X ca W a f) (hl : JO X ca W lo fl) (hh : JO X ca W hi fh) : JE X ca W (.Subscript a (.Slice lo hi none p2) pos) (fSlB f fl fh) :=
  pe_imp (pe_slice (oSlB (ca := ca)) ha hl hh) fun σ H Q ⟨ρ, st, τ, sl, s, h⟩ =>
    at_of sl s h fun d ρ1 st1 H1 x1 sl1 s1 h1 v r1 =>
      at_of sl1 s1 h1 fun l ρ2 st2 H2 x2 sl2 s2 h2 =>
        at_of sl2 s2 h2 fun u ρ3 st3 H3 x3 sl3 s3 h3 => ⟨ρ3, st3, d, r1.ext (x2.trans x3), s3, h3.nox (opSlB_nox _ _ _ _)⟩
/-! ### dict(pairs) -/
def pairOf : D → Option (Key × D)
  | .tup [k, v] => (keyOf k).map fun q => (q, v)
  | _ => none
def pairsOf : List D → Option (List (Key × D))
  | [] => some []
  | d :: ds => match pairOf d, pairsOf ds with
    | some q, some r => some (q :: r)
    | _, _ => none
def seqP (st : Sto) : D → Option (List D)
  | .ktup ds => some ds
  | d => listOf st d
def oDictP : Fn := fun ds st => match ds with
  | [d] => match seqP st d with
    | some es => match pairsOf es with
      | some kvs => .ok (.obj st.length) (st ++ [.dic (mergeD [] kvs)])
      | none => .bad
    | none => .bad
  | _ => .bad
theorem oDictP_nox (ds st) : NoEx (oDictP ds st) := by unfold oDictP NoEx; intros; (repeat' split) <;> (intro h; cases h)
section
variable {K : PySem.W.Frag} {ρ : Nat → Addr} {n : Nat} {H : Hp}
theorem pairs_rep : ∀ {ds : List D} {kvs : List (Key × D)} {xs : List V}, pairsOf ds = some kvs → Reps K ca ρ n H ds xs → ∃ (ps : List Addr) (ws : List (Key × V)), xs = ps.map V.ref ∧ Paired (fun p kv => SqT K H p [kV kv.1, kv.2]) ps ws ∧ RepKV K ca ρ n H kvs ws
  | [], kvs, xs, e, r => by
    cases e
    simp only [Reps] at r
    subst r
    exact ⟨[], [], rfl, .nil, by simp only [RepKV]⟩
  | d :: ds, kvs, xs, e, r => by
    simp only [Reps] at r
    obtain ⟨v, vs, rfl, r1, r2⟩ := r
    simp only [pairsOf] at e
    cases e1 : pairOf d with
    | none => rw [e1] at e; cases e
    | some q =>
      cases e2 : pairsOf ds with
      | none => rw [e1, e2] at e; cases e
      | some l =>
        rw [e1, e2] at e
        cases e
        obtain ⟨ps, ws, rfl, h1, h2⟩ := pairs_rep e2 r2
        unfold pairOf at e1
        split at e1
        · rename_i kd vd
          rw [Option.map_eq_some_iff] at e1
          obtain ⟨k, ek, rfl⟩ := e1
          simp only [Rep, Reps] at r1
          obtain ⟨p, ys, rfl, hp, y1, l1, rfl, ry1, y2, l2, rfl, ry2, rfl⟩ := r1
          rw [keyOf_rep ek ry1] at hp
          exact ⟨p :: ps, (k, y2) :: ws, rfl, .cons (SqT.of hp) h1, by simp only [RepKV]; exact ⟨y2, ws, rfl, ry2, h2⟩⟩
        · cases e1
theorem bpairs {pins : List (Addr × Obj)} {σ : L2.St} {s : Shared} (I : Inv X pins σ H s) : ∀ {ps : List Addr} {kvs : List (Key × V)}, Paired (fun p kv => SqT X.K H p [kV kv.1, kv.2]) ps kvs →
    ∃ (us : List (Value × Value)) (prs : List (Key × Value)), KV kvs prs ∧ us.length = ps.length ∧ prs.length = ps.length ∧ ∀ (j : Nat) (k v : Value), us[j]? = some (k, v) → (∃ b, ps[j]? = some b ∧ s.heap.IsTuple b #[k, v]) ∧ ∃ key, prs[j]? = some (key, v) ∧ keyIs key k = true
  | _, _, .nil => ⟨[], [], .nil, rfl, rfl, fun j k v e => by cases e⟩
  | _, _, .cons (a := q) (b := kv) h t => by
    obtain ⟨us, prs, h1, h2, h3, h4⟩ := bpairs I t
    obtain ⟨its, rv, ht, _⟩ := I.tuple h
    obtain ⟨u, y, rfl, ru, ry⟩ := vals2 rv
    refine ⟨(u, y) :: us, (kv.1, y) :: prs, .cons ⟨rfl, ry⟩ h1, by simp [h2], by simp [h3], fun j k v e => ?_⟩
    cases j with
    | zero =>
      cases e
      exact ⟨⟨q, rfl, ht⟩, kv.1, rfl, kV_is (P := X.prog) (w := X.w) ru⟩
    | succ j => simpa using h4 j k v (by simpa using e)
end
theorem call_dictT (hc : X.calm = true) : CallR X (.type "dict") (fun xs H Q => ∃ (a : Addr) (ps : List Addr) (kvs : List (Key × V)), xs = [.ref a] ∧ KTup X.K H a (ps.map V.ref) ∧ Paired (fun p kv => SqT X.K H p [kV kv.1, kv.2]) ps kvs ∧
    ∀ p, H p = none → Q (.ref p) (upd H p (.dK (mergeK [] kvs)))) := by
  intro pins s σ H xs us Q I r ⟨a, ps, kvs, ex, hk, hp, q⟩
  subst ex
  obtain ⟨u, eu, rx⟩ := vals1 r
  subst eu
  cases rx
  obtain ⟨its, rv, ht, hz⟩ := I.tuple hk.seq
  have ei := refs_at rv
  subst ei
  rw [List.length_map] at hz
  obtain ⟨us, prs, rel, l1, l2, hpr⟩ := bpairs I hp
  have plain : PySem.PlainSeq "tuple" s.heap a (ps.map Value.ref).toArray := by
    obtain ⟨o, ho, oc, m, od⟩ := ht
    refine ⟨o, m, ho, oc, ?_, od⟩
    rcases hk with ⟨o2, h2, h3⟩ | ⟨⟨o2, h2, h3⟩, _⟩
    · have z : ObjOk X.prog X.w H s.heap a (.frz o2 (.tup (ps.map V.ref))) := I.hok a _ h2
      have z1 := z.1
      rw [ho] at z1
      cases z1
      exact h3
    · have z1 := I.kIn _ _ h2
      rw [ho] at z1
      cases z1
      exact h3
  have items : PySem.PairItems s.heap (ps.map Value.ref).toArray (fun j => (ps[j]?).getD 0) us := by
    refine ⟨by simp [l1], fun j k v e => ?_⟩
    obtain ⟨⟨b, hb, hb2⟩, _⟩ := hpr j k v e
    refine ⟨?_, ?_⟩
    · simp [hb]
    · simp only [hb, Option.getD_some]
      exact .inl hb2
  refine PySem.call_dict_pairs (knd := mixKind X.prog X.w) (kvs := prs) (PySem.PairArg.tuple a (ps.map Value.ref).toArray (fun j => (ps[j]?).getD 0) us) (I.ok.hd hc) ⟨plain, items⟩ ⟨by rw [l1, l2], fun j k v e => ?_⟩ (by rw [l1]; exact hz) fun h' tk hd' k => ?_
  · obtain ⟨_, key, e1, e2⟩ := hpr j k v e
    exact ⟨key, e1, e2⟩
  · have hm : (s.heap.objs.size == sysModules) = false := beq_eq_false_iff_ne.mpr (Nat.ne_of_gt I.big)
    have hlen : (mergeK [] kvs).length ≤ sizeLine := by
      refine Nat.le_trans (length_mergeK kvs []) ?_
      rw [List.length_nil, Nat.zero_add, rel.length, l2]
      exact hz
    exact ⟨.ref s.heap.objs.size, upd H s.heap.objs.size (.dK (mergeK [] kvs)), I.laid (t' := tk) (fun b o e => k b o (by simp) e) (Nat.le_refl _) (show ObjOk X.prog X.w _ _ _ (.dK (mergeK [] kvs)) from ⟨hlen, hm, merged [] prs, KV.merge rel .nil, hd'⟩), rfl, q _ (I.hok.fresh (Nat.le_refl _))⟩
theorem cr_dictP (hc : X.calm = true) : CallR X (.type "dict") (rDL ca X.K oDictP) := CallR.imp ((call_dictT hc).or (call_dictP hc)) fun xs H Q ⟨ρ, st, ds, rs, s, q⟩ => by
  match ds, rs, q with
  | [], _, q => exact q.elim
  | _ :: _ :: _, _, q => exact q.elim
  | [d], rs, q =>
    obtain ⟨v, rfl, rv⟩ := rs.one
    simp only [oDictP] at q
    cases e : seqP st d with
    | none => simp only [e] at q; exact q.elim
    | some es =>
      simp only [e] at q
      cases e2 : pairsOf es with
      | none => simp only [e2] at q; exact q.elim
      | some kvs =>
        simp only [e2] at q
        have fin : ∀ {ws : List (Key × V)}, RepKV X.K ca ρ st.length H kvs ws → ∀ p, H p = none → Q (.ref p) (upd H p (.dK (mergeK [] ws))) := fun {ws} rk p hp => by
          have x := ext_more (o := .dK (mergeK [] ws)) s hp (MO.dic (mergeD [] kvs))
          refine q _ _ x (s.more hp (kept_new hp) ⟨_, upd_same, ?_⟩) _ (rep_obj_new _)
          have rm : RepKV X.K ca ρ st.length H (mergeD [] kvs) (mergeK [] ws) := repKV_merge _ rk (by simp only [RepKV])
          rw [List.length_append, List.length_singleton] at x
          exact rm.ext x
        cases d with
        | ktup ds =>
          simp only [seqP, Option.some.injEq] at e
          subst e
          simp only [Rep] at rv
          obtain ⟨a, xs, rfl, hk, rr⟩ := rv
          obtain ⟨ps, ws, rfl, h1, h2⟩ := pairs_rep e2 rr
          exact .inl ⟨a, ps, ws, rfl, hk, h1, fin h2⟩
        | _ =>
          obtain ⟨a, xs, rfl, hq, rr⟩ := listOf_rep s (by simpa only [seqP] using e) rv
          obtain ⟨ps, ws, rfl, h1, h2⟩ := pairs_rep e2 rr
          exact .inr ⟨a, ps, ws, rfl, hq, h1, fin h2⟩
/-! ### == where one side is shallow -/
def eqM (st : Sto) (d e : D) : Option Bool := match toPyS st d, toPyS st e with
  | some p, some q => if p.canLay0 = true ∧ q.canLay0 = true ∧ q.depth ≤ 64 then some (PyData.eqv p q) else none
  | _, _ => none
def opEqM (d e : D) (st : Sto) : R D := ofB (eqM st d e) st
def opNeM (d e : D) (st : Sto) : R D := ofB ((eqM st d e).map (!·)) st
theorem opEqM_nox (d e st) : NoEx (opEqM d e st) := by unfold opEqM ofB NoEx; intros; split <;> (intro h; cases h)
theorem opNeM_nox (d e st) : NoEx (opNeM d e st) := by unfold opNeM ofB NoEx; intros; split <;> (intro h; cases h)
theorem eqM_some {st : Sto} {d e : D} {b : Bool} (h : eqM st d e = some b) : ∃ p q, toPyS st d = some p ∧ toPyS st e = some q ∧ p.canLay0 = true ∧ q.canLay0 = true ∧ q.depth ≤ 64 ∧ b = PyData.eqv p q := by
  unfold eqM at h
  split at h
  · rename_i p q h1 h2
    split at h
    · rename_i z
      exact ⟨p, q, h1, h2, z.1, z.2.1, z.2.2, (Option.some.inj h).symm⟩
    · cases h
  · cases h
theorem oEqM (hu : X.A.units + 65 < cLine) : OpR X (compareOp .Eq) (rD2 ca X.K opEqM) := by
  intro pins s σ H x y v u Q I rx ry ⟨ρ, st, d, e, rd, re, sr, h⟩
  unfold opEqM at h
  cases q : eqM st d e with
  | none => rw [q] at h; exact h.elim
  | some b =>
    rw [q] at h
    obtain ⟨p1, p2, e1, e2, c1, c2, dp, rfl⟩ := eqM_some q
    obtain ⟨as, r1⟩ := Dp.reads I p1 x v (dpS_of sr e1 rd) rx
    obtain ⟨bs, r2⟩ := Dp.reads I p2 y u (dpS_of sr e2 re) ry
    have hm : X.A.units + min p1.depth p2.depth < cLine := by have := Nat.min_le_right p1.depth p2.depth; omega
    exact SeqAt.compareEq_reads r1 r2 c1 c2 hm ⟨.bl _, H, I, rfl, h.here sr _ (by simp only [Rep])⟩
theorem oNeM (hu : X.A.units + 65 < cLine) : OpR X (compareOp .NotEq) (rD2 ca X.K opNeM) := by
  intro pins s σ H x y v u Q I rx ry ⟨ρ, st, d, e, rd, re, sr, h⟩
  unfold opNeM at h
  cases q : eqM st d e with
  | none => rw [q] at h; exact h.elim
  | some b =>
    rw [q] at h
    obtain ⟨p1, p2, e1, e2, c1, c2, dp, rfl⟩ := eqM_some q
    obtain ⟨as, r1⟩ := Dp.reads I p1 x v (dpS_of sr e1 rd) rx
    obtain ⟨bs, r2⟩ := Dp.reads I p2 y u (dpS_of sr e2 re) ry
    have hm : X.A.units + min p1.depth p2.depth < cLine := by have := Nat.min_le_right p1.depth p2.depth; omega
    exact SeqAt.compareNe_reads r1 r2 c1 c2 hm ⟨.bl _, H, I, rfl, h.here sr _ (by simp only [Rep])⟩
variable {b : Expr} {g : FE}
theorem je_eqM (hu : Deep X) (ha : JE X ca W a f) (hb : JE X ca W b g) : JE X ca W (.Compare a [.Eq] [b] pos) (fOp opEqM f g) := je_cmp (oEqM hu) opEqM_nox ha hb (nomark _)
theorem je_neM (hu : Deep X) (ha : JE X ca W a f) (hb : JE X ca W b g) : JE X ca W (.Compare a [.NotEq] [b] pos) (fOp opNeM f g) := je_cmp (oNeM hu) opNeM_nox ha hb (nomark _)
theorem jb_eqM (hu : Deep X) (ha : JE X ca W a f) (hb : JE X ca W b g) : JB X ca W (.Compare a [.Eq] [b] pos) (bOf (fOp opEqM f g)) := jb_cmp (oEqM hu) opEqM_nox ha hb (nomark _)
theorem jb_neM (hu : Deep X) (ha : JE X ca W a f) (hb : JE X ca W b g) : JB X ca W (.Compare a [.NotEq] [b] pos) (bOf (fOp opNeM f g)) := jb_cmp (oNeM hu) opNeM_nox ha hb (nomark _)
/-! ### repr, of a bool too -/
def oReprB : Fn := fun ds st => match ds with
  | [.bl b] => .ok (.str (if b = true then "True" else "False")) st
  | ds => oRepr ds st
theorem oReprB_nox (ds st) : NoEx (oReprB ds st) := by
  intro c fs τ st' q
  unfold oReprB at q
  split at q
  · cases q
  · exact oRepr_nox _ _ _ _ _ _ q
theorem oReprB_of {d : D} {st : Sto} {x : Str} (h : oRepr [d] st = .ok (.str x) st) : oReprB [d] st = .ok (.str x) st := by
  cases d with
  | bl b =>
    have e : oRepr [.bl b] st = .bad := by
      unfold oRepr
      simp only [toPyS, toPy, seqOf]
      exact if_neg fun z => Bool.noConfusion z.2.2.2.2
    rw [e] at h
    cases h
  | _ => exact h
theorem call_reprBl : CallR X (.builtin "repr") (fun xs H Q => ∃ b : Bool, xs = [.bl b] ∧ Q (.str (if b = true then "True" else "False")) H) := by
  intro pins s σ H xs us Q I r ⟨b, ex, q⟩
  subst ex
  obtain ⟨u, rfl, ru⟩ := vals1 r
  cases (show u = Value.bool b from ru)
  refine PySem.P.repr_of_bool ?_
  exact ⟨.str (if b = true then "True" else "False"), H, I.tok _, ⟨_, rfl⟩, q⟩
theorem cr_reprB (hg : X.A.guards = some []) (hu : X.A.units + 2002 < cLine) : CallR X (.builtin "repr") (rDL ca X.K oReprB) := CallR.imp (call_reprBl.or (cr_repr (ca := ca) hg hu)) fun xs H Q ⟨ρ, st, ds, rs, sr, q⟩ => by
  unfold oReprB at q
  split at q
  · rename_i b
    obtain ⟨v, rfl, rv⟩ := rs.one
    simp only [Rep] at rv
    subst rv
    exact .inl ⟨b, rfl, q.here sr _ (by simp only [Rep])⟩
  · exact .inr ⟨ρ, st, _, rs, sr, q⟩
end
end DL
set_option Elab.async false
set_option linter.all false
set_option maxRecDepth 100000
set_option maxHeartbeats 0
namespace K16
open PySem PySem.Spec PyProof.Rows L2 LamX DL
/-! the walk of law_k16_runs_told: printed by gen.py -/
def top (i : Nat) : Stmt := PySem.Challenge.pw_rowtypes_k16_runs_told.main.body.getD i (.Pass ⟨0, 0, 0, 0⟩)
def tab_FIRST_CHILD : List (Str × D) := [("fun", (.int 2)), ("rec", (.int 3)), ("call", (.int 1)), ("let", (.int 2)), ("if", (.int 1)), ("op", (.int 2)), ("extend", (.int 2)), ("select", (.int 2)), ("drop", (.int 2))]
def fe_Stuck : FE := (fV 1)
def fl_Stuck : List (Str × Nat) := [("reason", 0)]
def u_children (F I : Nat → Fn) : FS :=
  (sSeq (sIf (bNotInTab tab_FIRST_CHILD (fOp opIx (fV 0) (fC (.int 0))))
  (sRet (fTup aNil))
  sNil)
  (sRet (fSl (fV 0) (oSo (fIxTab tab_FIRST_CHILD (fOp opIx (fV 0) (fC (.int 0))))) oNo)))
def u_nodes (F I : Nat → Fn) : FS :=
  (sSeq (sSet 1 (fLst (aCons (fV 0) aNil)))
  (sSeq (sForV (fCallN 1 (F 0) (aCons (fV 0) aNil)) (gN 2)
  (sExp (fMt oExtend (fV 1) (aCons (fCallN 1 (F 1) (aCons (fV 2) aNil)) aNil))))
  (sRet (fV 1))))
def u_is_value (F I : Nat → Fn) : FS :=
  (sSeq (sSet 1 (fOp opIx (fV 0) (fC (.int 0))))
  (sSeq (sIf (bOf (fOp opEq (fV 1) (fC (.str "extend"))))
  (sRet (fAnd (fCallN 1 (F 2) (aCons (fOp opIx (fV 0) (fC (.int 2))) aNil)) (fCallN 1 (F 3) (aCons (fOp opIx (fV 0) (fC (.int 3))) aNil))))
  sNil)
  (sRet (fOr (fOp opIn (fV 1) (fTup (aCons (fC (.str "number")) (aCons (fC (.str "truth")) (aCons (fC (.str "empty")) aNil))))) (fOp opIn (fV 1) (fC (.ktup [(.str "fun"), (.str "rec")])))))))
def u_is_record (F I : Nat → Fn) : FS :=
  (sRet (fAnd (fOp opIn (fOp opIx (fV 0) (fC (.int 0))) (fTup (aCons (fC (.str "empty")) (aCons (fC (.str "extend")) aNil)))) (fCallN 1 (F 2) (aCons (fV 0) aNil))))
def u_put_in (F I : Nat → Fn) : FS :=
  (sSeq (sSet 3 (fOp opIx (fV 0) (fC (.int 0))))
  (sSeq (sIf (bOf (fOp opEq (fV 3) (fC (.str "name"))))
  (sRet (fIf (bOf (fOp opEq (fOp opIx (fV 0) (fC (.int 1))) (fV 1))) (fV 2) (fV 0)))
  sNil)
  (sSeq (sIf (bOf (fOp opEq (fV 3) (fC (.str "fun"))))
  (sRet (fIf (bOf (fOp opEq (fOp opIx (fV 0) (fC (.int 1))) (fV 1))) (fV 0) (fTup (aCons (fC (.str "fun")) (aCons (fOp opIx (fV 0) (fC (.int 1))) (aCons (fCallN 3 (F 4) (aCons (fOp opIx (fV 0) (fC (.int 2))) (aCons (fV 1) (aCons (fV 2) aNil)))) aNil))))))
  sNil)
  (sSeq (sIf (bOf (fOp opEq (fV 3) (fC (.str "rec"))))
  (sSeq (sIf (bOf (fOp opIn (fV 1) (fSl (fV 0) (oSo (fC (.int 1))) (oSo (fC (.int 3))))))
  (sRet (fV 0))
  sNil)
  (sRet (fTup (aCons (fC (.str "rec")) (aCons (fOp opIx (fV 0) (fC (.int 1))) (aCons (fOp opIx (fV 0) (fC (.int 2))) (aCons (fCallN 3 (F 4) (aCons (fOp opIx (fV 0) (fC (.int 3))) (aCons (fV 1) (aCons (fV 2) aNil)))) aNil)))))))
  sNil)
  (sSeq (sIf (bOf (fOp opEq (fV 3) (fC (.str "let"))))
  (sSeq (sSet 4 (fIf (bOf (fOp opEq (fOp opIx (fV 0) (fC (.int 1))) (fV 1))) (fOp opIx (fV 0) (fC (.int 3))) (fCallN 3 (F 4) (aCons (fOp opIx (fV 0) (fC (.int 3))) (aCons (fV 1) (aCons (fV 2) aNil))))))
  (sRet (fTup (aCons (fC (.str "let")) (aCons (fOp opIx (fV 0) (fC (.int 1))) (aCons (fCallN 3 (F 4) (aCons (fOp opIx (fV 0) (fC (.int 2))) (aCons (fV 1) (aCons (fV 2) aNil)))) (aCons (fV 4) aNil)))))))
  sNil)
  (sRet (fTupOf (fLcG finLv (iV (fV 0)) (gN 5) [5] bYes (fIf (bTru (fB oIsi2 (aCons (fV 5) (aCons (fC (.ty "tuple")) aNil)))) (fCallN 3 (F 4) (aCons (fV 5) (aCons (fV 1) (aCons (fV 2) aNil)))) (fV 5))))))))))
def u_needed (F I : Nat → Fn) : FS :=
  (sSeq (sSet 1 (fOp opIx (fV 0) (fC (.int 0))))
  (sSeq (sIf (bOf (fOp opEq (fV 1) (fC (.str "call"))))
  (sRet (fLv (aCons (fC (.int 1)) (aCons (fC (.int 2)) aNil))))
  sNil)
  (sSeq (sIf (bOf (fOp opIn (fV 1) (fTup (aCons (fC (.str "let")) (aCons (fC (.str "select")) (aCons (fC (.str "drop")) aNil))))))
  (sRet (fLv (aCons (fC (.int 2)) aNil)))
  sNil)
  (sSeq (sIf (bOf (fOp opEq (fV 1) (fC (.str "if"))))
  (sRet (fLv (aCons (fC (.int 1)) aNil)))
  sNil)
  (sSeq (sIf (bOf (fOp opIn (fV 1) (fTup (aCons (fC (.str "op")) (aCons (fC (.str "extend")) aNil)))))
  (sRet (fLv (aCons (fC (.int 2)) (aCons (fC (.int 3)) aNil))))
  sNil)
  (sRet (fLv aNil)))))))
def u_call_step (F I : Nat → Fn) : FS :=
  (sSeq (sAsg (fV 0) (gTupD 3 (gConsD (gN 1) (gConsD (gN 2) (gConsD (gN 3) gNilD)))))
  (sSeq (sIf (bOf (fOp opEq (fOp opIx (fV 2) (fC (.int 0))) (fC (.str "fun"))))
  (sRet (fCallN 3 (F 4) (aCons (fOp opIx (fV 2) (fC (.int 2))) (aCons (fOp opIx (fV 2) (fC (.int 1))) (aCons (fV 3) aNil)))))
  sNil)
  (sSeq (sIf (bOf (fOp opEq (fOp opIx (fV 2) (fC (.int 0))) (fC (.str "rec"))))
  (sSeq (sSet 4 (fIf (bOf (fOp opEq (fOp opIx (fV 2) (fC (.int 1))) (fOp opIx (fV 2) (fC (.int 2))))) (fOp opIx (fV 2) (fC (.int 3))) (fCallN 3 (F 4) (aCons (fOp opIx (fV 2) (fC (.int 3))) (aCons (fOp opIx (fV 2) (fC (.int 1))) (aCons (fV 2) aNil))))))
  (sRet (fCallN 3 (F 4) (aCons (fV 4) (aCons (fOp opIx (fV 2) (fC (.int 2))) (aCons (fV 3) aNil))))))
  sNil)
  (sRaise "Stuck" 1 fe_Stuck fl_Stuck (aCons (fC (.str "not a function")) aNil)))))
def u_op_step (F I : Nat → Fn) : FS :=
  (sSeq (sAsg (fV 0) (gTupD 4 (gConsD (gN 1) (gConsD (gN 2) (gConsD (gN 3) (gConsD (gN 4) gNilD))))))
  (sSeq (sIf (bOr (bOf (fOp opNe (fOp opIx (fV 3) (fC (.int 0))) (fC (.str "number")))) (bOf (fOp opNe (fOp opIx (fV 4) (fC (.int 0))) (fC (.str "number")))))
  (sRaise "Stuck" 1 fe_Stuck fl_Stuck (aCons (fC (.str "not a number")) aNil))
  sNil)
  (sSeq (sIf (bOf (fOp opEq (fV 2) (fC (.str "<"))))
  (sRet (fTup (aCons (fC (.str "truth")) (aCons (fOp opLt (fOp opIx (fV 3) (fC (.int 1))) (fOp opIx (fV 4) (fC (.int 1)))) aNil))))
  sNil)
  (sSeq (sIf (bOf (fOp opEq (fV 2) (fC (.str "=="))))
  (sRet (fTup (aCons (fC (.str "truth")) (aCons (fOp opEq (fOp opIx (fV 3) (fC (.int 1))) (fOp opIx (fV 4) (fC (.int 1)))) aNil))))
  sNil)
  (sSeq (sSet 5 (fIf (bOf (fOp opEq (fV 2) (fC (.str "+")))) (fOp opAddA (fOp opIx (fV 3) (fC (.int 1))) (fOp opIx (fV 4) (fC (.int 1)))) (fOp opSub (fOp opIx (fV 3) (fC (.int 1))) (fOp opIx (fV 4) (fC (.int 1))))))
  (sSeq (sIf (bOr (bOf (fOp opLt (fV 5) (fC (.int 0)))) (bOf (fOp opGt (fV 5) (fC (.int 999999)))))
  (sRaise0 "Overflow")
  sNil)
  (sRet (fTup (aCons (fC (.str "number")) (aCons (fV 5) aNil))))))))))
def u_without (F I : Nat → Fn) : FS :=
  (sSeq (sIf (bNot (bTru (fCallN 1 (F 3) (aCons (fV 0) aNil))))
  (sRaise "Stuck" 1 fe_Stuck fl_Stuck (aCons (fC (.str "not a record")) aNil))
  sNil)
  (sSeq (sSet 2 (fLst aNil))
  (sSeq (whileD (bAnd (bOf (fOp opEq (fOp opIx (fV 0) (fC (.int 0))) (fC (.str "extend")))) (bOf (fOp opNe (fOp opIx (fV 0) (fC (.int 1))) (fV 1))))
  (sSeq (sExp (fMt oAppend (fV 2) (aCons (fTup (aCons (fOp opIx (fV 0) (fC (.int 1))) (aCons (fOp opIx (fV 0) (fC (.int 2))) aNil))) aNil)))
  (sSet 0 (fOp opIx (fV 0) (fC (.int 3))))) forMost)
  (sSeq (sIf (bOf (fOp opEq (fOp opIx (fV 0) (fC (.int 0))) (fC (.str "empty"))))
  (sRaise "Stuck" 1 fe_Stuck fl_Stuck (aCons (fC (.str "no such field")) aNil))
  sNil)
  (sSeq (sSet 3 (fOp opIx (fV 0) (fC (.int 3))))
  (sSeq (sForV (fRev (fV 2)) (gTupD 2 (gConsD (gN 4) (gConsD (gN 5) gNilD)))
  (sSet 3 (fTup (aCons (fC (.str "extend")) (aCons (fV 4) (aCons (fV 5) (aCons (fV 3) aNil)))))))
  (sRet (fTup (aCons (fOp opIx (fV 0) (fC (.int 2))) (aCons (fV 3) aNil))))))))))
def u_own_step (F I : Nat → Fn) : FS :=
  (sSeq (sSet 2 (fOp opIx (fV 0) (fC (.int 0))))
  (sSeq (sIf (bOf (fOp opEq (fV 2) (fC (.str "name"))))
  (sSeq (sSet 3 (fB oDictP (aCons (fV 1) aNil)))
  (sSeq (sIf (bOf (fOp opNotIn (fOp opIx (fV 0) (fC (.int 1))) (fV 3)))
  (sRaise "Stuck" 1 fe_Stuck fl_Stuck (aCons (fC (.str "unbound name")) aNil))
  sNil)
  (sRet (fOp opIx (fV 3) (fOp opIx (fV 0) (fC (.int 1)))))))
  sNil)
  (sSeq (sIf (bOf (fOp opEq (fV 2) (fC (.str "call"))))
  (sRet (fCallN 1 (F 6) (aCons (fV 0) aNil)))
  sNil)
  (sSeq (sIf (bOf (fOp opEq (fV 2) (fC (.str "let"))))
  (sRet (fCallN 3 (F 4) (aCons (fOp opIx (fV 0) (fC (.int 3))) (aCons (fOp opIx (fV 0) (fC (.int 1))) (aCons (fOp opIx (fV 0) (fC (.int 2))) aNil)))))
  sNil)
  (sSeq (sIf (bOf (fOp opEq (fV 2) (fC (.str "if"))))
  (sSeq (sIf (bOf (fOp opNe (fOp opIx (fOp opIx (fV 0) (fC (.int 1))) (fC (.int 0))) (fC (.str "truth"))))
  (sRaise "Stuck" 1 fe_Stuck fl_Stuck (aCons (fC (.str "not a truth")) aNil))
  sNil)
  (sRet (fIf (bTru (fOp opIx (fOp opIx (fV 0) (fC (.int 1))) (fC (.int 1)))) (fOp opIx (fV 0) (fC (.int 2))) (fOp opIx (fV 0) (fC (.int 3))))))
  sNil)
  (sSeq (sIf (bOf (fOp opEq (fV 2) (fC (.str "op"))))
  (sRet (fCallN 1 (F 7) (aCons (fV 0) aNil)))
  sNil)
  (sSeq (sIf (bOf (fOp opEq (fV 2) (fC (.str "extend"))))
  (sRaise "Stuck" 1 fe_Stuck fl_Stuck (aCons (fC (.str "not a record")) aNil))
  sNil)
  (sSeq (sAsg (fCallN 2 (F 8) (aCons (fOp opIx (fV 0) (fC (.int 2))) (aCons (fOp opIx (fV 0) (fC (.int 1))) aNil))) (gTupD 2 (gConsD (gN 4) (gConsD (gN 5) gNilD))))
  (sRet (fIf (bOf (fOp opEq (fV 2) (fC (.str "select")))) (fV 4) (fV 5)))))))))))
def u_next_expression (F I : Nat → Fn) : FS :=
  (sSeq (sForV (fCallN 1 (F 5) (aCons (fV 0) aNil)) (gN 2)
  (sIf (bNot (bTru (fCallN 1 (F 2) (aCons (fOp opIx (fV 0) (fV 2)) aNil))))
  (sSeq (sSet 3 (fCallN 2 (F 10) (aCons (fOp opIx (fV 0) (fV 2)) (aCons (fV 1) aNil))))
  (sRet (fOp opAddA (fOp opAddA (fSl (fV 0) oNo (oSo (fV 2))) (fTup (aCons (fV 3) aNil))) (fSl (fV 0) (oSo (fOp opAddA (fV 2) (fC (.int 1)))) oNo))))
  sNil))
  (sRet (fCallN 2 (F 9) (aCons (fV 0) (aCons (fV 1) aNil)))))
def u_step (F I : Nat → Fn) : FS :=
  (sSeq (sIf (bTru (fCallN 1 (F 2) (aCons (fV 0) aNil)))
  (sRet (fTup (aCons (fC (.str "value")) aNil)))
  sNil)
  (sSeq (sIf (bOf (fOp opGt (fB oLen (aCons (fCallN 1 (F 1) (aCons (fV 0) aNil)) aNil)) (fC (.int 300))))
  (sRet (fTup (aCons (fC (.str "large")) aNil)))
  sNil)
  (sTry (sRet (fTup (aCons (fC (.str "next")) (aCons (fCallN 2 (F 10) (aCons (fV 0) (aCons (fV 1) aNil))) aNil))))
  (⟨["Stuck"], ["Overflow"], (some 2), (fun _ fs => sRet (fTup (aCons (fC (.str "stuck")) (aCons (fX fs "reason") aNil))))⟩ :: (⟨["Overflow"], ["Stuck"], none, (fun _ _ => (sRet (fTup (aCons (fC (.str "overflow")) aNil))))⟩ :: [])))))
def u_run (F I : Nat → Fn) : FS :=
  (sSeq (sSet 3 (fC (.int 0)))
  (whileD (bTru (fC (.bl true)))
  (sSeq (sSet 4 (fCallN 2 (F 11) (aCons (fV 0) (aCons (fV 1) aNil))))
  (sSeq (sIf (bOf (fOp opNe (fOp opIx (fV 4) (fC (.int 0))) (fC (.str "next"))))
  (sRet (fTup (aCons (fOp opIx (fV 4) (fC (.int 0))) (aCons (fV 3) (aCons (fV 0) aNil)))))
  sNil)
  (sSeq (sIf (bOf (fOp opEq (fV 3) (fV 2)))
  (sRet (fTup (aCons (fC (.str "more")) (aCons (fV 3) (aCons (fV 0) aNil)))))
  sNil)
  (sSeq (sSet 0 (fOp opIx (fV 4) (fC (.int 1))))
  (sAug 3 (· + ·) (fC (.int 1))))))) forMost))
def u__law_cell (F I : Nat → Fn) : FS :=
  (sSeq (sIf (bOf (fOp opLt (fV 1) (fB oLen (aCons (fV 0) aNil))))
  (sRet (fOp opIx (fV 0) (fV 1)))
  sNil)
  (sRet (fC (.int 0))))
def u__law_same (F I : Nat → Fn) : FS :=
  (sRet (fOp opEq (fB oReprB (aCons (fV 0) aNil)) (fB oReprB (aCons (fV 1) aNil))))
def u__law_digits (F I : Nat → Fn) : FS :=
  (sSeq (sSet 3 (fLst aNil))
  (sSeq (sFor (iRng2D (fV 1) (fV 2)) (gN 4)
  (sSeq (sSet 5 (fCallN 2 (F 13) (aCons (fV 0) (aCons (fV 4) aNil))))
  (sSeq (sIf (bOf (fOp opLt (fV 5) (fC (.int 0))))
  (sSet 5 (fOp opSub (fC (.int 1)) (fOp opMul (fC (.int 2)) (fV 5))))
  sNil)
  (sIf (bOf (fOp opGe (fV 5) (fOp opPow (fC (.int 10)) (fC (.int 18)))))
  (sFor (iRng1D (fC (.int 60))) (gN 6)
  (sIf (bOf (fOp opGt (fV 5) (fC (.int 0))))
  (sSeq (sExp (fMt oAppend (fV 3) (aCons (fOp opMod (fB oInt (aCons (fV 5) aNil)) (fC (.int 1000))) aNil)))
  (sSet 5 (fOp opDiv (fV 5) (fC (.int 1000)))))
  sNil))
  (sSeq (sSet 7 (fOp opMod (fB oInt (aCons (fOp opAddA (fOp opAddA (fOp opMul (fV 5) (fC (.int 48271))) (fOp opMul (fV 4) (fC (.int 69621)))) (fC (.int 11))) aNil)) (fC (.int 2147483647))))
  (sFor (iRng1D (fC (.int 12))) (gN 6)
  (sSeq (sSet 7 (fOp opMod (fB oInt (aCons (fOp opAddA (fOp opAddA (fOp opMul (fV 7) (fC (.int 16807))) (fOp opMul (fC (.int 7)) (fV 6))) (fC (.int 1))) aNil)) (fC (.int 2147483647))))
  (sExp (fMt oAppend (fV 3) (aCons (fOp opMod (fB oInt (aCons (fOp opDiv (fV 7) (fC (.int 997))) aNil)) (fC (.int 1000))) aNil))))))))))
  (sRet (fV 3))))
def u__law_draw (F I : Nat → Fn) : FS :=
  (sSeq (sSet 2 (fOp opIx (fV 0) (fC (.int 1))))
  (sSeq (sAsg (fOp opAddA (fV 2) (fC (.int 1))) (gSubD (fV 0) (fC (.int 1))))
  (sSeq (sIf (bOf (fOp opLt (fV 2) (fB oLen (aCons (fOp opIx (fV 0) (fC (.int 0))) aNil))))
  (sRet (fOp opMod (fB oInt (aCons (fOp opIx (fOp opIx (fV 0) (fC (.int 0))) (fV 2)) aNil)) (fV 1)))
  sNil)
  (sRet (fOp opMod (fB oInt (aCons (fOp opAddA (fOp opMul (fV 2) (fC (.int 7))) (fC (.int 3))) aNil)) (fV 1))))))
def u__law_pick (F I : Nat → Fn) : FS :=
  (sRet (fOp opIx (fV 1) (fOp opMod (fB oInt (aCons (fCallN 2 (F 16) (aCons (fV 0) (aCons (fC (.int 90)) aNil))) aNil)) (fB oLen (aCons (fV 1) aNil)))))
def u__law_expression (F I : Nat → Fn) : FS :=
  (sSeq (sAsg (fOp opSub (fOp opIx (fV 3) (fC (.int 0))) (fC (.int 1))) (gSubD (fV 3) (fC (.int 0))))
  (sSeq (sSet 4 (fCallN 2 (F 16) (aCons (fV 0) (aCons (fC (.int 16)) aNil))))
  (sSeq (sIf (bOf (fOp opEq (fV 2) (fC (.str "any"))))
  (sSet 2 (fOp opIx (fLv (aCons (fC (.str "number")) (aCons (fC (.str "truth")) (aCons (fC (.str "fun")) (aCons (fC (.str "record")) aNil))))) (fCallN 2 (F 16) (aCons (fV 0) (aCons (fC (.int 4)) aNil)))))
  sNil)
  (sSeq (sIf (bAnd (bOf (fOp opGt (fB oLen (aCons (fV 1) aNil)) (fC (.int 0)))) (bOr (bOf (fOp opLt (fV 4) (fC (.int 3)))) (bAnd (bOf (fOp opLt (fOp opIx (fV 3) (fC (.int 0))) (fC (.int 2)))) (bOf (fOp opLt (fV 4) (fC (.int 9)))))))
  (sSeq (sSet 5 (fLcG finLv (iV (fV 1)) (gN 6) [6] (bOf (fOp opEq (fOp opIx (fV 6) (fC (.int 1))) (fV 2))) (fOp opIx (fV 6) (fC (.int 0)))))
  (sSeq (sIf (bAnd (bOf (fOp opGt (fB oLen (aCons (fV 5) aNil)) (fC (.int 0)))) (bOf (fOp opGt (fV 4) (fC (.int 0)))))
  (sRet (fTup (aCons (fC (.str "name")) (aCons (fCallN 2 (F 17) (aCons (fV 0) (aCons (fV 5) aNil))) aNil))))
  sNil)
  (sIf (bOf (fOp opEq (fV 4) (fC (.int 0))))
  (sRet (fTup (aCons (fC (.str "name")) (aCons (fCallN 2 (F 17) (aCons (fV 0) (aCons (fOp opAddA (fLcG finLv (iV (fV 1)) (gN 6) [6] bYes (fOp opIx (fV 6) (fC (.int 0)))) (fLv (aCons (fC (.str "free")) aNil))) aNil))) aNil))))
  sNil)))
  sNil)
  (sSeq (sIf (bOf (fOp opLt (fOp opIx (fV 3) (fC (.int 0))) (fC (.int 3))))
  (sRet (fCallN 2 (F 19) (aCons (fV 0) (aCons (fV 2) aNil))))
  sNil)
  (sSeq (sIf (bOf (fOp opEq (fV 4) (fC (.int 3))))
  (sRet (fCallN 4 (F 20) (aCons (fV 0) (aCons (fV 1) (aCons (fV 2) (aCons (fV 3) aNil))))))
  sNil)
  (sSeq (sIf (bOf (fOp opEq (fV 4) (fC (.int 4))))
  (sRet (fTup (aCons (fC (.str "if")) (aCons (fCallN 4 (F 18) (aCons (fV 0) (aCons (fV 1) (aCons (fC (.str "truth")) (aCons (fV 3) aNil))))) (aCons (fCallN 4 (F 18) (aCons (fV 0) (aCons (fV 1) (aCons (fV 2) (aCons (fV 3) aNil))))) (aCons (fCallN 4 (F 18) (aCons (fV 0) (aCons (fV 1) (aCons (fV 2) (aCons (fV 3) aNil))))) aNil))))))
  sNil)
  (sSeq (sIf (bOf (fOp opEq (fV 4) (fC (.int 5))))
  (sRet (fTup (aCons (fC (.str "select")) (aCons (fCallN 2 (F 17) (aCons (fV 0) (aCons (fLv (aCons (fC (.str "x")) (aCons (fC (.str "y")) aNil))) aNil))) (aCons (fCallN 4 (F 18) (aCons (fV 0) (aCons (fV 1) (aCons (fC (.str "record")) (aCons (fV 3) aNil))))) aNil)))))
  sNil)
  (sSeq (sIf (bOf (fOp opEq (fV 4) (fC (.int 6))))
  (sRet (fTup (aCons (fC (.str "call")) (aCons (fCallN 4 (F 18) (aCons (fV 0) (aCons (fV 1) (aCons (fC (.str "fun")) (aCons (fV 3) aNil))))) (aCons (fCallN 4 (F 18) (aCons (fV 0) (aCons (fV 1) (aCons (fC (.str "any")) (aCons (fV 3) aNil))))) aNil)))))
  sNil)
  (sSeq (sIf (bOf (fOp opEq (fV 2) (fC (.str "number"))))
  (sRet (fTup (aCons (fC (.str "op")) (aCons (fOp opIx (fC (.str "+-")) (fCallN 2 (F 16) (aCons (fV 0) (aCons (fC (.int 2)) aNil)))) (aCons (fCallN 4 (F 18) (aCons (fV 0) (aCons (fV 1) (aCons (fC (.str "number")) (aCons (fV 3) aNil))))) (aCons (fCallN 4 (F 18) (aCons (fV 0) (aCons (fV 1) (aCons (fC (.str "number")) (aCons (fV 3) aNil))))) aNil))))))
  sNil)
  (sSeq (sIf (bOf (fOp opEq (fV 2) (fC (.str "truth"))))
  (sRet (fTup (aCons (fC (.str "op")) (aCons (fOp opIx (fLv (aCons (fC (.str "<")) (aCons (fC (.str "==")) aNil))) (fCallN 2 (F 16) (aCons (fV 0) (aCons (fC (.int 2)) aNil)))) (aCons (fCallN 4 (F 18) (aCons (fV 0) (aCons (fV 1) (aCons (fC (.str "number")) (aCons (fV 3) aNil))))) (aCons (fCallN 4 (F 18) (aCons (fV 0) (aCons (fV 1) (aCons (fC (.str "number")) (aCons (fV 3) aNil))))) aNil))))))
  sNil)
  (sSeq (sIf (bOf (fOp opEq (fV 2) (fC (.str "fun"))))
  (sRet (fCallN 3 (F 21) (aCons (fV 0) (aCons (fV 1) (aCons (fV 3) aNil)))))
  sNil)
  (sSeq (sIf (bOf (fOp opLt (fV 4) (fC (.int 10))))
  (sRet (fTup (aCons (fC (.str "drop")) (aCons (fCallN 2 (F 17) (aCons (fV 0) (aCons (fLv (aCons (fC (.str "x")) (aCons (fC (.str "y")) aNil))) aNil))) (aCons (fCallN 4 (F 18) (aCons (fV 0) (aCons (fV 1) (aCons (fC (.str "record")) (aCons (fV 3) aNil))))) aNil)))))
  sNil)
  (sRet (fTup (aCons (fC (.str "extend")) (aCons (fCallN 2 (F 17) (aCons (fV 0) (aCons (fLv (aCons (fC (.str "x")) (aCons (fC (.str "y")) (aCons (fC (.str "z")) aNil)))) aNil))) (aCons (fCallN 4 (F 18) (aCons (fV 0) (aCons (fV 1) (aCons (fC (.str "any")) (aCons (fV 3) aNil))))) (aCons (fCallN 4 (F 18) (aCons (fV 0) (aCons (fV 1) (aCons (fC (.str "record")) (aCons (fV 3) aNil))))) aNil)))))))))))))))))))
def u__law_leaf (F I : Nat → Fn) : FS :=
  (sSeq (sIf (bOf (fOp opEq (fV 1) (fC (.str "number"))))
  (sRet (fTup (aCons (fC (.str "number")) (aCons (fOp opIx (fLv (aCons (fCallN 2 (F 16) (aCons (fV 0) (aCons (fC (.int 4)) aNil))) (aCons (fC (.int 999999)) (aCons (fC (.int 10)) aNil)))) (fCallN 2 (F 16) (aCons (fV 0) (aCons (fC (.int 3)) aNil)))) aNil))))
  sNil)
  (sSeq (sIf (bOf (fOp opEq (fV 1) (fC (.str "truth"))))
  (sRet (fTup (aCons (fC (.str "truth")) (aCons (fOp opEq (fCallN 2 (F 16) (aCons (fV 0) (aCons (fC (.int 2)) aNil))) (fC (.int 1))) aNil))))
  sNil)
  (sSeq (sIf (bOf (fOp opEq (fV 1) (fC (.str "fun"))))
  (sRet (fTup (aCons (fC (.str "fun")) (aCons (fC (.str "w")) (aCons (fTup (aCons (fC (.str "name")) (aCons (fC (.str "w")) aNil))) aNil)))))
  sNil)
  (sRet (fTup (aCons (fC (.str "empty")) aNil))))))
def u__law_let (F I : Nat → Fn) : FS :=
  (sSeq (sSet 4 (fOp opIx (fLv (aCons (fC (.str "i")) (aCons (fC (.str "k")) (aCons (fC (.str "r")) aNil)))) (fCallN 2 (F 16) (aCons (fV 0) (aCons (fC (.int 3)) aNil)))))
  (sSeq (sSet 5 (fOp opIx (fLv (aCons (fC (.str "number")) (aCons (fC (.str "fun")) (aCons (fC (.str "record")) (aCons (fC (.str "truth")) aNil))))) (fCallN 2 (F 16) (aCons (fV 0) (aCons (fC (.int 4)) aNil)))))
  (sSeq (sSet 6 (fCallN 4 (F 18) (aCons (fV 0) (aCons (fV 1) (aCons (fV 5) (aCons (fV 3) aNil))))))
  (sRet (fTup (aCons (fC (.str "let")) (aCons (fV 4) (aCons (fV 6) (aCons (fCallN 4 (F 18) (aCons (fV 0) (aCons (fOp opAddA (fV 1) (fLv (aCons (fTup (aCons (fV 4) (aCons (fV 5) aNil))) aNil))) (aCons (fV 2) (aCons (fV 3) aNil))))) aNil)))))))))
def u__law_function (F I : Nat → Fn) : FS :=
  (sSeq (sSet 3 (fOp opIx (fLv (aCons (fC (.str "f")) (aCons (fC (.str "n")) (aCons (fC (.str "r")) aNil)))) (fCallN 2 (F 16) (aCons (fV 0) (aCons (fC (.int 3)) aNil)))))
  (sSeq (sSet 4 (fOp opIx (fLv (aCons (fC (.str "number")) (aCons (fC (.str "fun")) (aCons (fC (.str "record")) (aCons (fC (.str "truth")) aNil))))) (fCallN 2 (F 16) (aCons (fV 0) (aCons (fC (.int 4)) aNil)))))
  (sSeq (sSet 5 (fOp opIx (fLv (aCons (fC (.str "number")) (aCons (fC (.str "fun")) (aCons (fC (.str "record")) (aCons (fC (.str "any")) aNil))))) (fCallN 2 (F 16) (aCons (fV 0) (aCons (fC (.int 4)) aNil)))))
  (sSeq (sIf (bOf (fOp opEq (fCallN 2 (F 16) (aCons (fV 0) (aCons (fC (.int 4)) aNil))) (fC (.int 0))))
  (sRet (fTup (aCons (fC (.str "rec")) (aCons (fC (.str "g")) (aCons (fV 3) (aCons (fCallN 4 (F 18) (aCons (fV 0) (aCons (fOp opAddA (fV 1) (fLv (aCons (fTup (aCons (fC (.str "g")) (aCons (fC (.str "fun")) aNil))) (aCons (fTup (aCons (fV 3) (aCons (fV 4) aNil))) aNil)))) (aCons (fV 5) (aCons (fV 2) aNil))))) aNil))))))
  sNil)
  (sRet (fTup (aCons (fC (.str "fun")) (aCons (fV 3) (aCons (fCallN 4 (F 18) (aCons (fV 0) (aCons (fOp opAddA (fV 1) (fLv (aCons (fTup (aCons (fV 3) (aCons (fV 4) aNil))) aNil))) (aCons (fV 5) (aCons (fV 2) aNil))))) aNil)))))))))
def u__law_children (F I : Nat → Fn) : FS :=
  (sRet (fLcG finLv (iV (fSl (fV 0) (oSo (fC (.int 1))) oNo)) (gN 1) [1] (bTru (fB oIsi2 (aCons (fV 1) (aCons (fC (.ty "tuple")) aNil)))) (fV 1)))
def u__law_is_value (F I : Nat → Fn) : FS :=
  (sSeq (whileD (bAnd (bOf (fOp opEq (fOp opIx (fV 0) (fC (.int 0))) (fC (.str "extend")))) (bTru (fCallN 1 (F 23) (aCons (fOp opIx (fV 0) (fC (.int 2))) aNil))))
  (sSeq (sSet 0 (fOp opIx (fV 0) (fC (.int 3))))
  (sIf (bAnd (bOf (fOp opNe (fOp opIx (fV 0) (fC (.int 0))) (fC (.str "extend")))) (bOf (fOp opNe (fOp opIx (fV 0) (fC (.int 0))) (fC (.str "empty")))))
  (sRet (fC (.bl false)))
  sNil)) forMost)
  (sRet (fOp opIn (fOp opIx (fV 0) (fC (.int 0))) (fTup (aCons (fC (.str "number")) (aCons (fC (.str "truth")) (aCons (fC (.str "fun")) (aCons (fC (.str "rec")) (aCons (fC (.str "empty")) aNil)))))))))
def u__law_substituted (F I : Nat → Fn) : FS :=
  (sSeq (sSet 3 (fOp opIx (fV 0) (fC (.int 0))))
  (sSeq (sIf (bOf (fOp opEq (fV 3) (fC (.str "name"))))
  (sRet (fOp opIx (fLv (aCons (fV 0) (aCons (fV 2) aNil))) (fB oInt (aCons (fOp opEq (fOp opIx (fV 0) (fC (.int 1))) (fV 1)) aNil))))
  sNil)
  (sSeq (sIf (bOr (bAnd (bOf (fOp opEq (fV 3) (fC (.str "fun")))) (bOf (fOp opEq (fOp opIx (fV 0) (fC (.int 1))) (fV 1)))) (bAnd (bOf (fOp opEq (fV 3) (fC (.str "rec")))) (bOf (fOp opIn (fV 1) (fSl (fV 0) (oSo (fC (.int 1))) (oSo (fC (.int 3))))))))
  (sRet (fV 0))
  sNil)
  (sSeq (sIf (bAnd (bOf (fOp opEq (fV 3) (fC (.str "let")))) (bOf (fOp opEq (fOp opIx (fV 0) (fC (.int 1))) (fV 1))))
  (sRet (fTup (aCons (fC (.str "let")) (aCons (fV 1) (aCons (fCallN 3 (F 24) (aCons (fOp opIx (fV 0) (fC (.int 2))) (aCons (fV 1) (aCons (fV 2) aNil)))) (aCons (fOp opIx (fV 0) (fC (.int 3))) aNil))))))
  sNil)
  (sSeq (sSet 4 (fTup aNil))
  (sSeq (sForV (fV 0) (gN 5)
  (sSeq (sIf (bTru (fB oIsi2 (aCons (fV 5) (aCons (fC (.ty "tuple")) aNil))))
  (sSet 5 (fCallN 3 (F 24) (aCons (fV 5) (aCons (fV 1) (aCons (fV 2) aNil)))))
  sNil)
  (sSet 4 (fOp opAddA (fV 4) (fTup (aCons (fV 5) aNil))))))
  (sRet (fV 4))))))))
def u__law_count (F I : Nat → Fn) : FS :=
  (sSeq (sSet 1 (fC (.int 0)))
  (sSeq (sSet 2 (fLst (aCons (fV 0) aNil)))
  (sSeq (sFor (iRng1D (fC (.int 20000))) (gN 3)
  (sIf (bOf (fOp opNeM (fV 2) (fLv aNil)))
  (sSeq (sSet 1 (fOp opAddA (fV 1) (fC (.int 1))))
  (sSet 2 (fOp opCatO (fV 2) (fCallN 1 (F 22) (aCons (fMt oPop (fV 2) aNil) aNil)))))
  sNil))
  (sRet (fV 1)))))
def u__law_needs (F I : Nat → Fn) : FS :=
  (sSeq (sSet 1 (fOp opIx (fV 0) (fC (.int 0))))
  (sSeq (sIf (bOf (fOp opIn (fV 1) (fTup (aCons (fC (.str "op")) (aCons (fC (.str "extend")) aNil)))))
  (sRet (fLv (aCons (fC (.int 2)) (aCons (fC (.int 3)) aNil))))
  sNil)
  (sSeq (sIf (bOf (fOp opIn (fV 1) (fTup (aCons (fC (.str "let")) (aCons (fC (.str "select")) (aCons (fC (.str "drop")) aNil))))))
  (sRet (fLv (aCons (fC (.int 2)) aNil)))
  sNil)
  (sRet (fOp opIx (fLv (aCons (fLv aNil) (aCons (fLv (aCons (fC (.int 1)) aNil)) (aCons (fLv (aCons (fC (.int 1)) (aCons (fC (.int 2)) aNil))) aNil)))) (fOp opAddA (fB oInt (aCons (fOp opEq (fV 1) (fC (.str "if"))) aNil)) (fOp opMul (fC (.int 2)) (fB oInt (aCons (fOp opEq (fV 1) (fC (.str "call"))) aNil)))))))))
def u__law_own_step (F I : Nat → Fn) : FS :=
  (sSeq (sSet 2 (fOp opIx (fV 0) (fC (.int 0))))
  (sSeq (sIf (bOf (fOp opEq (fV 2) (fC (.str "name"))))
  (sSeq (sSet 3 (fLcG finLv (iV (fV 1)) (gN 5) [5] (bOf (fOp opEq (fOp opIx (fV 5) (fC (.int 0))) (fOp opIx (fV 0) (fC (.int 1))))) (fOp opIx (fV 5) (fC (.int 1)))))
  (sSeq (sIf (bOf (fOp opEqM (fV 3) (fLv aNil)))
  (sRet (fTup (aCons (fC (.str "stuck")) (aCons (fC (.str "unbound name")) aNil))))
  sNil)
  (sRet (fTup (aCons (fC (.str "next")) (aCons (fOp opIx (fV 3) (fC (.int 0))) aNil))))))
  sNil)
  (sSeq (sIf (bAnd (bOf (fOp opEq (fV 2) (fC (.str "call")))) (bOf (fOp opEq (fOp opIx (fOp opIx (fV 0) (fC (.int 1))) (fC (.int 0))) (fC (.str "fun")))))
  (sRet (fTup (aCons (fC (.str "next")) (aCons (fCallN 3 (F 24) (aCons (fOp opIx (fOp opIx (fV 0) (fC (.int 1))) (fC (.int 2))) (aCons (fOp opIx (fOp opIx (fV 0) (fC (.int 1))) (fC (.int 1))) (aCons (fOp opIx (fV 0) (fC (.int 2))) aNil)))) aNil))))
  sNil)
  (sSeq (sIf (bAnd (bOf (fOp opEq (fV 2) (fC (.str "call")))) (bOf (fOp opEq (fOp opIx (fOp opIx (fV 0) (fC (.int 1))) (fC (.int 0))) (fC (.str "rec")))))
  (sSeq (sSet 4 (fOp opIx (fOp opIx (fV 0) (fC (.int 1))) (fC (.int 3))))
  (sSeq (sIf (bOf (fOp opNe (fOp opIx (fOp opIx (fV 0) (fC (.int 1))) (fC (.int 1))) (fOp opIx (fOp opIx (fV 0) (fC (.int 1))) (fC (.int 2)))))
  (sSet 4 (fCallN 3 (F 24) (aCons (fV 4) (aCons (fOp opIx (fOp opIx (fV 0) (fC (.int 1))) (fC (.int 1))) (aCons (fOp opIx (fV 0) (fC (.int 1))) aNil)))))
  sNil)
  (sRet (fTup (aCons (fC (.str "next")) (aCons (fCallN 3 (F 24) (aCons (fV 4) (aCons (fOp opIx (fOp opIx (fV 0) (fC (.int 1))) (fC (.int 2))) (aCons (fOp opIx (fV 0) (fC (.int 2))) aNil)))) aNil))))))
  sNil)
  (sSeq (sIf (bOf (fOp opEq (fV 2) (fC (.str "call"))))
  (sRet (fTup (aCons (fC (.str "stuck")) (aCons (fC (.str "not a function")) aNil))))
  sNil)
  (sSeq (sIf (bOf (fOp opEq (fV 2) (fC (.str "let"))))
  (sRet (fTup (aCons (fC (.str "next")) (aCons (fCallN 3 (F 24) (aCons (fOp opIx (fV 0) (fC (.int 3))) (aCons (fOp opIx (fV 0) (fC (.int 1))) (aCons (fOp opIx (fV 0) (fC (.int 2))) aNil)))) aNil))))
  sNil)
  (sSeq (sIf (bAnd (bOf (fOp opEq (fV 2) (fC (.str "if")))) (bOf (fOp opEq (fOp opIx (fOp opIx (fV 0) (fC (.int 1))) (fC (.int 0))) (fC (.str "truth")))))
  (sRet (fTup (aCons (fC (.str "next")) (aCons (fOp opIx (fLv (aCons (fOp opIx (fV 0) (fC (.int 3))) (aCons (fOp opIx (fV 0) (fC (.int 2))) aNil))) (fB oInt (aCons (fOp opIx (fOp opIx (fV 0) (fC (.int 1))) (fC (.int 1))) aNil))) aNil))))
  sNil)
  (sSeq (sIf (bOf (fOp opEq (fV 2) (fC (.str "if"))))
  (sRet (fTup (aCons (fC (.str "stuck")) (aCons (fC (.str "not a truth")) aNil))))
  sNil)
  (sSeq (sIf (bOf (fOp opEq (fV 2) (fC (.str "op"))))
  (sRet (fCallN 1 (F 28) (aCons (fV 0) aNil)))
  sNil)
  (sRet (fCallN 1 (F 29) (aCons (fV 0) aNil))))))))))))
def u__law_op_step (F I : Nat → Fn) : FS :=
  (sSeq (sIf (bOr (bOf (fOp opNe (fOp opIx (fOp opIx (fV 0) (fC (.int 2))) (fC (.int 0))) (fC (.str "number")))) (bOf (fOp opNe (fOp opIx (fOp opIx (fV 0) (fC (.int 3))) (fC (.int 0))) (fC (.str "number")))))
  (sRet (fTup (aCons (fC (.str "stuck")) (aCons (fC (.str "not a number")) aNil))))
  sNil)
  (sSeq (sSet 1 (fOp opIx (fOp opIx (fV 0) (fC (.int 2))) (fC (.int 1))))
  (sSeq (sSet 2 (fOp opIx (fOp opIx (fV 0) (fC (.int 3))) (fC (.int 1))))
  (sSeq (sIf (bOr (bOf (fOp opEq (fOp opIx (fV 0) (fC (.int 1))) (fC (.str "<")))) (bOf (fOp opEq (fOp opIx (fV 0) (fC (.int 1))) (fC (.str "==")))))
  (sRet (fTup (aCons (fC (.str "next")) (aCons (fTup (aCons (fC (.str "truth")) (aCons (fOp opIx (fLv (aCons (fOp opEq (fV 1) (fV 2)) (aCons (fOp opLt (fV 1) (fV 2)) aNil))) (fB oInt (aCons (fOp opEq (fOp opIx (fV 0) (fC (.int 1))) (fC (.str "<"))) aNil))) aNil))) aNil))))
  sNil)
  (sSeq (sSet 3 (fOp opIx (fLv (aCons (fOp opSub (fV 1) (fV 2)) (aCons (fOp opAddA (fV 1) (fV 2)) aNil))) (fB oInt (aCons (fOp opEq (fOp opIx (fV 0) (fC (.int 1))) (fC (.str "+"))) aNil))))
  (sSeq (sIf (bOr (bOf (fOp opLt (fV 3) (fC (.int 0)))) (bOf (fOp opGt (fV 3) (fC (.int 999999)))))
  (sRet (fTup (aCons (fC (.str "overflow")) aNil)))
  sNil)
  (sRet (fTup (aCons (fC (.str "next")) (aCons (fTup (aCons (fC (.str "number")) (aCons (fV 3) aNil))) aNil))))))))))
def u__law_record_step (F I : Nat → Fn) : FS :=
  (sSeq (sIf (bOr (bOf (fOp opEq (fOp opIx (fV 0) (fC (.int 0))) (fC (.str "extend")))) (bAnd (bOf (fOp opNe (fOp opIx (fOp opIx (fV 0) (fC (.int 2))) (fC (.int 0))) (fC (.str "empty")))) (bOf (fOp opNe (fOp opIx (fOp opIx (fV 0) (fC (.int 2))) (fC (.int 0))) (fC (.str "extend"))))))
  (sRet (fTup (aCons (fC (.str "stuck")) (aCons (fC (.str "not a record")) aNil))))
  sNil)
  (sSeq (sSet 1 (fLst aNil))
  (sSeq (sSet 2 (fOp opIx (fV 0) (fC (.int 2))))
  (sSeq (whileD (bAnd (bOf (fOp opEq (fOp opIx (fV 2) (fC (.int 0))) (fC (.str "extend")))) (bOf (fOp opNe (fOp opIx (fV 2) (fC (.int 1))) (fOp opIx (fV 0) (fC (.int 1))))))
  (sSeq (sExp (fMt oAppend (fV 1) (aCons (fTup (aCons (fOp opIx (fV 2) (fC (.int 1))) (aCons (fOp opIx (fV 2) (fC (.int 2))) aNil))) aNil)))
  (sSet 2 (fOp opIx (fV 2) (fC (.int 3))))) forMost)
  (sSeq (sIf (bOf (fOp opEq (fOp opIx (fV 2) (fC (.int 0))) (fC (.str "empty"))))
  (sRet (fTup (aCons (fC (.str "stuck")) (aCons (fC (.str "no such field")) aNil))))
  sNil)
  (sSeq (sIf (bOf (fOp opEq (fOp opIx (fV 0) (fC (.int 0))) (fC (.str "select"))))
  (sRet (fTup (aCons (fC (.str "next")) (aCons (fOp opIx (fV 2) (fC (.int 2))) aNil))))
  sNil)
  (sSeq (sSet 3 (fOp opIx (fV 2) (fC (.int 3))))
  (sSeq (sForV (fRev (fV 1)) (gTupD 2 (gConsD (gN 4) (gConsD (gN 5) gNilD)))
  (sSet 3 (fTup (aCons (fC (.str "extend")) (aCons (fV 4) (aCons (fV 5) (aCons (fV 3) aNil)))))))
  (sRet (fTup (aCons (fC (.str "next")) (aCons (fV 3) aNil))))))))))))
def u__law_step_in (F I : Nat → Fn) : FS :=
  (sSeq (sForV (fCallN 1 (F 26) (aCons (fV 0) aNil)) (gN 2)
  (sIf (bNot (bTru (fCallN 1 (F 23) (aCons (fOp opIx (fV 0) (fV 2)) aNil))))
  (sSeq (sSet 3 (fCallN 2 (F 30) (aCons (fOp opIx (fV 0) (fV 2)) (aCons (fV 1) aNil))))
  (sSeq (sIf (bOf (fOp opNe (fOp opIx (fV 3) (fC (.int 0))) (fC (.str "next"))))
  (sRet (fV 3))
  sNil)
  (sRet (fTup (aCons (fC (.str "next")) (aCons (fOp opAddA (fOp opAddA (fSl (fV 0) oNo (oSo (fV 2))) (fTup (aCons (fOp opIx (fV 3) (fC (.int 1))) aNil))) (fSl (fV 0) (oSo (fOp opAddA (fV 2) (fC (.int 1)))) oNo)) aNil))))))
  sNil))
  (sRet (fCallN 2 (F 27) (aCons (fV 0) (aCons (fV 1) aNil)))))
def u__law_stepped (F I : Nat → Fn) : FS :=
  (sSeq (sIf (bTru (fCallN 1 (F 23) (aCons (fV 0) aNil)))
  (sRet (fTup (aCons (fC (.str "value")) aNil)))
  sNil)
  (sSeq (sIf (bOf (fOp opGt (fCallN 1 (F 25) (aCons (fV 0) aNil)) (fC (.int 300))))
  (sRet (fTup (aCons (fC (.str "large")) aNil)))
  sNil)
  (sRet (fCallN 2 (F 30) (aCons (fV 0) (aCons (fV 1) aNil))))))
def u__law_book (F I : Nat → Fn) : FS :=
  (sSeq (sSet 1 (fCallN 3 (F 21) (aCons (fV 0) (aCons (fLv (aCons (fTup (aCons (fC (.str "aa")) (aCons (fC (.str "fun")) aNil))) (aCons (fTup (aCons (fC (.str "bb")) (aCons (fC (.str "number")) aNil))) aNil))) (aCons (fLst (aCons (fC (.int 6)) aNil)) aNil)))))
  (sSeq (sSet 2 (fCallN 4 (F 18) (aCons (fV 0) (aCons (fLv (aCons (fTup (aCons (fC (.str "bb")) (aCons (fC (.str "number")) aNil))) aNil)) (aCons (fC (.str "number")) (aCons (fLst (aCons (fC (.int 4)) aNil)) aNil))))))
  (sRet (fSlB (fTupB (aCons (fTup (aCons (fC (.str "aa")) (aCons (fV 1) aNil))) (aCons (fTup (aCons (fC (.str "bb")) (aCons (fV 2) aNil))) aNil))) (oSo (fCallN 2 (F 16) (aCons (fV 0) (aCons (fC (.int 3)) aNil)))) oNo))))
def u__law_mixed (F I : Nat → Fn) : FS :=
  (sSeq (sSet 3 (fCallN 2 (F 16) (aCons (fV 0) (aCons (fC (.int 6)) aNil))))
  (sSeq (sSet 4 (fCallN 4 (F 18) (aCons (fV 0) (aCons (fV 1) (aCons (fC (.str "any")) (aCons (fLst (aCons (fV 2) aNil)) aNil))))))
  (sSeq (sSet 5 (fCallN 4 (F 18) (aCons (fV 0) (aCons (fV 1) (aCons (fC (.str "any")) (aCons (fLst (aCons (fV 2) aNil)) aNil))))))
  (sSeq (sIf (bOf (fOp opEq (fV 3) (fC (.int 0))))
  (sRet (fTup (aCons (fC (.str "op")) (aCons (fCallN 2 (F 17) (aCons (fV 0) (aCons (fLv (aCons (fC (.str "+")) (aCons (fC (.str "-")) (aCons (fC (.str "<")) (aCons (fC (.str "==")) aNil))))) aNil))) (aCons (fV 4) (aCons (fV 5) aNil))))))
  sNil)
  (sSeq (sIf (bOf (fOp opEq (fV 3) (fC (.int 1))))
  (sRet (fTup (aCons (fC (.str "call")) (aCons (fV 4) (aCons (fV 5) aNil)))))
  sNil)
  (sSeq (sIf (bOf (fOp opEq (fV 3) (fC (.int 2))))
  (sRet (fTup (aCons (fC (.str "if")) (aCons (fV 4) (aCons (fV 5) (aCons (fCallN 2 (F 19) (aCons (fV 0) (aCons (fC (.str "number")) aNil))) aNil))))))
  sNil)
  (sSeq (sIf (bOf (fOp opEq (fV 3) (fC (.int 3))))
  (sRet (fTup (aCons (fC (.str "extend")) (aCons (fCallN 2 (F 17) (aCons (fV 0) (aCons (fLv (aCons (fC (.str "x")) (aCons (fC (.str "y")) aNil))) aNil))) (aCons (fV 4) (aCons (fV 5) aNil))))))
  sNil)
  (sSeq (sIf (bOf (fOp opEq (fV 3) (fC (.int 4))))
  (sRet (fTup (aCons (fOp opIx (fLv (aCons (fC (.str "select")) (aCons (fC (.str "drop")) aNil))) (fCallN 2 (F 16) (aCons (fV 0) (aCons (fC (.int 2)) aNil)))) (aCons (fCallN 2 (F 17) (aCons (fV 0) (aCons (fLv (aCons (fC (.str "x")) (aCons (fC (.str "y")) (aCons (fC (.str "z")) aNil)))) aNil))) (aCons (fV 4) aNil)))))
  sNil)
  (sRet (fTup (aCons (fC (.str "let")) (aCons (fC (.str "k")) (aCons (fV 4) (aCons (fTup (aCons (fC (.str "call")) (aCons (fTup (aCons (fC (.str "fun")) (aCons (fC (.str "n")) (aCons (fV 5) aNil)))) (aCons (fTup (aCons (fC (.str "name")) (aCons (fC (.str "k")) aNil))) aNil)))) aNil))))))))))))))
def u__law_great (F I : Nat → Fn) : FS :=
  (sSeq (sSet 1 (fCallN 2 (F 16) (aCons (fV 0) (aCons (fC (.int 5)) aNil))))
  (sSeq (sIf (bOf (fOp opEq (fV 1) (fC (.int 0))))
  (sSeq (sSet 2 (fTup (aCons (fC (.str "call")) (aCons (fTup (aCons (fC (.str "name")) (aCons (fC (.str "f")) aNil))) (aCons (fTup (aCons (fC (.str "name")) (aCons (fC (.str "n")) aNil))) aNil)))))
  (sRet (fTup (aCons (fC (.str "call")) (aCons (fTup (aCons (fC (.str "rec")) (aCons (fC (.str "f")) (aCons (fC (.str "n")) (aCons (fTup (aCons (fC (.str "op")) (aCons (fC (.str "+")) (aCons (fV 2) (aCons (fV 2) aNil))))) aNil))))) (aCons (fTup (aCons (fC (.str "number")) (aCons (fC (.int 0)) aNil))) aNil))))))
  sNil)
  (sSeq (sSet 3 (fTup (aCons (fC (.str "name")) (aCons (fC (.str "n")) aNil))))
  (sSeq (sSet 4 (fTup (aCons (fC (.str "extend")) (aCons (fC (.str "z")) (aCons (fV 3) (aCons (fTup (aCons (fC (.str "extend")) (aCons (fC (.str "x")) (aCons (fV 3) (aCons (fV 3) aNil))))) aNil))))))
  (sSeq (sIf (bOf (fOp opEq (fV 1) (fC (.int 1))))
  (sRet (fTup (aCons (fC (.str "call")) (aCons (fTup (aCons (fC (.str "rec")) (aCons (fC (.str "f")) (aCons (fC (.str "n")) (aCons (fTup (aCons (fC (.str "call")) (aCons (fTup (aCons (fC (.str "name")) (aCons (fC (.str "f")) aNil))) (aCons (fV 4) aNil)))) aNil))))) (aCons (fTup (aCons (fC (.str "empty")) aNil)) aNil)))))
  sNil)
  (sSeq (sIf (bOf (fOp opEq (fV 1) (fC (.int 2))))
  (sSeq (sSet 5 (fTup (aCons (fC (.str "empty")) aNil)))
  (sSeq (sFor (iRng1D (fOp opAddA (fC (.int 4)) (fCallN 2 (F 16) (aCons (fV 0) (aCons (fC (.int 3)) aNil))))) (gN 6)
  (sSet 5 (fTup (aCons (fC (.str "call")) (aCons (fTup (aCons (fC (.str "fun")) (aCons (fC (.str "n")) (aCons (fV 4) aNil)))) (aCons (fV 5) aNil))))))
  (sRet (fV 5))))
  sNil)
  (sSeq (sIf (bOf (fOp opEq (fV 1) (fC (.int 3))))
  (sRet (fTup (aCons (fC (.str "op")) (aCons (fC (.str "+")) (aCons (fTup (aCons (fC (.str "number")) (aCons (fOp opAddA (fC (.int 999998)) (fCallN 2 (F 16) (aCons (fV 0) (aCons (fC (.int 2)) aNil)))) aNil))) (aCons (fTup (aCons (fC (.str "number")) (aCons (fCallN 2 (F 16) (aCons (fV 0) (aCons (fC (.int 3)) aNil))) aNil))) aNil))))))
  sNil)
  (sRet (fTup (aCons (fC (.str "op")) (aCons (fC (.str "-")) (aCons (fTup (aCons (fC (.str "number")) (aCons (fCallN 2 (F 16) (aCons (fV 0) (aCons (fC (.int 3)) aNil))) aNil))) (aCons (fTup (aCons (fC (.str "number")) (aCons (fCallN 2 (F 16) (aCons (fV 0) (aCons (fC (.int 3)) aNil))) aNil))) aNil)))))))))))))
def u__law_running (F I : Nat → Fn) : FS :=
  (sSeq (sSet 2 (fSl (fLv (aCons (fTup (aCons (fC (.str "aa")) (aCons (fC (.str "fun")) aNil))) (aCons (fTup (aCons (fC (.str "bb")) (aCons (fC (.str "number")) aNil))) aNil))) (oSo (fOp opSub (fC (.int 2)) (fB oLen (aCons (fV 1) aNil)))) oNo))
  (sSeq (sSet 3 (fCallN 2 (F 16) (aCons (fV 0) (aCons (fC (.int 8)) aNil))))
  (sSeq (sIf (bOf (fOp opEq (fV 3) (fC (.int 0))))
  (sRet (fCallN 1 (F 34) (aCons (fV 0) aNil)))
  sNil)
  (sSeq (sIf (bOf (fOp opLt (fV 3) (fC (.int 4))))
  (sRet (fCallN 3 (F 33) (aCons (fV 0) (aCons (fV 2) (aCons (fC (.int 5)) aNil)))))
  sNil)
  (sRet (fCallN 4 (F 18) (aCons (fV 0) (aCons (fV 2) (aCons (fC (.str "any")) (aCons (fLst (aCons (fC (.int 12)) aNil)) aNil))))))))))
def u__law_run (F I : Nat → Fn) : FS :=
  (sSeq (sFor (iRng1D (fOp opAddA (fV 2) (fC (.int 1)))) (gN 3)
  (sSeq (sSet 4 (fCallN 2 (F 31) (aCons (fV 0) (aCons (fV 1) aNil))))
  (sSeq (sIf (bOf (fOp opNe (fOp opIx (fV 4) (fC (.int 0))) (fC (.str "next"))))
  (sRet (fTup (aCons (fOp opIx (fV 4) (fC (.int 0))) (aCons (fV 3) (aCons (fV 0) aNil)))))
  sNil)
  (sSeq (sIf (bOf (fOp opEq (fV 3) (fV 2)))
  (sRet (fTup (aCons (fC (.str "more")) (aCons (fV 3) (aCons (fV 0) aNil)))))
  sNil)
  (sSet 0 (fOp opIx (fV 4) (fC (.int 1))))))))
  (sRet (fTup (aCons (fC (.str "")) (aCons (fC (.int 0)) (aCons (fV 0) aNil))))))
def q_law_0 (F I : Nat → Fn) : FS :=
  (sSet 1 (fLst (aCons (fCallN 3 (F 15) (aCons (fV 0) (aCons (fC (.int 0)) (aCons (fC (.int 50)) aNil)))) (aCons (fC (.int 0)) aNil))))
def q_law_1 (F I : Nat → Fn) : FS :=
  (sSet 3 (fCallN 1 (F 32) (aCons (fV 1) aNil)))
def q_law_2 (F I : Nat → Fn) : FS :=
  (sSet 4 (fCallN 2 (F 35) (aCons (fV 1) (aCons (fV 3) aNil))))
def q_law_3 (F I : Nat → Fn) : FS :=
  (sSet 5 (fCallN 2 (F 17) (aCons (fV 1) (aCons (fLv (aCons (fC (.int 0)) (aCons (fC (.int 1)) (aCons (fC (.int 2)) (aCons (fC (.int 5)) (aCons (fC (.int 12)) (aCons (fC (.int 40)) aNil))))))) aNil))))
def q_law_4 (F I : Nat → Fn) : FS :=
  (sSet 6 (fCallN 3 (F 36) (aCons (fV 4) (aCons (fV 3) (aCons (fV 5) aNil)))))
def q_law_5 (F I : Nat → Fn) : FS :=
  (sRet (fC (.bl false)))
def q_law_6 (F I : Nat → Fn) : FS :=
  (sIf (bNot (bTru (fCallN 2 (F 14) (aCons (fCallN 3 (F 12) (aCons (fV 4) (aCons (fV 3) (aCons (fV 5) aNil)))) (aCons (fV 6) aNil)))))
  (q_law_5 F I)
  sNil)
def q_law_7 (F I : Nat → Fn) : FS :=
  (sSet 7 (fCallN 2 (F 16) (aCons (fV 1) (aCons (fOp opAddA (fV 5) (fC (.int 1))) aNil))))
def q_law_8 (F I : Nat → Fn) : FS :=
  (sSet 8 (fCallN 3 (F 12) (aCons (fV 4) (aCons (fV 3) (aCons (fV 7) aNil)))))
def q_law_9 (F I : Nat → Fn) : FS :=
  (sSet 9 (fCallN 3 (F 12) (aCons (fOp opIx (fV 8) (fC (.int 2))) (aCons (fV 3) (aCons (fOp opSub (fV 5) (fOp opIx (fV 8) (fC (.int 1)))) aNil)))))
def q_law_10 (F I : Nat → Fn) : FS :=
  (sRet (fC (.bl false)))
def q_law_11 (F I : Nat → Fn) : FS :=
  (sIf (bNot (bTru (fCallN 2 (F 14) (aCons (fTup (aCons (fOp opIx (fV 9) (fC (.int 0))) (aCons (fOp opAddA (fOp opIx (fV 8) (fC (.int 1))) (fOp opIx (fV 9) (fC (.int 1)))) (aCons (fOp opIx (fV 9) (fC (.int 2))) aNil)))) (aCons (fV 6) aNil)))))
  (q_law_10 F I)
  sNil)
def q_law_12 (F I : Nat → Fn) : FS :=
  (sFor (iRng1D (fC (.int 3))) (gN 2)
  (sSeq (q_law_1 F I)
  (sSeq (q_law_2 F I)
  (sSeq (q_law_3 F I)
  (sSeq (q_law_4 F I)
  (sSeq (q_law_6 F I)
  (sSeq (q_law_7 F I)
  (sSeq (q_law_8 F I)
  (sSeq (q_law_9 F I)
  (q_law_11 F I))))))))))
def q_law_13 (F I : Nat → Fn) : FS :=
  (sRet (fC (.bl true)))
def u_law (F I : Nat → Fn) : FS :=
  (sSeq (q_law_0 F I)
  (sSeq (q_law_12 F I)
  (q_law_13 F I)))
def table (F I : Nat → Fn) : Nat → Fn
  | 0 => runB (u_children F I) 1
  | 1 => runB (u_nodes F I) 3
  | 2 => runB (u_is_value F I) 2
  | 3 => runB (u_is_record F I) 1
  | 4 => runB (u_put_in F I) 6
  | 5 => runB (u_needed F I) 2
  | 6 => runB (u_call_step F I) 5
  | 7 => runB (u_op_step F I) 6
  | 8 => runB (u_without F I) 6
  | 9 => runB (u_own_step F I) 6
  | 10 => runB (u_next_expression F I) 4
  | 11 => runB (u_step F I) 3
  | 12 => runB (u_run F I) 5
  | 13 => runB (u__law_cell F I) 2
  | 14 => runB (u__law_same F I) 2
  | 15 => runB (u__law_digits F I) 8
  | 16 => runB (u__law_draw F I) 3
  | 17 => runB (u__law_pick F I) 2
  | 18 => runB (u__law_expression F I) 7
  | 19 => runB (u__law_leaf F I) 2
  | 20 => runB (u__law_let F I) 7
  | 21 => runB (u__law_function F I) 6
  | 22 => runB (u__law_children F I) 2
  | 23 => runB (u__law_is_value F I) 1
  | 24 => runB (u__law_substituted F I) 6
  | 25 => runB (u__law_count F I) 4
  | 26 => runB (u__law_needs F I) 2
  | 27 => runB (u__law_own_step F I) 6
  | 28 => runB (u__law_op_step F I) 4
  | 29 => runB (u__law_record_step F I) 6
  | 30 => runB (u__law_step_in F I) 4
  | 31 => runB (u__law_stepped F I) 2
  | 32 => runB (u__law_book F I) 3
  | 33 => runB (u__law_mixed F I) 6
  | 34 => runB (u__law_great F I) 7
  | 35 => runB (u__law_running F I) 4
  | 36 => runB (u__law_run F I) 5
  | 37 => runB (u_law F I) 10
  | _ => fun _ _ => .bad
/-- the inits: they call nothing of their own -/
def ini : Nat → Fn := table (fun _ _ _ => .bad) (fun _ _ _ => .bad)
def den : Nat → Nat → Fn
  | 0 => fun _ _ _ => .bad
  | k + 1 => table (den k) ini
structure Gl0 (K : PySem.W.Frag) (w : World) (mg : Str → Option Value) (cf : CF) : Prop where
  f_dict : mg "dict" = none
  f_int : mg "int" = none
  f_isinstance : mg "isinstance" = none
  f_len : mg "len" = none
  f_range : mg "range" = none
  f_repr : mg "repr" = none
  f_super : mg "super" = none
  f_tuple : mg "tuple" = none
  t_FIRST_CHILD : TabD K w mg cf "FIRST_CHILD" tab_FIRST_CHILD
  k_FUNCTIONS : ConstD K mg cf "FUNCTIONS" (.ktup [(.str "fun"), (.str "rec")])
  k_NODES_MOST : ConstD K mg cf "NODES_MOST" (.int 300)
  k_NUMBER_MOST : ConstD K mg cf "NUMBER_MOST" (.int 999999)
structure Fns (K : PySem.W.Frag) (mg : Str → Option Value) (cf : CF) : Prop where
  d_children : DefOk K mg "children" (top 2)
  d_nodes : DefOk K mg "nodes" (top 3)
  d_is_value : DefOk K mg "is_value" (top 10)
  d_is_record : DefOk K mg "is_record" (top 11)
  d_put_in : DefOk K mg "put_in" (top 12)
  d_needed : DefOk K mg "needed" (top 13)
  d_call_step : DefOk K mg "call_step" (top 14)
  d_op_step : DefOk K mg "op_step" (top 15)
  d_without : DefOk K mg "without" (top 16)
  d_own_step : DefOk K mg "own_step" (top 17)
  d_next_expression : DefOk K mg "next_expression" (top 18)
  d_step : DefOk K mg "step" (top 19)
  d_run : DefOk K mg "run" (top 20)
  d__law_cell : DefOk K mg "_law_cell" (top 22)
  d__law_same : DefOk K mg "_law_same" (top 23)
  d__law_digits : DefOk K mg "_law_digits" (top 24)
  d__law_draw : DefOk K mg "_law_draw" (top 25)
  d__law_pick : DefOk K mg "_law_pick" (top 26)
  d__law_expression : DefOk K mg "_law_expression" (top 27)
  d__law_leaf : DefOk K mg "_law_leaf" (top 28)
  d__law_let : DefOk K mg "_law_let" (top 29)
  d__law_function : DefOk K mg "_law_function" (top 30)
  d__law_children : DefOk K mg "_law_children" (top 31)
  d__law_is_value : DefOk K mg "_law_is_value" (top 32)
  d__law_substituted : DefOk K mg "_law_substituted" (top 33)
  d__law_count : DefOk K mg "_law_count" (top 34)
  d__law_needs : DefOk K mg "_law_needs" (top 35)
  d__law_own_step : DefOk K mg "_law_own_step" (top 36)
  d__law_op_step : DefOk K mg "_law_op_step" (top 37)
  d__law_record_step : DefOk K mg "_law_record_step" (top 38)
  d__law_step_in : DefOk K mg "_law_step_in" (top 39)
  d__law_stepped : DefOk K mg "_law_stepped" (top 40)
  d__law_book : DefOk K mg "_law_book" (top 41)
  d__law_mixed : DefOk K mg "_law_mixed" (top 42)
  d__law_great : DefOk K mg "_law_great" (top 43)
  d__law_running : DefOk K mg "_law_running" (top 44)
  d__law_run : DefOk K mg "_law_run" (top 45)
  d_law : DefOk K mg "law" (top 46)
/-- the defs that make a lambda: their tables of code objects -/
def tf : List He.Defn := []
structure Tbs (K : PySem.W.Frag) (mg : Str → Option Value) (base : Heap) (cf : CF) : Prop where
  eq_ : cf.tb = ([] : List (Addr × Str))
structure Exs (P : Program) (w : World) (K : PySem.W.Frag) (mg : Str → Option Value) (base : Heap) (cf : CF) : Prop where
  e_Overflow : ExcO K mg cf "Overflow"
  e_Stuck : ExcG P w K mg base cf "Stuck" 1 fe_Stuck fl_Stuck
  c_Overflow : XcOk K mg "Overflow" cf ["Overflow"] ["Stuck"]
  c_Stuck : XcOk K mg "Stuck" cf ["Stuck"] ["Overflow"]
  f_Stuck__reason : XfOk K cf "Stuck" "reason"
structure Calls (P : Program) (w : World) (K : PySem.W.Frag) (mg : Str → Option Value) (base : Heap) (cf : CF) (k : Nat) (F I : Nat → Fn) : Prop where
  c_children : CalG P w K mg base cf k "children" 1 (F 0)
  c_nodes : CalG P w K mg base cf k "nodes" 1 (F 1)
  c_is_value : CalG P w K mg base cf k "is_value" 1 (F 2)
  c_is_record : CalG P w K mg base cf k "is_record" 1 (F 3)
  c_put_in : CalG P w K mg base cf k "put_in" 3 (F 4)
  c_needed : CalG P w K mg base cf k "needed" 1 (F 5)
  c_call_step : CalG P w K mg base cf k "call_step" 1 (F 6)
  c_op_step : CalG P w K mg base cf k "op_step" 1 (F 7)
  c_without : CalG P w K mg base cf k "without" 2 (F 8)
  c_own_step : CalG P w K mg base cf k "own_step" 2 (F 9)
  c_next_expression : CalG P w K mg base cf k "next_expression" 2 (F 10)
  c_step : CalG P w K mg base cf k "step" 2 (F 11)
  c_run : CalG P w K mg base cf k "run" 3 (F 12)
  c__law_cell : CalG P w K mg base cf k "_law_cell" 2 (F 13)
  c__law_same : CalG P w K mg base cf k "_law_same" 2 (F 14)
  c__law_digits : CalG P w K mg base cf k "_law_digits" 3 (F 15)
  c__law_draw : CalG P w K mg base cf k "_law_draw" 2 (F 16)
  c__law_pick : CalG P w K mg base cf k "_law_pick" 2 (F 17)
  c__law_expression : CalG P w K mg base cf k "_law_expression" 4 (F 18)
  c__law_leaf : CalG P w K mg base cf k "_law_leaf" 2 (F 19)
  c__law_let : CalG P w K mg base cf k "_law_let" 4 (F 20)
  c__law_function : CalG P w K mg base cf k "_law_function" 3 (F 21)
  c__law_children : CalG P w K mg base cf k "_law_children" 1 (F 22)
  c__law_is_value : CalG P w K mg base cf k "_law_is_value" 1 (F 23)
  c__law_substituted : CalG P w K mg base cf k "_law_substituted" 3 (F 24)
  c__law_count : CalG P w K mg base cf k "_law_count" 1 (F 25)
  c__law_needs : CalG P w K mg base cf k "_law_needs" 1 (F 26)
  c__law_own_step : CalG P w K mg base cf k "_law_own_step" 2 (F 27)
  c__law_op_step : CalG P w K mg base cf k "_law_op_step" 1 (F 28)
  c__law_record_step : CalG P w K mg base cf k "_law_record_step" 1 (F 29)
  c__law_step_in : CalG P w K mg base cf k "_law_step_in" 2 (F 30)
  c__law_stepped : CalG P w K mg base cf k "_law_stepped" 2 (F 31)
  c__law_book : CalG P w K mg base cf k "_law_book" 1 (F 32)
  c__law_mixed : CalG P w K mg base cf k "_law_mixed" 3 (F 33)
  c__law_great : CalG P w K mg base cf k "_law_great" 1 (F 34)
  c__law_running : CalG P w K mg base cf k "_law_running" 2 (F 35)
  c__law_run : CalG P w K mg base cf k "_law_run" 3 (F 36)
  c_law : CalG P w K mg base cf k "law" 1 (F 37)
theorem S_children : FnScope ["expression"] ["expression"] (defScope (top 2)) := ⟨rfl, rfl, rfl, by decide +kernel, rfl, by decide +kernel, by decide +kernel⟩
theorem S_nodes : FnScope ["expression", "found", "child"] ["expression"] (defScope (top 3)) := ⟨rfl, rfl, rfl, by decide +kernel, rfl, by decide +kernel, by decide +kernel⟩
theorem S_is_value : FnScope ["expression", "kind"] ["expression"] (defScope (top 10)) := ⟨rfl, rfl, rfl, by decide +kernel, rfl, by decide +kernel, by decide +kernel⟩
theorem S_is_record : FnScope ["expression"] ["expression"] (defScope (top 11)) := ⟨rfl, rfl, rfl, by decide +kernel, rfl, by decide +kernel, by decide +kernel⟩
theorem S_put_in : FnScope ["expression", "name", "given", "kind", "body", "part"] ["expression", "name", "given"] (defScope (top 12)) := ⟨rfl, rfl, rfl, by decide +kernel, rfl, by decide +kernel, by decide +kernel⟩
theorem S_needed : FnScope ["expression", "kind"] ["expression"] (defScope (top 13)) := ⟨rfl, rfl, rfl, by decide +kernel, rfl, by decide +kernel, by decide +kernel⟩
theorem S_call_step : FnScope ["expression", "_", "called", "given", "body"] ["expression"] (defScope (top 14)) := ⟨rfl, rfl, rfl, by decide +kernel, rfl, by decide +kernel, by decide +kernel⟩
theorem S_op_step : FnScope ["expression", "_", "sign", "one", "other", "number"] ["expression"] (defScope (top 15)) := ⟨rfl, rfl, rfl, by decide +kernel, rfl, by decide +kernel, by decide +kernel⟩
theorem S_without : FnScope ["row", "label", "ahead", "left", "other", "value"] ["row", "label"] (defScope (top 16)) := ⟨rfl, rfl, rfl, by decide +kernel, rfl, by decide +kernel, by decide +kernel⟩
theorem S_own_step : FnScope ["expression", "book", "kind", "known", "value", "left"] ["expression", "book"] (defScope (top 17)) := ⟨rfl, rfl, rfl, by decide +kernel, rfl, by decide +kernel, by decide +kernel⟩
theorem S_next_expression : FnScope ["expression", "book", "at", "inner"] ["expression", "book"] (defScope (top 18)) := ⟨rfl, rfl, rfl, by decide +kernel, rfl, by decide +kernel, by decide +kernel⟩
theorem S_step : FnScope ["expression", "book", "e"] ["expression", "book"] (defScope (top 19)) := ⟨rfl, rfl, rfl, by decide +kernel, rfl, by decide +kernel, by decide +kernel⟩
theorem S_run : FnScope ["expression", "book", "most", "made", "told"] ["expression", "book", "most"] (defScope (top 20)) := ⟨rfl, rfl, rfl, by decide +kernel, rfl, by decide +kernel, by decide +kernel⟩
theorem S__law_cell : FnScope ["_law_script", "_law_k"] ["_law_script", "_law_k"] (defScope (top 22)) := ⟨rfl, rfl, rfl, by decide +kernel, rfl, by decide +kernel, by decide +kernel⟩
theorem S__law_same : FnScope ["_law_actual", "_law_due"] ["_law_actual", "_law_due"] (defScope (top 23)) := ⟨rfl, rfl, rfl, by decide +kernel, rfl, by decide +kernel, by decide +kernel⟩
theorem S__law_digits : FnScope ["_law_script", "_law_first", "_law_last", "_law_digits_here", "_law_k", "_law_cell_here", "_law_turn", "_law_seed"] ["_law_script", "_law_first", "_law_last"] (defScope (top 24)) := ⟨rfl, rfl, rfl, by decide +kernel, rfl, by decide +kernel, by decide +kernel⟩
theorem S__law_draw : FnScope ["_law_box", "_law_many", "_law_at"] ["_law_box", "_law_many"] (defScope (top 25)) := ⟨rfl, rfl, rfl, by decide +kernel, rfl, by decide +kernel, by decide +kernel⟩
theorem S__law_pick : FnScope ["_law_box", "_law_rows"] ["_law_box", "_law_rows"] (defScope (top 26)) := ⟨rfl, rfl, rfl, by decide +kernel, rfl, by decide +kernel, by decide +kernel⟩
theorem S__law_expression : FnScope ["_law_box", "_law_scope", "_law_kind", "_law_left", "_law_draw_here", "_law_names", "_law_pair"] ["_law_box", "_law_scope", "_law_kind", "_law_left"] (defScope (top 27)) := ⟨rfl, rfl, rfl, by decide +kernel, rfl, by decide +kernel, by decide +kernel⟩
theorem S__law_leaf : FnScope ["_law_box", "_law_kind"] ["_law_box", "_law_kind"] (defScope (top 28)) := ⟨rfl, rfl, rfl, by decide +kernel, rfl, by decide +kernel, by decide +kernel⟩
theorem S__law_let : FnScope ["_law_box", "_law_scope", "_law_kind", "_law_left", "_law_name", "_law_inner", "_law_first"] ["_law_box", "_law_scope", "_law_kind", "_law_left"] (defScope (top 29)) := ⟨rfl, rfl, rfl, by decide +kernel, rfl, by decide +kernel, by decide +kernel⟩
theorem S__law_function : FnScope ["_law_box", "_law_scope", "_law_left", "_law_name", "_law_inner", "_law_kind"] ["_law_box", "_law_scope", "_law_left"] (defScope (top 30)) := ⟨rfl, rfl, rfl, by decide +kernel, rfl, by decide +kernel, by decide +kernel⟩
theorem S__law_children : FnScope ["_law_row", "_law_part"] ["_law_row"] (defScope (top 31)) := ⟨rfl, rfl, rfl, by decide +kernel, rfl, by decide +kernel, by decide +kernel⟩
theorem S__law_is_value : FnScope ["_law_row"] ["_law_row"] (defScope (top 32)) := ⟨rfl, rfl, rfl, by decide +kernel, rfl, by decide +kernel, by decide +kernel⟩
theorem S__law_substituted : FnScope ["_law_row", "_law_name", "_law_given", "_law_word", "_law_found", "_law_part"] ["_law_row", "_law_name", "_law_given"] (defScope (top 33)) := ⟨rfl, rfl, rfl, by decide +kernel, rfl, by decide +kernel, by decide +kernel⟩
theorem S__law_count : FnScope ["_law_row", "_law_many", "_law_todo", "_law_turn"] ["_law_row"] (defScope (top 34)) := ⟨rfl, rfl, rfl, by decide +kernel, rfl, by decide +kernel, by decide +kernel⟩
theorem S__law_needs : FnScope ["_law_row", "_law_word"] ["_law_row"] (defScope (top 35)) := ⟨rfl, rfl, rfl, by decide +kernel, rfl, by decide +kernel, by decide +kernel⟩
theorem S__law_own_step : FnScope ["_law_row", "_law_book_here", "_law_word", "_law_rows", "_law_body", "_law_pair"] ["_law_row", "_law_book_here"] (defScope (top 36)) := ⟨rfl, rfl, rfl, by decide +kernel, rfl, by decide +kernel, by decide +kernel⟩
theorem S__law_op_step : FnScope ["_law_row", "_law_first", "_law_second", "_law_number"] ["_law_row"] (defScope (top 37)) := ⟨rfl, rfl, rfl, by decide +kernel, rfl, by decide +kernel, by decide +kernel⟩
theorem S__law_record_step : FnScope ["_law_row", "_law_ahead", "_law_rest", "_law_left", "_law_label", "_law_value"] ["_law_row"] (defScope (top 38)) := ⟨rfl, rfl, rfl, by decide +kernel, rfl, by decide +kernel, by decide +kernel⟩
theorem S__law_step_in : FnScope ["_law_row", "_law_book_here", "_law_k", "_law_told"] ["_law_row", "_law_book_here"] (defScope (top 39)) := ⟨rfl, rfl, rfl, by decide +kernel, rfl, by decide +kernel, by decide +kernel⟩
theorem S__law_stepped : FnScope ["_law_row", "_law_book_here"] ["_law_row", "_law_book_here"] (defScope (top 40)) := ⟨rfl, rfl, rfl, by decide +kernel, rfl, by decide +kernel, by decide +kernel⟩
theorem S__law_book : FnScope ["_law_box", "_law_first", "_law_second"] ["_law_box"] (defScope (top 41)) := ⟨rfl, rfl, rfl, by decide +kernel, rfl, by decide +kernel, by decide +kernel⟩
theorem S__law_mixed : FnScope ["_law_box", "_law_scope", "_law_left", "_law_kind", "_law_one", "_law_other"] ["_law_box", "_law_scope", "_law_left"] (defScope (top 42)) := ⟨rfl, rfl, rfl, by decide +kernel, rfl, by decide +kernel, by decide +kernel⟩
theorem S__law_great : FnScope ["_law_box", "_law_kind", "_law_again", "_law_name", "_law_more", "_law_row", "_law_turn"] ["_law_box"] (defScope (top 43)) := ⟨rfl, rfl, rfl, by decide +kernel, rfl, by decide +kernel, by decide +kernel⟩
theorem S__law_running : FnScope ["_law_box", "_law_book_here", "_law_scope", "_law_kind"] ["_law_box", "_law_book_here"] (defScope (top 44)) := ⟨rfl, rfl, rfl, by decide +kernel, rfl, by decide +kernel, by decide +kernel⟩
theorem S__law_run : FnScope ["_law_row", "_law_book_here", "_law_most", "_law_made", "_law_told"] ["_law_row", "_law_book_here", "_law_most"] (defScope (top 45)) := ⟨rfl, rfl, rfl, by decide +kernel, rfl, by decide +kernel, by decide +kernel⟩
theorem S_law : FnScope ["_law_script", "_law_box", "_law_turn", "_law_book_here", "_law_row", "_law_most", "_law_due", "_law_first", "_law_told", "_law_rest"] ["_law_script"] (defScope (top 46)) := ⟨rfl, rfl, rfl, by decide +kernel, rfl, by decide +kernel, by decide +kernel⟩
section
variable {P : Program} {w : World} {K : PySem.W.Frag} {mg : Str → Option Value} {base : Heap} {cf : CF} {F I : Nat → Fn} {k : Nat} {f : Addr} {fd : FuncData}
theorem b_children (g : Gl0 K w mg cf) (c : Calls P w K mg base cf k F I) (t : Tbs K mg base cf) (x : Exs P w K mg base cf) (hf : f = He.fAd K ("children", none)) (D : FunD K "children" "children" (defArgs (top 2)) (defBody (top 2)) (defScope (top 2)) [] [] f fd) : FnG P w K mg base (k + 1) f fd ["expression"] (spD K cf 1 (runB (u_children F I) 1)) :=
  fnG_of D S_children fun cdv cdi A outer s H E rv z po =>
  (jss_cons (js_if (jb_notinTab g.t_FIRST_CHILD rfl (je_ix z.deep (je_var 0) je_int))
  (jss_one (js_ret (je_tup ja_nil)))
  jss_nil)
  (jss_one (js_ret (je_sl (je_var 0) (jo_some (je_ixTab g.t_FIRST_CHILD rfl (je_ix z.deep (je_var 0) je_int))) jo_none))))
theorem b_nodes (g : Gl0 K w mg cf) (c : Calls P w K mg base cf k F I) (t : Tbs K mg base cf) (x : Exs P w K mg base cf) (hf : f = He.fAd K ("nodes", none)) (D : FunD K "nodes" "nodes" (defArgs (top 3)) (defBody (top 3)) (defScope (top 3)) [] [] f fd) : FnG P w K mg base (k + 1) f fd ["expression"] (spD K cf 1 (runB (u_nodes F I) 3)) :=
  fnG_of D S_nodes fun cdv cdi A outer s H E rv z po =>
  (jss_cons (js_set 1 S_nodes.nd (je_lst (ja_cons (je_var 0) ja_nil)))
  (jss_cons (js_forV po z.hc (je_call c.c_children z.hr (Nat.le_refl _) z.hg z.tk rfl (ja_cons (je_var 0) ja_nil)) (jg_name 2 S_nodes.nd)
  (jss_one (js_expr (je_extend (je_var 1) (je_call c.c_nodes z.hr (Nat.le_refl _) z.hg z.tk rfl (ja_cons (je_var 2) ja_nil))))))
  (jss_one (js_ret (je_var 1)))))
theorem b_is_value (g : Gl0 K w mg cf) (c : Calls P w K mg base cf k F I) (t : Tbs K mg base cf) (x : Exs P w K mg base cf) (hf : f = He.fAd K ("is_value", none)) (D : FunD K "is_value" "is_value" (defArgs (top 10)) (defBody (top 10)) (defScope (top 10)) [] [] f fd) : FnG P w K mg base (k + 1) f fd ["expression"] (spD K cf 1 (runB (u_is_value F I) 2)) :=
  fnG_of D S_is_value fun cdv cdi A outer s H E rv z po =>
  (jss_cons (js_set 1 S_is_value.nd (je_ix z.deep (je_var 0) je_int))
  (jss_cons (js_if (jb_eq z.deep (je_var 1) je_str)
  (jss_one (js_ret (je_and (je_call c.c_is_value z.hr (Nat.le_refl _) z.hg z.tk rfl (ja_cons (je_ix z.deep (je_var 0) je_int) ja_nil)) (je_one (je_call c.c_is_record z.hr (Nat.le_refl _) z.hg z.tk rfl (ja_cons (je_ix z.deep (je_var 0) je_int) ja_nil))))))
  jss_nil)
  (jss_one (js_ret (je_or (je_in z.deep (je_var 1) (je_tup (ja_cons je_str (ja_cons je_str (ja_cons je_str ja_nil))))) (je_one (je_in z.deep (je_var 1) (je_gconst (d := (.ktup [(.str "fun"), (.str "rec")])) g.k_FUNCTIONS rfl))))))))
theorem b_is_record (g : Gl0 K w mg cf) (c : Calls P w K mg base cf k F I) (t : Tbs K mg base cf) (x : Exs P w K mg base cf) (hf : f = He.fAd K ("is_record", none)) (D : FunD K "is_record" "is_record" (defArgs (top 11)) (defBody (top 11)) (defScope (top 11)) [] [] f fd) : FnG P w K mg base (k + 1) f fd ["expression"] (spD K cf 1 (runB (u_is_record F I) 1)) :=
  fnG_of D S_is_record fun cdv cdi A outer s H E rv z po =>
  (jss_one (js_ret (je_and (je_in z.deep (je_ix z.deep (je_var 0) je_int) (je_tup (ja_cons je_str (ja_cons je_str ja_nil)))) (je_one (je_call c.c_is_value z.hr (Nat.le_refl _) z.hg z.tk rfl (ja_cons (je_var 0) ja_nil))))))
theorem b_put_in (g : Gl0 K w mg cf) (c : Calls P w K mg base cf k F I) (t : Tbs K mg base cf) (x : Exs P w K mg base cf) (hf : f = He.fAd K ("put_in", none)) (D : FunD K "put_in" "put_in" (defArgs (top 12)) (defBody (top 12)) (defScope (top 12)) [] [] f fd) : FnG P w K mg base (k + 1) f fd ["expression", "name", "given"] (spD K cf 3 (runB (u_put_in F I) 6)) :=
  fnG_of D S_put_in fun cdv cdi A outer s H E rv z po =>
  (jss_cons (js_set 3 S_put_in.nd (je_ix z.deep (je_var 0) je_int))
  (jss_cons (js_if (jb_eq z.deep (je_var 3) je_str)
  (jss_one (js_ret (je_if (jb_eq z.deep (je_ix z.deep (je_var 0) je_int) (je_var 1)) (je_var 2) (je_var 0))))
  jss_nil)
  (jss_cons (js_if (jb_eq z.deep (je_var 3) je_str)
  (jss_one (js_ret (je_if (jb_eq z.deep (je_ix z.deep (je_var 0) je_int) (je_var 1)) (je_var 0) (je_tup (ja_cons je_str (ja_cons (je_ix z.deep (je_var 0) je_int) (ja_cons (je_call c.c_put_in z.hr (Nat.le_refl _) z.hg z.tk rfl (ja_cons (je_ix z.deep (je_var 0) je_int) (ja_cons (je_var 1) (ja_cons (je_var 2) ja_nil)))) ja_nil)))))))
  jss_nil)
  (jss_cons (js_if (jb_eq z.deep (je_var 3) je_str)
  (jss_cons (js_if (jb_in z.deep (je_var 1) (je_sl (je_var 0) (jo_some je_int) (jo_some je_int)))
  (jss_one (js_ret (je_var 0)))
  jss_nil)
  (jss_one (js_ret (je_tup (ja_cons je_str (ja_cons (je_ix z.deep (je_var 0) je_int) (ja_cons (je_ix z.deep (je_var 0) je_int) (ja_cons (je_call c.c_put_in z.hr (Nat.le_refl _) z.hg z.tk rfl (ja_cons (je_ix z.deep (je_var 0) je_int) (ja_cons (je_var 1) (ja_cons (je_var 2) ja_nil)))) ja_nil))))))))
  jss_nil)
  (jss_cons (js_if (jb_eq z.deep (je_var 3) je_str)
  (jss_cons (js_set 4 S_put_in.nd (je_if (jb_eq z.deep (je_ix z.deep (je_var 0) je_int) (je_var 1)) (je_ix z.deep (je_var 0) je_int) (je_call c.c_put_in z.hr (Nat.le_refl _) z.hg z.tk rfl (ja_cons (je_ix z.deep (je_var 0) je_int) (ja_cons (je_var 1) (ja_cons (je_var 2) ja_nil))))))
  (jss_one (js_ret (je_tup (ja_cons je_str (ja_cons (je_ix z.deep (je_var 0) je_int) (ja_cons (je_call c.c_put_in z.hr (Nat.le_refl _) z.hg z.tk rfl (ja_cons (je_ix z.deep (je_var 0) je_int) (ja_cons (je_var 1) (ja_cons (je_var 2) ja_nil)))) (ja_cons (je_var 4) ja_nil))))))))
  jss_nil)
  (jss_one (js_ret (je_tupleOf rfl g.f_tuple (je_lc (own := [("part", 5)]) finLv_ok z.hc S_put_in.nd (ji_val (je_var 0)) (blkOk_by (by kernel_rfl)) (fun _ _ _ _ _ => (jgw_name 5 (by decide) S_put_in.nd)) jts_nil (fun _ _ _ _ _ _ => (je_if (jb_tru (je_callB cr_isi oIsi2_nox rfl g.f_isinstance boot_isinstance (ja_cons (je_var 5) (ja_cons (je_ty rfl g.f_tuple boot_tuple) ja_nil)))) (je_call c.c_put_in (Cz.blk z).hr (Nat.le_refl _) (Cz.blk z).hg (Cz.blk z).tk rfl (ja_cons (je_var 5) (ja_cons (je_var 1) (ja_cons (je_var 2) ja_nil)))) (je_var 5))))))))))))
theorem b_needed (g : Gl0 K w mg cf) (c : Calls P w K mg base cf k F I) (t : Tbs K mg base cf) (x : Exs P w K mg base cf) (hf : f = He.fAd K ("needed", none)) (D : FunD K "needed" "needed" (defArgs (top 13)) (defBody (top 13)) (defScope (top 13)) [] [] f fd) : FnG P w K mg base (k + 1) f fd ["expression"] (spD K cf 1 (runB (u_needed F I) 2)) :=
  fnG_of D S_needed fun cdv cdi A outer s H E rv z po =>
  (jss_cons (js_set 1 S_needed.nd (je_ix z.deep (je_var 0) je_int))
  (jss_cons (js_if (jb_eq z.deep (je_var 1) je_str)
  (jss_one (js_ret (je_lv (ja_cons je_int (ja_cons je_int ja_nil)))))
  jss_nil)
  (jss_cons (js_if (jb_in z.deep (je_var 1) (je_tup (ja_cons je_str (ja_cons je_str (ja_cons je_str ja_nil)))))
  (jss_one (js_ret (je_lv (ja_cons je_int ja_nil))))
  jss_nil)
  (jss_cons (js_if (jb_eq z.deep (je_var 1) je_str)
  (jss_one (js_ret (je_lv (ja_cons je_int ja_nil))))
  jss_nil)
  (jss_cons (js_if (jb_in z.deep (je_var 1) (je_tup (ja_cons je_str (ja_cons je_str ja_nil))))
  (jss_one (js_ret (je_lv (ja_cons je_int (ja_cons je_int ja_nil)))))
  jss_nil)
  (jss_one (js_ret (je_lv ja_nil))))))))
theorem b_call_step (g : Gl0 K w mg cf) (c : Calls P w K mg base cf k F I) (t : Tbs K mg base cf) (x : Exs P w K mg base cf) (hf : f = He.fAd K ("call_step", none)) (D : FunD K "call_step" "call_step" (defArgs (top 14)) (defBody (top 14)) (defScope (top 14)) [] [] f fd) : FnG P w K mg base (k + 1) f fd ["expression"] (spD K cf 1 (runB (u_call_step F I) 5)) :=
  fnG_of D S_call_step fun cdv cdi A outer s H E rv z po =>
  (jss_cons (js_asg (je_var 0) (jg_tup z.hc (jgs_cons (jg_name 1 S_call_step.nd) (jgs_cons (jg_name 2 S_call_step.nd) (jgs_cons (jg_name 3 S_call_step.nd) jgs_nil)))))
  (jss_cons (js_if (jb_eq z.deep (je_ix z.deep (je_var 2) je_int) je_str)
  (jss_one (js_ret (je_call c.c_put_in z.hr (Nat.le_refl _) z.hg z.tk rfl (ja_cons (je_ix z.deep (je_var 2) je_int) (ja_cons (je_ix z.deep (je_var 2) je_int) (ja_cons (je_var 3) ja_nil))))))
  jss_nil)
  (jss_cons (js_if (jb_eq z.deep (je_ix z.deep (je_var 2) je_int) je_str)
  (jss_cons (js_set 4 S_call_step.nd (je_if (jb_eq z.deep (je_ix z.deep (je_var 2) je_int) (je_ix z.deep (je_var 2) je_int)) (je_ix z.deep (je_var 2) je_int) (je_call c.c_put_in z.hr (Nat.le_refl _) z.hg z.tk rfl (ja_cons (je_ix z.deep (je_var 2) je_int) (ja_cons (je_ix z.deep (je_var 2) je_int) (ja_cons (je_var 2) ja_nil))))))
  (jss_one (js_ret (je_call c.c_put_in z.hr (Nat.le_refl _) z.hg z.tk rfl (ja_cons (je_var 4) (ja_cons (je_ix z.deep (je_var 2) je_int) (ja_cons (je_var 3) ja_nil)))))))
  jss_nil)
  (jss_one (js_raise x.e_Stuck (by decide) (by decide) (by decide) z rfl (ja_cons je_str ja_nil))))))
theorem b_op_step (g : Gl0 K w mg cf) (c : Calls P w K mg base cf k F I) (t : Tbs K mg base cf) (x : Exs P w K mg base cf) (hf : f = He.fAd K ("op_step", none)) (D : FunD K "op_step" "op_step" (defArgs (top 15)) (defBody (top 15)) (defScope (top 15)) [] [] f fd) : FnG P w K mg base (k + 1) f fd ["expression"] (spD K cf 1 (runB (u_op_step F I) 6)) :=
  fnG_of D S_op_step fun cdv cdi A outer s H E rv z po =>
  (jss_cons (js_asg (je_var 0) (jg_tup z.hc (jgs_cons (jg_name 1 S_op_step.nd) (jgs_cons (jg_name 2 S_op_step.nd) (jgs_cons (jg_name 3 S_op_step.nd) (jgs_cons (jg_name 4 S_op_step.nd) jgs_nil))))))
  (jss_cons (js_if (JW.jb (jw_or (jb_ne z.deep (je_ix z.deep (je_var 3) je_int) je_str) (jw_one (jb_ne z.deep (je_ix z.deep (je_var 4) je_int) je_str))))
  (jss_one (js_raise x.e_Stuck (by decide) (by decide) (by decide) z rfl (ja_cons je_str ja_nil)))
  jss_nil)
  (jss_cons (js_if (jb_eq z.deep (je_var 2) je_str)
  (jss_one (js_ret (je_tup (ja_cons je_str (ja_cons (je_lt (je_ix z.deep (je_var 3) je_int) (je_ix z.deep (je_var 4) je_int)) ja_nil)))))
  jss_nil)
  (jss_cons (js_if (jb_eq z.deep (je_var 2) je_str)
  (jss_one (js_ret (je_tup (ja_cons je_str (ja_cons (je_eq z.deep (je_ix z.deep (je_var 3) je_int) (je_ix z.deep (je_var 4) je_int)) ja_nil)))))
  jss_nil)
  (jss_cons (js_set 5 S_op_step.nd (je_if (jb_eq z.deep (je_var 2) je_str) (je_addA (je_ix z.deep (je_var 3) je_int) (je_ix z.deep (je_var 4) je_int)) (je_sub (je_ix z.deep (je_var 3) je_int) (je_ix z.deep (je_var 4) je_int))))
  (jss_cons (js_if (JW.jb (jw_or (jb_lt (je_var 5) je_int) (jw_one (jb_gt (je_var 5) (je_gconst (d := (.int 999999)) g.k_NUMBER_MOST rfl)))))
  (jss_one (js_raise0 x.e_Overflow z rfl))
  jss_nil)
  (jss_one (js_ret (je_tup (ja_cons je_str (ja_cons (je_var 5) ja_nil)))))))))))
theorem b_without (g : Gl0 K w mg cf) (c : Calls P w K mg base cf k F I) (t : Tbs K mg base cf) (x : Exs P w K mg base cf) (hf : f = He.fAd K ("without", none)) (D : FunD K "without" "without" (defArgs (top 16)) (defBody (top 16)) (defScope (top 16)) [] [] f fd) : FnG P w K mg base (k + 1) f fd ["row", "label"] (spD K cf 2 (runB (u_without F I) 6)) :=
  fnG_of D S_without fun cdv cdi A outer s H E rv z po =>
  (jss_cons (js_if (jb_not (jb_tru (je_call c.c_is_record z.hr (Nat.le_refl _) z.hg z.tk rfl (ja_cons (je_var 0) ja_nil))))
  (jss_one (js_raise x.e_Stuck (by decide) (by decide) (by decide) z rfl (ja_cons je_str ja_nil)))
  jss_nil)
  (jss_cons (js_set 2 S_without.nd (je_lst ja_nil))
  (jss_cons (js_while forMost po (JW.jb (jw_and (jb_eq z.deep (je_ix z.deep (je_var 0) je_int) je_str) (jw_one (jb_ne z.deep (je_ix z.deep (je_var 0) je_int) (je_var 1)))))
  (jss_cons (js_expr (je_append (je_var 2) (je_tup (ja_cons (je_ix z.deep (je_var 0) je_int) (ja_cons (je_ix z.deep (je_var 0) je_int) ja_nil)))))
  (jss_one (js_set 0 S_without.nd (je_ix z.deep (je_var 0) je_int)))))
  (jss_cons (js_if (jb_eq z.deep (je_ix z.deep (je_var 0) je_int) je_str)
  (jss_one (js_raise x.e_Stuck (by decide) (by decide) (by decide) z rfl (ja_cons je_str ja_nil)))
  jss_nil)
  (jss_cons (js_set 3 S_without.nd (je_ix z.deep (je_var 0) je_int))
  (jss_cons (js_forV po z.hc (je_rev (je_var 2)) (jg_tup z.hc (jgs_cons (jg_name 4 S_without.nd) (jgs_cons (jg_name 5 S_without.nd) jgs_nil)))
  (jss_one (js_set 3 S_without.nd (je_tup (ja_cons je_str (ja_cons (je_var 4) (ja_cons (je_var 5) (ja_cons (je_var 3) ja_nil))))))))
  (jss_one (js_ret (je_tup (ja_cons (je_ix z.deep (je_var 0) je_int) (ja_cons (je_var 3) ja_nil)))))))))))
theorem b_own_step (g : Gl0 K w mg cf) (c : Calls P w K mg base cf k F I) (t : Tbs K mg base cf) (x : Exs P w K mg base cf) (hf : f = He.fAd K ("own_step", none)) (D : FunD K "own_step" "own_step" (defArgs (top 17)) (defBody (top 17)) (defScope (top 17)) [] [] f fd) : FnG P w K mg base (k + 1) f fd ["expression", "book"] (spD K cf 2 (runB (u_own_step F I) 6)) :=
  fnG_of D S_own_step fun cdv cdi A outer s H E rv z po =>
  (jss_cons (js_set 2 S_own_step.nd (je_ix z.deep (je_var 0) je_int))
  (jss_cons (js_if (jb_eq z.deep (je_var 2) je_str)
  (jss_cons (js_set 3 S_own_step.nd (je_callTy (cr_dictP z.hc) oDictP_nox rfl g.f_dict boot_dict (ja_cons (je_var 1) ja_nil)))
  (jss_cons (js_if (jb_notin z.deep (je_ix z.deep (je_var 0) je_int) (je_var 3))
  (jss_one (js_raise x.e_Stuck (by decide) (by decide) (by decide) z rfl (ja_cons je_str ja_nil)))
  jss_nil)
  (jss_one (js_ret (je_ix z.deep (je_var 3) (je_ix z.deep (je_var 0) je_int))))))
  jss_nil)
  (jss_cons (js_if (jb_eq z.deep (je_var 2) je_str)
  (jss_one (js_ret (je_call c.c_call_step z.hr (Nat.le_refl _) z.hg z.tk rfl (ja_cons (je_var 0) ja_nil))))
  jss_nil)
  (jss_cons (js_if (jb_eq z.deep (je_var 2) je_str)
  (jss_one (js_ret (je_call c.c_put_in z.hr (Nat.le_refl _) z.hg z.tk rfl (ja_cons (je_ix z.deep (je_var 0) je_int) (ja_cons (je_ix z.deep (je_var 0) je_int) (ja_cons (je_ix z.deep (je_var 0) je_int) ja_nil))))))
  jss_nil)
  (jss_cons (js_if (jb_eq z.deep (je_var 2) je_str)
  (jss_cons (js_if (jb_ne z.deep (je_ix z.deep (je_ix z.deep (je_var 0) je_int) je_int) je_str)
  (jss_one (js_raise x.e_Stuck (by decide) (by decide) (by decide) z rfl (ja_cons je_str ja_nil)))
  jss_nil)
  (jss_one (js_ret (je_if (jb_tru (je_ix z.deep (je_ix z.deep (je_var 0) je_int) je_int)) (je_ix z.deep (je_var 0) je_int) (je_ix z.deep (je_var 0) je_int)))))
  jss_nil)
  (jss_cons (js_if (jb_eq z.deep (je_var 2) je_str)
  (jss_one (js_ret (je_call c.c_op_step z.hr (Nat.le_refl _) z.hg z.tk rfl (ja_cons (je_var 0) ja_nil))))
  jss_nil)
  (jss_cons (js_if (jb_eq z.deep (je_var 2) je_str)
  (jss_one (js_raise x.e_Stuck (by decide) (by decide) (by decide) z rfl (ja_cons je_str ja_nil)))
  jss_nil)
  (jss_cons (js_asg (je_call c.c_without z.hr (Nat.le_refl _) z.hg z.tk rfl (ja_cons (je_ix z.deep (je_var 0) je_int) (ja_cons (je_ix z.deep (je_var 0) je_int) ja_nil))) (jg_tup z.hc (jgs_cons (jg_name 4 S_own_step.nd) (jgs_cons (jg_name 5 S_own_step.nd) jgs_nil))))
  (jss_one (js_ret (je_if (jb_eq z.deep (je_var 2) je_str) (je_var 4) (je_var 5))))))))))))
theorem b_next_expression (g : Gl0 K w mg cf) (c : Calls P w K mg base cf k F I) (t : Tbs K mg base cf) (x : Exs P w K mg base cf) (hf : f = He.fAd K ("next_expression", none)) (D : FunD K "next_expression" "next_expression" (defArgs (top 18)) (defBody (top 18)) (defScope (top 18)) [] [] f fd) : FnG P w K mg base (k + 1) f fd ["expression", "book"] (spD K cf 2 (runB (u_next_expression F I) 4)) :=
  fnG_of D S_next_expression fun cdv cdi A outer s H E rv z po =>
  (jss_cons (js_forV po z.hc (je_call c.c_needed z.hr (Nat.le_refl _) z.hg z.tk rfl (ja_cons (je_var 0) ja_nil)) (jg_name 2 S_next_expression.nd)
  (jss_one (js_if (jb_not (jb_tru (je_call c.c_is_value z.hr (Nat.le_refl _) z.hg z.tk rfl (ja_cons (je_ix z.deep (je_var 0) (je_var 2)) ja_nil))))
  (jss_cons (js_set 3 S_next_expression.nd (je_call c.c_next_expression z.hr (Nat.le_refl _) z.hg z.tk rfl (ja_cons (je_ix z.deep (je_var 0) (je_var 2)) (ja_cons (je_var 1) ja_nil))))
  (jss_one (js_ret (je_addA (je_addA (je_sl (je_var 0) jo_none (jo_some (je_var 2))) (je_tup (ja_cons (je_var 3) ja_nil))) (je_sl (je_var 0) (jo_some (je_addA (je_var 2) je_int)) jo_none)))))
  jss_nil)))
  (jss_one (js_ret (je_call c.c_own_step z.hr (Nat.le_refl _) z.hg z.tk rfl (ja_cons (je_var 0) (ja_cons (je_var 1) ja_nil))))))
theorem b_step (g : Gl0 K w mg cf) (c : Calls P w K mg base cf k F I) (t : Tbs K mg base cf) (x : Exs P w K mg base cf) (hf : f = He.fAd K ("step", none)) (D : FunD K "step" "step" (defArgs (top 19)) (defBody (top 19)) (defScope (top 19)) [] [] f fd) : FnG P w K mg base (k + 1) f fd ["expression", "book"] (spD K cf 2 (runB (u_step F I) 3)) :=
  fnG_of D S_step fun cdv cdi A outer s H E rv z po =>
  (jss_cons (js_if (jb_tru (je_call c.c_is_value z.hr (Nat.le_refl _) z.hg z.tk rfl (ja_cons (je_var 0) ja_nil)))
  (jss_one (js_ret (je_tup (ja_cons je_str ja_nil))))
  jss_nil)
  (jss_cons (js_if (jb_gt (je_callB cr_len oLen_nox rfl g.f_len boot_len (ja_cons (je_call c.c_nodes z.hr (Nat.le_refl _) z.hg z.tk rfl (ja_cons (je_var 0) ja_nil)) ja_nil)) (je_gconst (d := (.int 300)) g.k_NODES_MOST rfl))
  (jss_one (js_ret (je_tup (ja_cons je_str ja_nil))))
  jss_nil)
  (jss_one (js_try S_step.nd rfl rfl z.tk (fun W2 pn xe tk po => have z := Cz.tr z tk
  (jss_one (js_ret (je_tup (ja_cons je_str (ja_cons (je_call c.c_next_expression z.hr (Nat.le_refl _) z.hg z.tk rfl (ja_cons (je_var 0) (ja_cons (je_var 1) ja_nil))) ja_nil)))))) (.named (i := 2) ⟨rfl, rfl, .inl x.c_Stuck.g⟩ x.c_Stuck.h rfl rfl rfl (suJ1 rfl x.f_Stuck__reason.a (fun fs a o d pn hz hf => sx_ret (jx_tup (ax_cons (jx_of je_str) (ax_cons (jx_fld (i := 2) x.f_Stuck__reason.t x.f_Stuck__reason.n hz hf rfl rfl (Or.inl rfl)) ax_nil))))) (.plain ⟨rfl, rfl, .inl x.c_Overflow.g⟩ x.c_Overflow.h rfl (fun _ _ _ _ fs a o d pn _ _ => sx_of ((jss_one (js_ret (je_tup (ja_cons je_str ja_nil)))))) .nil))))))
theorem b_run (g : Gl0 K w mg cf) (c : Calls P w K mg base cf k F I) (t : Tbs K mg base cf) (x : Exs P w K mg base cf) (hf : f = He.fAd K ("run", none)) (D : FunD K "run" "run" (defArgs (top 20)) (defBody (top 20)) (defScope (top 20)) [] [] f fd) : FnG P w K mg base (k + 1) f fd ["expression", "book", "most"] (spD K cf 3 (runB (u_run F I) 5)) :=
  fnG_of D S_run fun cdv cdi A outer s H E rv z po =>
  (jss_cons (js_set 3 S_run.nd je_int)
  (jss_one (js_while forMost po (jb_tru je_bl)
  (jss_cons (js_set 4 S_run.nd (je_call c.c_step z.hr (Nat.le_refl _) z.hg z.tk rfl (ja_cons (je_var 0) (ja_cons (je_var 1) ja_nil))))
  (jss_cons (js_if (jb_ne z.deep (je_ix z.deep (je_var 4) je_int) je_str)
  (jss_one (js_ret (je_tup (ja_cons (je_ix z.deep (je_var 4) je_int) (ja_cons (je_var 3) (ja_cons (je_var 0) ja_nil))))))
  jss_nil)
  (jss_cons (js_if (jb_eq z.deep (je_var 3) (je_var 2))
  (jss_one (js_ret (je_tup (ja_cons je_str (ja_cons (je_var 3) (ja_cons (je_var 0) ja_nil))))))
  jss_nil)
  (jss_cons (js_set 0 S_run.nd (je_ix z.deep (je_var 4) je_int))
  (jss_one (js_aug 3 ip_add S_run.nd je_int)))))))))
theorem b__law_cell (g : Gl0 K w mg cf) (c : Calls P w K mg base cf k F I) (t : Tbs K mg base cf) (x : Exs P w K mg base cf) (hf : f = He.fAd K ("_law_cell", none)) (D : FunD K "_law_cell" "_law_cell" (defArgs (top 22)) (defBody (top 22)) (defScope (top 22)) [] [] f fd) : FnG P w K mg base (k + 1) f fd ["_law_script", "_law_k"] (spD K cf 2 (runB (u__law_cell F I) 2)) :=
  fnG_of D S__law_cell fun cdv cdi A outer s H E rv z po =>
  (jss_cons (js_if (jb_lt (je_var 1) (je_callB cr_len oLen_nox rfl g.f_len boot_len (ja_cons (je_var 0) ja_nil)))
  (jss_one (js_ret (je_ix z.deep (je_var 0) (je_var 1))))
  jss_nil)
  (jss_one (js_ret je_int)))
theorem b__law_same (g : Gl0 K w mg cf) (c : Calls P w K mg base cf k F I) (t : Tbs K mg base cf) (x : Exs P w K mg base cf) (hf : f = He.fAd K ("_law_same", none)) (D : FunD K "_law_same" "_law_same" (defArgs (top 23)) (defBody (top 23)) (defScope (top 23)) [] [] f fd) : FnG P w K mg base (k + 1) f fd ["_law_actual", "_law_due"] (spD K cf 2 (runB (u__law_same F I) 2)) :=
  fnG_of D S__law_same fun cdv cdi A outer s H E rv z po =>
  (jss_one (js_ret (je_eq z.deep (je_callB (cr_reprB z.hg z.deep2) oReprB_nox rfl g.f_repr boot_repr (ja_cons (je_var 0) ja_nil)) (je_callB (cr_reprB z.hg z.deep2) oReprB_nox rfl g.f_repr boot_repr (ja_cons (je_var 1) ja_nil)))))
theorem b__law_digits (g : Gl0 K w mg cf) (c : Calls P w K mg base cf k F I) (t : Tbs K mg base cf) (x : Exs P w K mg base cf) (hf : f = He.fAd K ("_law_digits", none)) (D : FunD K "_law_digits" "_law_digits" (defArgs (top 24)) (defBody (top 24)) (defScope (top 24)) [] [] f fd) : FnG P w K mg base (k + 1) f fd ["_law_script", "_law_first", "_law_last"] (spD K cf 3 (runB (u__law_digits F I) 8)) :=
  fnG_of D S__law_digits fun cdv cdi A outer s H E rv z po =>
  (jss_cons (js_set 3 S__law_digits.nd (je_lst ja_nil))
  (jss_cons (js_for po z.hc (ji_range2 rfl g.f_range (je_var 1) (je_var 2)) (jg_name 4 S__law_digits.nd)
  (jss_cons (js_set 5 S__law_digits.nd (je_call c.c__law_cell z.hr (Nat.le_refl _) z.hg z.tk rfl (ja_cons (je_var 0) (ja_cons (je_var 4) ja_nil))))
  (jss_cons (js_if (jb_lt (je_var 5) je_int)
  (jss_one (js_set 5 S__law_digits.nd (je_sub je_int (je_mul je_int (je_var 5)))))
  jss_nil)
  (jss_one (js_if (jb_ge (je_var 5) (je_pow je_int je_int))
  (jss_one (js_for po z.hc (ji_range1 rfl g.f_range je_int) (jg_name 6 S__law_digits.nd)
  (jss_one (js_if (jb_gt (je_var 5) je_int)
  (jss_cons (js_expr (je_append (je_var 3) (je_mod (je_callTy cr_int oInt_nox rfl g.f_int boot_int (ja_cons (je_var 5) ja_nil)) je_int)))
  (jss_one (js_set 5 S__law_digits.nd (je_div (je_var 5) je_int))))
  jss_nil))))
  (jss_cons (js_set 7 S__law_digits.nd (je_mod (je_callTy cr_int oInt_nox rfl g.f_int boot_int (ja_cons (je_addA (je_addA (je_mul (je_var 5) je_int) (je_mul (je_var 4) je_int)) je_int) ja_nil)) je_int))
  (jss_one (js_for po z.hc (ji_range1 rfl g.f_range je_int) (jg_name 6 S__law_digits.nd)
  (jss_cons (js_set 7 S__law_digits.nd (je_mod (je_callTy cr_int oInt_nox rfl g.f_int boot_int (ja_cons (je_addA (je_addA (je_mul (je_var 7) je_int) (je_mul je_int (je_var 6))) je_int) ja_nil)) je_int))
  (jss_one (js_expr (je_append (je_var 3) (je_mod (je_callTy cr_int oInt_nox rfl g.f_int boot_int (ja_cons (je_div (je_var 7) je_int) ja_nil)) je_int)))))))))))))
  (jss_one (js_ret (je_var 3)))))
theorem b__law_draw (g : Gl0 K w mg cf) (c : Calls P w K mg base cf k F I) (t : Tbs K mg base cf) (x : Exs P w K mg base cf) (hf : f = He.fAd K ("_law_draw", none)) (D : FunD K "_law_draw" "_law_draw" (defArgs (top 25)) (defBody (top 25)) (defScope (top 25)) [] [] f fd) : FnG P w K mg base (k + 1) f fd ["_law_box", "_law_many"] (spD K cf 2 (runB (u__law_draw F I) 3)) :=
  fnG_of D S__law_draw fun cdv cdi A outer s H E rv z po =>
  (jss_cons (js_set 2 S__law_draw.nd (je_ix z.deep (je_var 0) je_int))
  (jss_cons (js_asg (je_addA (je_var 2) je_int) (jg_sub (Nat.lt_of_le_of_lt (by omega) z.deep) (je_var 0) je_int))
  (jss_cons (js_if (jb_lt (je_var 2) (je_callB cr_len oLen_nox rfl g.f_len boot_len (ja_cons (je_ix z.deep (je_var 0) je_int) ja_nil)))
  (jss_one (js_ret (je_mod (je_callTy cr_int oInt_nox rfl g.f_int boot_int (ja_cons (je_ix z.deep (je_ix z.deep (je_var 0) je_int) (je_var 2)) ja_nil)) (je_var 1))))
  jss_nil)
  (jss_one (js_ret (je_mod (je_callTy cr_int oInt_nox rfl g.f_int boot_int (ja_cons (je_addA (je_mul (je_var 2) je_int) je_int) ja_nil)) (je_var 1)))))))
theorem b__law_pick (g : Gl0 K w mg cf) (c : Calls P w K mg base cf k F I) (t : Tbs K mg base cf) (x : Exs P w K mg base cf) (hf : f = He.fAd K ("_law_pick", none)) (D : FunD K "_law_pick" "_law_pick" (defArgs (top 26)) (defBody (top 26)) (defScope (top 26)) [] [] f fd) : FnG P w K mg base (k + 1) f fd ["_law_box", "_law_rows"] (spD K cf 2 (runB (u__law_pick F I) 2)) :=
  fnG_of D S__law_pick fun cdv cdi A outer s H E rv z po =>
  (jss_one (js_ret (je_ix z.deep (je_var 1) (je_mod (je_callTy cr_int oInt_nox rfl g.f_int boot_int (ja_cons (je_call c.c__law_draw z.hr (Nat.le_refl _) z.hg z.tk rfl (ja_cons (je_var 0) (ja_cons je_int ja_nil))) ja_nil)) (je_callB cr_len oLen_nox rfl g.f_len boot_len (ja_cons (je_var 1) ja_nil))))))
theorem b__law_expression (g : Gl0 K w mg cf) (c : Calls P w K mg base cf k F I) (t : Tbs K mg base cf) (x : Exs P w K mg base cf) (hf : f = He.fAd K ("_law_expression", none)) (D : FunD K "_law_expression" "_law_expression" (defArgs (top 27)) (defBody (top 27)) (defScope (top 27)) [] [] f fd) : FnG P w K mg base (k + 1) f fd ["_law_box", "_law_scope", "_law_kind", "_law_left"] (spD K cf 4 (runB (u__law_expression F I) 7)) :=
  fnG_of D S__law_expression fun cdv cdi A outer s H E rv z po =>
  (jss_cons (js_asg (je_sub (je_ix z.deep (je_var 3) je_int) je_int) (jg_sub (Nat.lt_of_le_of_lt (by omega) z.deep) (je_var 3) je_int))
  (jss_cons (js_set 4 S__law_expression.nd (je_call c.c__law_draw z.hr (Nat.le_refl _) z.hg z.tk rfl (ja_cons (je_var 0) (ja_cons je_int ja_nil))))
  (jss_cons (js_if (jb_eq z.deep (je_var 2) je_str)
  (jss_one (js_set 2 S__law_expression.nd (je_ix z.deep (je_lv (ja_cons je_str (ja_cons je_str (ja_cons je_str (ja_cons je_str ja_nil))))) (je_call c.c__law_draw z.hr (Nat.le_refl _) z.hg z.tk rfl (ja_cons (je_var 0) (ja_cons je_int ja_nil))))))
  jss_nil)
  (jss_cons (js_if (JW.jb (jw_and (jb_gt (je_callB cr_len oLen_nox rfl g.f_len boot_len (ja_cons (je_var 1) ja_nil)) je_int) (jw_one (JW.jb (jw_or (jb_lt (je_var 4) je_int) (jw_one (JW.jb (jw_and (jb_lt (je_ix z.deep (je_var 3) je_int) je_int) (jw_one (jb_lt (je_var 4) je_int))))))))))
  (jss_cons (js_setLc 5 (own := [("_law_pair", 6)]) finLv_ok z.hc S__law_expression.nd (ji_val (je_var 1)) (blkOk_by (by kernel_rfl)) (fun _ _ _ _ _ => (jgw_name 6 (by decide) S__law_expression.nd)) (jts_one fun _ _ _ _ _ _ => (jb_eq (Cz.blk z).deep (je_ix (Cz.blk z).deep (je_var 6) je_int) (je_var 2))) (fun _ _ _ _ _ _ => (je_ix (Cz.blk z).deep (je_var 6) je_int)))
  (jss_cons (js_if (JW.jb (jw_and (jb_gt (je_callB cr_len oLen_nox rfl g.f_len boot_len (ja_cons (je_var 5) ja_nil)) je_int) (jw_one (jb_gt (je_var 4) je_int))))
  (jss_one (js_ret (je_tup (ja_cons je_str (ja_cons (je_call c.c__law_pick z.hr (Nat.le_refl _) z.hg z.tk rfl (ja_cons (je_var 0) (ja_cons (je_var 5) ja_nil))) ja_nil)))))
  jss_nil)
  (jss_one (js_if (jb_eq z.deep (je_var 4) je_int)
  (jss_one (js_ret (je_tup (ja_cons je_str (ja_cons (je_call c.c__law_pick z.hr (Nat.le_refl _) z.hg z.tk rfl (ja_cons (je_var 0) (ja_cons (je_addA (je_lc (own := [("_law_pair", 6)]) finLv_ok z.hc S__law_expression.nd (ji_val (je_var 1)) (blkOk_by (by kernel_rfl)) (fun _ _ _ _ _ => (jgw_name 6 (by decide) S__law_expression.nd)) jts_nil (fun _ _ _ _ _ _ => (je_ix (Cz.blk z).deep (je_var 6) je_int))) (je_lv (ja_cons je_str ja_nil))) ja_nil))) ja_nil)))))
  jss_nil))))
  jss_nil)
  (jss_cons (js_if (jb_lt (je_ix z.deep (je_var 3) je_int) je_int)
  (jss_one (js_ret (je_call c.c__law_leaf z.hr (Nat.le_refl _) z.hg z.tk rfl (ja_cons (je_var 0) (ja_cons (je_var 2) ja_nil)))))
  jss_nil)
  (jss_cons (js_if (jb_eq z.deep (je_var 4) je_int)
  (jss_one (js_ret (je_call c.c__law_let z.hr (Nat.le_refl _) z.hg z.tk rfl (ja_cons (je_var 0) (ja_cons (je_var 1) (ja_cons (je_var 2) (ja_cons (je_var 3) ja_nil)))))))
  jss_nil)
  (jss_cons (js_if (jb_eq z.deep (je_var 4) je_int)
  (jss_one (js_ret (je_tup (ja_cons je_str (ja_cons (je_call c.c__law_expression z.hr (Nat.le_refl _) z.hg z.tk rfl (ja_cons (je_var 0) (ja_cons (je_var 1) (ja_cons je_str (ja_cons (je_var 3) ja_nil))))) (ja_cons (je_call c.c__law_expression z.hr (Nat.le_refl _) z.hg z.tk rfl (ja_cons (je_var 0) (ja_cons (je_var 1) (ja_cons (je_var 2) (ja_cons (je_var 3) ja_nil))))) (ja_cons (je_call c.c__law_expression z.hr (Nat.le_refl _) z.hg z.tk rfl (ja_cons (je_var 0) (ja_cons (je_var 1) (ja_cons (je_var 2) (ja_cons (je_var 3) ja_nil))))) ja_nil)))))))
  jss_nil)
  (jss_cons (js_if (jb_eq z.deep (je_var 4) je_int)
  (jss_one (js_ret (je_tup (ja_cons je_str (ja_cons (je_call c.c__law_pick z.hr (Nat.le_refl _) z.hg z.tk rfl (ja_cons (je_var 0) (ja_cons (je_lv (ja_cons je_str (ja_cons je_str ja_nil))) ja_nil))) (ja_cons (je_call c.c__law_expression z.hr (Nat.le_refl _) z.hg z.tk rfl (ja_cons (je_var 0) (ja_cons (je_var 1) (ja_cons je_str (ja_cons (je_var 3) ja_nil))))) ja_nil))))))
  jss_nil)
  (jss_cons (js_if (jb_eq z.deep (je_var 4) je_int)
  (jss_one (js_ret (je_tup (ja_cons je_str (ja_cons (je_call c.c__law_expression z.hr (Nat.le_refl _) z.hg z.tk rfl (ja_cons (je_var 0) (ja_cons (je_var 1) (ja_cons je_str (ja_cons (je_var 3) ja_nil))))) (ja_cons (je_call c.c__law_expression z.hr (Nat.le_refl _) z.hg z.tk rfl (ja_cons (je_var 0) (ja_cons (je_var 1) (ja_cons je_str (ja_cons (je_var 3) ja_nil))))) ja_nil))))))
  jss_nil)
  (jss_cons (js_if (jb_eq z.deep (je_var 2) je_str)
  (jss_one (js_ret (je_tup (ja_cons je_str (ja_cons (je_ix z.deep je_str (je_call c.c__law_draw z.hr (Nat.le_refl _) z.hg z.tk rfl (ja_cons (je_var 0) (ja_cons je_int ja_nil)))) (ja_cons (je_call c.c__law_expression z.hr (Nat.le_refl _) z.hg z.tk rfl (ja_cons (je_var 0) (ja_cons (je_var 1) (ja_cons je_str (ja_cons (je_var 3) ja_nil))))) (ja_cons (je_call c.c__law_expression z.hr (Nat.le_refl _) z.hg z.tk rfl (ja_cons (je_var 0) (ja_cons (je_var 1) (ja_cons je_str (ja_cons (je_var 3) ja_nil))))) ja_nil)))))))
  jss_nil)
  (jss_cons (js_if (jb_eq z.deep (je_var 2) je_str)
  (jss_one (js_ret (je_tup (ja_cons je_str (ja_cons (je_ix z.deep (je_lv (ja_cons je_str (ja_cons je_str ja_nil))) (je_call c.c__law_draw z.hr (Nat.le_refl _) z.hg z.tk rfl (ja_cons (je_var 0) (ja_cons je_int ja_nil)))) (ja_cons (je_call c.c__law_expression z.hr (Nat.le_refl _) z.hg z.tk rfl (ja_cons (je_var 0) (ja_cons (je_var 1) (ja_cons je_str (ja_cons (je_var 3) ja_nil))))) (ja_cons (je_call c.c__law_expression z.hr (Nat.le_refl _) z.hg z.tk rfl (ja_cons (je_var 0) (ja_cons (je_var 1) (ja_cons je_str (ja_cons (je_var 3) ja_nil))))) ja_nil)))))))
  jss_nil)
  (jss_cons (js_if (jb_eq z.deep (je_var 2) je_str)
  (jss_one (js_ret (je_call c.c__law_function z.hr (Nat.le_refl _) z.hg z.tk rfl (ja_cons (je_var 0) (ja_cons (je_var 1) (ja_cons (je_var 3) ja_nil))))))
  jss_nil)
  (jss_cons (js_if (jb_lt (je_var 4) je_int)
  (jss_one (js_ret (je_tup (ja_cons je_str (ja_cons (je_call c.c__law_pick z.hr (Nat.le_refl _) z.hg z.tk rfl (ja_cons (je_var 0) (ja_cons (je_lv (ja_cons je_str (ja_cons je_str ja_nil))) ja_nil))) (ja_cons (je_call c.c__law_expression z.hr (Nat.le_refl _) z.hg z.tk rfl (ja_cons (je_var 0) (ja_cons (je_var 1) (ja_cons je_str (ja_cons (je_var 3) ja_nil))))) ja_nil))))))
  jss_nil)
  (jss_one (js_ret (je_tup (ja_cons je_str (ja_cons (je_call c.c__law_pick z.hr (Nat.le_refl _) z.hg z.tk rfl (ja_cons (je_var 0) (ja_cons (je_lv (ja_cons je_str (ja_cons je_str (ja_cons je_str ja_nil)))) ja_nil))) (ja_cons (je_call c.c__law_expression z.hr (Nat.le_refl _) z.hg z.tk rfl (ja_cons (je_var 0) (ja_cons (je_var 1) (ja_cons je_str (ja_cons (je_var 3) ja_nil))))) (ja_cons (je_call c.c__law_expression z.hr (Nat.le_refl _) z.hg z.tk rfl (ja_cons (je_var 0) (ja_cons (je_var 1) (ja_cons je_str (ja_cons (je_var 3) ja_nil))))) ja_nil))))))))))))))))))))
theorem b__law_leaf (g : Gl0 K w mg cf) (c : Calls P w K mg base cf k F I) (t : Tbs K mg base cf) (x : Exs P w K mg base cf) (hf : f = He.fAd K ("_law_leaf", none)) (D : FunD K "_law_leaf" "_law_leaf" (defArgs (top 28)) (defBody (top 28)) (defScope (top 28)) [] [] f fd) : FnG P w K mg base (k + 1) f fd ["_law_box", "_law_kind"] (spD K cf 2 (runB (u__law_leaf F I) 2)) :=
  fnG_of D S__law_leaf fun cdv cdi A outer s H E rv z po =>
  (jss_cons (js_if (jb_eq z.deep (je_var 1) je_str)
  (jss_one (js_ret (je_tup (ja_cons je_str (ja_cons (je_ix z.deep (je_lv (ja_cons (je_call c.c__law_draw z.hr (Nat.le_refl _) z.hg z.tk rfl (ja_cons (je_var 0) (ja_cons je_int ja_nil))) (ja_cons je_int (ja_cons je_int ja_nil)))) (je_call c.c__law_draw z.hr (Nat.le_refl _) z.hg z.tk rfl (ja_cons (je_var 0) (ja_cons je_int ja_nil)))) ja_nil)))))
  jss_nil)
  (jss_cons (js_if (jb_eq z.deep (je_var 1) je_str)
  (jss_one (js_ret (je_tup (ja_cons je_str (ja_cons (je_eq z.deep (je_call c.c__law_draw z.hr (Nat.le_refl _) z.hg z.tk rfl (ja_cons (je_var 0) (ja_cons je_int ja_nil))) je_int) ja_nil)))))
  jss_nil)
  (jss_cons (js_if (jb_eq z.deep (je_var 1) je_str)
  (jss_one (js_ret (je_tup (ja_cons je_str (ja_cons je_str (ja_cons (je_tup (ja_cons je_str (ja_cons je_str ja_nil))) ja_nil))))))
  jss_nil)
  (jss_one (js_ret (je_tup (ja_cons je_str ja_nil)))))))
theorem b__law_let (g : Gl0 K w mg cf) (c : Calls P w K mg base cf k F I) (t : Tbs K mg base cf) (x : Exs P w K mg base cf) (hf : f = He.fAd K ("_law_let", none)) (D : FunD K "_law_let" "_law_let" (defArgs (top 29)) (defBody (top 29)) (defScope (top 29)) [] [] f fd) : FnG P w K mg base (k + 1) f fd ["_law_box", "_law_scope", "_law_kind", "_law_left"] (spD K cf 4 (runB (u__law_let F I) 7)) :=
  fnG_of D S__law_let fun cdv cdi A outer s H E rv z po =>
  (jss_cons (js_set 4 S__law_let.nd (je_ix z.deep (je_lv (ja_cons je_str (ja_cons je_str (ja_cons je_str ja_nil)))) (je_call c.c__law_draw z.hr (Nat.le_refl _) z.hg z.tk rfl (ja_cons (je_var 0) (ja_cons je_int ja_nil)))))
  (jss_cons (js_set 5 S__law_let.nd (je_ix z.deep (je_lv (ja_cons je_str (ja_cons je_str (ja_cons je_str (ja_cons je_str ja_nil))))) (je_call c.c__law_draw z.hr (Nat.le_refl _) z.hg z.tk rfl (ja_cons (je_var 0) (ja_cons je_int ja_nil)))))
  (jss_cons (js_set 6 S__law_let.nd (je_call c.c__law_expression z.hr (Nat.le_refl _) z.hg z.tk rfl (ja_cons (je_var 0) (ja_cons (je_var 1) (ja_cons (je_var 5) (ja_cons (je_var 3) ja_nil))))))
  (jss_one (js_ret (je_tup (ja_cons je_str (ja_cons (je_var 4) (ja_cons (je_var 6) (ja_cons (je_call c.c__law_expression z.hr (Nat.le_refl _) z.hg z.tk rfl (ja_cons (je_var 0) (ja_cons (je_addA (je_var 1) (je_lv (ja_cons (je_tup (ja_cons (je_var 4) (ja_cons (je_var 5) ja_nil))) ja_nil))) (ja_cons (je_var 2) (ja_cons (je_var 3) ja_nil))))) ja_nil))))))))))
theorem b__law_function (g : Gl0 K w mg cf) (c : Calls P w K mg base cf k F I) (t : Tbs K mg base cf) (x : Exs P w K mg base cf) (hf : f = He.fAd K ("_law_function", none)) (D : FunD K "_law_function" "_law_function" (defArgs (top 30)) (defBody (top 30)) (defScope (top 30)) [] [] f fd) : FnG P w K mg base (k + 1) f fd ["_law_box", "_law_scope", "_law_left"] (spD K cf 3 (runB (u__law_function F I) 6)) :=
  fnG_of D S__law_function fun cdv cdi A outer s H E rv z po =>
  (jss_cons (js_set 3 S__law_function.nd (je_ix z.deep (je_lv (ja_cons je_str (ja_cons je_str (ja_cons je_str ja_nil)))) (je_call c.c__law_draw z.hr (Nat.le_refl _) z.hg z.tk rfl (ja_cons (je_var 0) (ja_cons je_int ja_nil)))))
  (jss_cons (js_set 4 S__law_function.nd (je_ix z.deep (je_lv (ja_cons je_str (ja_cons je_str (ja_cons je_str (ja_cons je_str ja_nil))))) (je_call c.c__law_draw z.hr (Nat.le_refl _) z.hg z.tk rfl (ja_cons (je_var 0) (ja_cons je_int ja_nil)))))
  (jss_cons (js_set 5 S__law_function.nd (je_ix z.deep (je_lv (ja_cons je_str (ja_cons je_str (ja_cons je_str (ja_cons je_str ja_nil))))) (je_call c.c__law_draw z.hr (Nat.le_refl _) z.hg z.tk rfl (ja_cons (je_var 0) (ja_cons je_int ja_nil)))))
  (jss_cons (js_if (jb_eq z.deep (je_call c.c__law_draw z.hr (Nat.le_refl _) z.hg z.tk rfl (ja_cons (je_var 0) (ja_cons je_int ja_nil))) je_int)
  (jss_one (js_ret (je_tup (ja_cons je_str (ja_cons je_str (ja_cons (je_var 3) (ja_cons (je_call c.c__law_expression z.hr (Nat.le_refl _) z.hg z.tk rfl (ja_cons (je_var 0) (ja_cons (je_addA (je_var 1) (je_lv (ja_cons (je_tup (ja_cons je_str (ja_cons je_str ja_nil))) (ja_cons (je_tup (ja_cons (je_var 3) (ja_cons (je_var 4) ja_nil))) ja_nil)))) (ja_cons (je_var 5) (ja_cons (je_var 2) ja_nil))))) ja_nil)))))))
  jss_nil)
  (jss_one (js_ret (je_tup (ja_cons je_str (ja_cons (je_var 3) (ja_cons (je_call c.c__law_expression z.hr (Nat.le_refl _) z.hg z.tk rfl (ja_cons (je_var 0) (ja_cons (je_addA (je_var 1) (je_lv (ja_cons (je_tup (ja_cons (je_var 3) (ja_cons (je_var 4) ja_nil))) ja_nil))) (ja_cons (je_var 5) (ja_cons (je_var 2) ja_nil))))) ja_nil))))))))))
theorem b__law_children (g : Gl0 K w mg cf) (c : Calls P w K mg base cf k F I) (t : Tbs K mg base cf) (x : Exs P w K mg base cf) (hf : f = He.fAd K ("_law_children", none)) (D : FunD K "_law_children" "_law_children" (defArgs (top 31)) (defBody (top 31)) (defScope (top 31)) [] [] f fd) : FnG P w K mg base (k + 1) f fd ["_law_row"] (spD K cf 1 (runB (u__law_children F I) 2)) :=
  fnG_of D S__law_children fun cdv cdi A outer s H E rv z po =>
  (jss_one (js_ret (je_lc (own := [("_law_part", 1)]) finLv_ok z.hc S__law_children.nd (ji_val (je_sl (je_var 0) (jo_some je_int) jo_none)) (blkOk_by (by kernel_rfl)) (fun _ _ _ _ _ => (jgw_name 1 (by decide) S__law_children.nd)) (jts_one fun _ _ _ _ _ _ => (jb_tru (je_callB cr_isi oIsi2_nox rfl g.f_isinstance boot_isinstance (ja_cons (je_var 1) (ja_cons (je_ty rfl g.f_tuple boot_tuple) ja_nil))))) (fun _ _ _ _ _ _ => (je_var 1)))))
theorem b__law_is_value (g : Gl0 K w mg cf) (c : Calls P w K mg base cf k F I) (t : Tbs K mg base cf) (x : Exs P w K mg base cf) (hf : f = He.fAd K ("_law_is_value", none)) (D : FunD K "_law_is_value" "_law_is_value" (defArgs (top 32)) (defBody (top 32)) (defScope (top 32)) [] [] f fd) : FnG P w K mg base (k + 1) f fd ["_law_row"] (spD K cf 1 (runB (u__law_is_value F I) 1)) :=
  fnG_of D S__law_is_value fun cdv cdi A outer s H E rv z po =>
  (jss_cons (js_while forMost po (JW.jb (jw_and (jb_eq z.deep (je_ix z.deep (je_var 0) je_int) je_str) (jw_one (jb_tru (je_call c.c__law_is_value z.hr (Nat.le_refl _) z.hg z.tk rfl (ja_cons (je_ix z.deep (je_var 0) je_int) ja_nil))))))
  (jss_cons (js_set 0 S__law_is_value.nd (je_ix z.deep (je_var 0) je_int))
  (jss_one (js_if (JW.jb (jw_and (jb_ne z.deep (je_ix z.deep (je_var 0) je_int) je_str) (jw_one (jb_ne z.deep (je_ix z.deep (je_var 0) je_int) je_str))))
  (jss_one (js_ret je_bl))
  jss_nil))))
  (jss_one (js_ret (je_in z.deep (je_ix z.deep (je_var 0) je_int) (je_tup (ja_cons je_str (ja_cons je_str (ja_cons je_str (ja_cons je_str (ja_cons je_str ja_nil))))))))))
theorem b__law_substituted (g : Gl0 K w mg cf) (c : Calls P w K mg base cf k F I) (t : Tbs K mg base cf) (x : Exs P w K mg base cf) (hf : f = He.fAd K ("_law_substituted", none)) (D : FunD K "_law_substituted" "_law_substituted" (defArgs (top 33)) (defBody (top 33)) (defScope (top 33)) [] [] f fd) : FnG P w K mg base (k + 1) f fd ["_law_row", "_law_name", "_law_given"] (spD K cf 3 (runB (u__law_substituted F I) 6)) :=
  fnG_of D S__law_substituted fun cdv cdi A outer s H E rv z po =>
  (jss_cons (js_set 3 S__law_substituted.nd (je_ix z.deep (je_var 0) je_int))
  (jss_cons (js_if (jb_eq z.deep (je_var 3) je_str)
  (jss_one (js_ret (je_ix z.deep (je_lv (ja_cons (je_var 0) (ja_cons (je_var 2) ja_nil))) (je_callTy cr_int oInt_nox rfl g.f_int boot_int (ja_cons (je_eq z.deep (je_ix z.deep (je_var 0) je_int) (je_var 1)) ja_nil)))))
  jss_nil)
  (jss_cons (js_if (JW.jb (jw_or (JW.jb (jw_and (jb_eq z.deep (je_var 3) je_str) (jw_one (jb_eq z.deep (je_ix z.deep (je_var 0) je_int) (je_var 1))))) (jw_one (JW.jb (jw_and (jb_eq z.deep (je_var 3) je_str) (jw_one (jb_in z.deep (je_var 1) (je_sl (je_var 0) (jo_some je_int) (jo_some je_int)))))))))
  (jss_one (js_ret (je_var 0)))
  jss_nil)
  (jss_cons (js_if (JW.jb (jw_and (jb_eq z.deep (je_var 3) je_str) (jw_one (jb_eq z.deep (je_ix z.deep (je_var 0) je_int) (je_var 1)))))
  (jss_one (js_ret (je_tup (ja_cons je_str (ja_cons (je_var 1) (ja_cons (je_call c.c__law_substituted z.hr (Nat.le_refl _) z.hg z.tk rfl (ja_cons (je_ix z.deep (je_var 0) je_int) (ja_cons (je_var 1) (ja_cons (je_var 2) ja_nil)))) (ja_cons (je_ix z.deep (je_var 0) je_int) ja_nil)))))))
  jss_nil)
  (jss_cons (js_set 4 S__law_substituted.nd (je_tup ja_nil))
  (jss_cons (js_forV po z.hc (je_var 0) (jg_name 5 S__law_substituted.nd)
  (jss_cons (js_if (jb_tru (je_callB cr_isi oIsi2_nox rfl g.f_isinstance boot_isinstance (ja_cons (je_var 5) (ja_cons (je_ty rfl g.f_tuple boot_tuple) ja_nil))))
  (jss_one (js_set 5 S__law_substituted.nd (je_call c.c__law_substituted z.hr (Nat.le_refl _) z.hg z.tk rfl (ja_cons (je_var 5) (ja_cons (je_var 1) (ja_cons (je_var 2) ja_nil))))))
  jss_nil)
  (jss_one (js_set 4 S__law_substituted.nd (je_addA (je_var 4) (je_tup (ja_cons (je_var 5) ja_nil)))))))
  (jss_one (js_ret (je_var 4)))))))))
theorem b__law_count (g : Gl0 K w mg cf) (c : Calls P w K mg base cf k F I) (t : Tbs K mg base cf) (x : Exs P w K mg base cf) (hf : f = He.fAd K ("_law_count", none)) (D : FunD K "_law_count" "_law_count" (defArgs (top 34)) (defBody (top 34)) (defScope (top 34)) [] [] f fd) : FnG P w K mg base (k + 1) f fd ["_law_row"] (spD K cf 1 (runB (u__law_count F I) 4)) :=
  fnG_of D S__law_count fun cdv cdi A outer s H E rv z po =>
  (jss_cons (js_set 1 S__law_count.nd je_int)
  (jss_cons (js_set 2 S__law_count.nd (je_lst (ja_cons (je_var 0) ja_nil)))
  (jss_cons (js_for po z.hc (ji_range1 rfl g.f_range je_int) (jg_name 3 S__law_count.nd)
  (jss_one (js_if (jb_neM z.deep (je_var 2) (je_lv ja_nil))
  (jss_cons (js_set 1 S__law_count.nd (je_addA (je_var 1) je_int))
  (jss_one (js_set 2 S__law_count.nd (je_catO (je_var 2) (je_call c.c__law_children z.hr (Nat.le_refl _) z.hg z.tk rfl (ja_cons (je_pop (je_var 2)) ja_nil))))))
  jss_nil)))
  (jss_one (js_ret (je_var 1))))))
theorem b__law_needs (g : Gl0 K w mg cf) (c : Calls P w K mg base cf k F I) (t : Tbs K mg base cf) (x : Exs P w K mg base cf) (hf : f = He.fAd K ("_law_needs", none)) (D : FunD K "_law_needs" "_law_needs" (defArgs (top 35)) (defBody (top 35)) (defScope (top 35)) [] [] f fd) : FnG P w K mg base (k + 1) f fd ["_law_row"] (spD K cf 1 (runB (u__law_needs F I) 2)) :=
  fnG_of D S__law_needs fun cdv cdi A outer s H E rv z po =>
  (jss_cons (js_set 1 S__law_needs.nd (je_ix z.deep (je_var 0) je_int))
  (jss_cons (js_if (jb_in z.deep (je_var 1) (je_tup (ja_cons je_str (ja_cons je_str ja_nil))))
  (jss_one (js_ret (je_lv (ja_cons je_int (ja_cons je_int ja_nil)))))
  jss_nil)
  (jss_cons (js_if (jb_in z.deep (je_var 1) (je_tup (ja_cons je_str (ja_cons je_str (ja_cons je_str ja_nil)))))
  (jss_one (js_ret (je_lv (ja_cons je_int ja_nil))))
  jss_nil)
  (jss_one (js_ret (je_ix z.deep (je_lv (ja_cons (je_lv ja_nil) (ja_cons (je_lv (ja_cons je_int ja_nil)) (ja_cons (je_lv (ja_cons je_int (ja_cons je_int ja_nil))) ja_nil)))) (je_addA (je_callTy cr_int oInt_nox rfl g.f_int boot_int (ja_cons (je_eq z.deep (je_var 1) je_str) ja_nil)) (je_mul je_int (je_callTy cr_int oInt_nox rfl g.f_int boot_int (ja_cons (je_eq z.deep (je_var 1) je_str) ja_nil))))))))))
theorem b__law_own_step (g : Gl0 K w mg cf) (c : Calls P w K mg base cf k F I) (t : Tbs K mg base cf) (x : Exs P w K mg base cf) (hf : f = He.fAd K ("_law_own_step", none)) (D : FunD K "_law_own_step" "_law_own_step" (defArgs (top 36)) (defBody (top 36)) (defScope (top 36)) [] [] f fd) : FnG P w K mg base (k + 1) f fd ["_law_row", "_law_book_here"] (spD K cf 2 (runB (u__law_own_step F I) 6)) :=
  fnG_of D S__law_own_step fun cdv cdi A outer s H E rv z po =>
  (jss_cons (js_set 2 S__law_own_step.nd (je_ix z.deep (je_var 0) je_int))
  (jss_cons (js_if (jb_eq z.deep (je_var 2) je_str)
  (jss_cons (js_setLc 3 (own := [("_law_pair", 5)]) finLv_ok z.hc S__law_own_step.nd (ji_val (je_var 1)) (blkOk_by (by kernel_rfl)) (fun _ _ _ _ _ => (jgw_name 5 (by decide) S__law_own_step.nd)) (jts_one fun _ _ _ _ _ _ => (jb_eq (Cz.blk z).deep (je_ix (Cz.blk z).deep (je_var 5) je_int) (je_ix (Cz.blk z).deep (je_var 0) je_int))) (fun _ _ _ _ _ _ => (je_ix (Cz.blk z).deep (je_var 5) je_int)))
  (jss_cons (js_if (jb_eqM z.deep (je_var 3) (je_lv ja_nil))
  (jss_one (js_ret (je_tup (ja_cons je_str (ja_cons je_str ja_nil)))))
  jss_nil)
  (jss_one (js_ret (je_tup (ja_cons je_str (ja_cons (je_ix z.deep (je_var 3) je_int) ja_nil)))))))
  jss_nil)
  (jss_cons (js_if (JW.jb (jw_and (jb_eq z.deep (je_var 2) je_str) (jw_one (jb_eq z.deep (je_ix z.deep (je_ix z.deep (je_var 0) je_int) je_int) je_str))))
  (jss_one (js_ret (je_tup (ja_cons je_str (ja_cons (je_call c.c__law_substituted z.hr (Nat.le_refl _) z.hg z.tk rfl (ja_cons (je_ix z.deep (je_ix z.deep (je_var 0) je_int) je_int) (ja_cons (je_ix z.deep (je_ix z.deep (je_var 0) je_int) je_int) (ja_cons (je_ix z.deep (je_var 0) je_int) ja_nil)))) ja_nil)))))
  jss_nil)
  (jss_cons (js_if (JW.jb (jw_and (jb_eq z.deep (je_var 2) je_str) (jw_one (jb_eq z.deep (je_ix z.deep (je_ix z.deep (je_var 0) je_int) je_int) je_str))))
  (jss_cons (js_set 4 S__law_own_step.nd (je_ix z.deep (je_ix z.deep (je_var 0) je_int) je_int))
  (jss_cons (js_if (jb_ne z.deep (je_ix z.deep (je_ix z.deep (je_var 0) je_int) je_int) (je_ix z.deep (je_ix z.deep (je_var 0) je_int) je_int))
  (jss_one (js_set 4 S__law_own_step.nd (je_call c.c__law_substituted z.hr (Nat.le_refl _) z.hg z.tk rfl (ja_cons (je_var 4) (ja_cons (je_ix z.deep (je_ix z.deep (je_var 0) je_int) je_int) (ja_cons (je_ix z.deep (je_var 0) je_int) ja_nil))))))
  jss_nil)
  (jss_one (js_ret (je_tup (ja_cons je_str (ja_cons (je_call c.c__law_substituted z.hr (Nat.le_refl _) z.hg z.tk rfl (ja_cons (je_var 4) (ja_cons (je_ix z.deep (je_ix z.deep (je_var 0) je_int) je_int) (ja_cons (je_ix z.deep (je_var 0) je_int) ja_nil)))) ja_nil)))))))
  jss_nil)
  (jss_cons (js_if (jb_eq z.deep (je_var 2) je_str)
  (jss_one (js_ret (je_tup (ja_cons je_str (ja_cons je_str ja_nil)))))
  jss_nil)
  (jss_cons (js_if (jb_eq z.deep (je_var 2) je_str)
  (jss_one (js_ret (je_tup (ja_cons je_str (ja_cons (je_call c.c__law_substituted z.hr (Nat.le_refl _) z.hg z.tk rfl (ja_cons (je_ix z.deep (je_var 0) je_int) (ja_cons (je_ix z.deep (je_var 0) je_int) (ja_cons (je_ix z.deep (je_var 0) je_int) ja_nil)))) ja_nil)))))
  jss_nil)
  (jss_cons (js_if (JW.jb (jw_and (jb_eq z.deep (je_var 2) je_str) (jw_one (jb_eq z.deep (je_ix z.deep (je_ix z.deep (je_var 0) je_int) je_int) je_str))))
  (jss_one (js_ret (je_tup (ja_cons je_str (ja_cons (je_ix z.deep (je_lv (ja_cons (je_ix z.deep (je_var 0) je_int) (ja_cons (je_ix z.deep (je_var 0) je_int) ja_nil))) (je_callTy cr_int oInt_nox rfl g.f_int boot_int (ja_cons (je_ix z.deep (je_ix z.deep (je_var 0) je_int) je_int) ja_nil))) ja_nil)))))
  jss_nil)
  (jss_cons (js_if (jb_eq z.deep (je_var 2) je_str)
  (jss_one (js_ret (je_tup (ja_cons je_str (ja_cons je_str ja_nil)))))
  jss_nil)
  (jss_cons (js_if (jb_eq z.deep (je_var 2) je_str)
  (jss_one (js_ret (je_call c.c__law_op_step z.hr (Nat.le_refl _) z.hg z.tk rfl (ja_cons (je_var 0) ja_nil))))
  jss_nil)
  (jss_one (js_ret (je_call c.c__law_record_step z.hr (Nat.le_refl _) z.hg z.tk rfl (ja_cons (je_var 0) ja_nil)))))))))))))
theorem b__law_op_step (g : Gl0 K w mg cf) (c : Calls P w K mg base cf k F I) (t : Tbs K mg base cf) (x : Exs P w K mg base cf) (hf : f = He.fAd K ("_law_op_step", none)) (D : FunD K "_law_op_step" "_law_op_step" (defArgs (top 37)) (defBody (top 37)) (defScope (top 37)) [] [] f fd) : FnG P w K mg base (k + 1) f fd ["_law_row"] (spD K cf 1 (runB (u__law_op_step F I) 4)) :=
  fnG_of D S__law_op_step fun cdv cdi A outer s H E rv z po =>
  (jss_cons (js_if (JW.jb (jw_or (jb_ne z.deep (je_ix z.deep (je_ix z.deep (je_var 0) je_int) je_int) je_str) (jw_one (jb_ne z.deep (je_ix z.deep (je_ix z.deep (je_var 0) je_int) je_int) je_str))))
  (jss_one (js_ret (je_tup (ja_cons je_str (ja_cons je_str ja_nil)))))
  jss_nil)
  (jss_cons (js_set 1 S__law_op_step.nd (je_ix z.deep (je_ix z.deep (je_var 0) je_int) je_int))
  (jss_cons (js_set 2 S__law_op_step.nd (je_ix z.deep (je_ix z.deep (je_var 0) je_int) je_int))
  (jss_cons (js_if (JW.jb (jw_or (jb_eq z.deep (je_ix z.deep (je_var 0) je_int) je_str) (jw_one (jb_eq z.deep (je_ix z.deep (je_var 0) je_int) je_str))))
  (jss_one (js_ret (je_tup (ja_cons je_str (ja_cons (je_tup (ja_cons je_str (ja_cons (je_ix z.deep (je_lv (ja_cons (je_eq z.deep (je_var 1) (je_var 2)) (ja_cons (je_lt (je_var 1) (je_var 2)) ja_nil))) (je_callTy cr_int oInt_nox rfl g.f_int boot_int (ja_cons (je_eq z.deep (je_ix z.deep (je_var 0) je_int) je_str) ja_nil))) ja_nil))) ja_nil)))))
  jss_nil)
  (jss_cons (js_set 3 S__law_op_step.nd (je_ix z.deep (je_lv (ja_cons (je_sub (je_var 1) (je_var 2)) (ja_cons (je_addA (je_var 1) (je_var 2)) ja_nil))) (je_callTy cr_int oInt_nox rfl g.f_int boot_int (ja_cons (je_eq z.deep (je_ix z.deep (je_var 0) je_int) je_str) ja_nil))))
  (jss_cons (js_if (JW.jb (jw_or (jb_lt (je_var 3) je_int) (jw_one (jb_gt (je_var 3) je_int))))
  (jss_one (js_ret (je_tup (ja_cons je_str ja_nil))))
  jss_nil)
  (jss_one (js_ret (je_tup (ja_cons je_str (ja_cons (je_tup (ja_cons je_str (ja_cons (je_var 3) ja_nil))) ja_nil)))))))))))
theorem b__law_record_step (g : Gl0 K w mg cf) (c : Calls P w K mg base cf k F I) (t : Tbs K mg base cf) (x : Exs P w K mg base cf) (hf : f = He.fAd K ("_law_record_step", none)) (D : FunD K "_law_record_step" "_law_record_step" (defArgs (top 38)) (defBody (top 38)) (defScope (top 38)) [] [] f fd) : FnG P w K mg base (k + 1) f fd ["_law_row"] (spD K cf 1 (runB (u__law_record_step F I) 6)) :=
  fnG_of D S__law_record_step fun cdv cdi A outer s H E rv z po =>
  (jss_cons (js_if (JW.jb (jw_or (jb_eq z.deep (je_ix z.deep (je_var 0) je_int) je_str) (jw_one (JW.jb (jw_and (jb_ne z.deep (je_ix z.deep (je_ix z.deep (je_var 0) je_int) je_int) je_str) (jw_one (jb_ne z.deep (je_ix z.deep (je_ix z.deep (je_var 0) je_int) je_int) je_str)))))))
  (jss_one (js_ret (je_tup (ja_cons je_str (ja_cons je_str ja_nil)))))
  jss_nil)
  (jss_cons (js_set 1 S__law_record_step.nd (je_lst ja_nil))
  (jss_cons (js_set 2 S__law_record_step.nd (je_ix z.deep (je_var 0) je_int))
  (jss_cons (js_while forMost po (JW.jb (jw_and (jb_eq z.deep (je_ix z.deep (je_var 2) je_int) je_str) (jw_one (jb_ne z.deep (je_ix z.deep (je_var 2) je_int) (je_ix z.deep (je_var 0) je_int)))))
  (jss_cons (js_expr (je_append (je_var 1) (je_tup (ja_cons (je_ix z.deep (je_var 2) je_int) (ja_cons (je_ix z.deep (je_var 2) je_int) ja_nil)))))
  (jss_one (js_set 2 S__law_record_step.nd (je_ix z.deep (je_var 2) je_int)))))
  (jss_cons (js_if (jb_eq z.deep (je_ix z.deep (je_var 2) je_int) je_str)
  (jss_one (js_ret (je_tup (ja_cons je_str (ja_cons je_str ja_nil)))))
  jss_nil)
  (jss_cons (js_if (jb_eq z.deep (je_ix z.deep (je_var 0) je_int) je_str)
  (jss_one (js_ret (je_tup (ja_cons je_str (ja_cons (je_ix z.deep (je_var 2) je_int) ja_nil)))))
  jss_nil)
  (jss_cons (js_set 3 S__law_record_step.nd (je_ix z.deep (je_var 2) je_int))
  (jss_cons (js_forV po z.hc (je_rev (je_var 1)) (jg_tup z.hc (jgs_cons (jg_name 4 S__law_record_step.nd) (jgs_cons (jg_name 5 S__law_record_step.nd) jgs_nil)))
  (jss_one (js_set 3 S__law_record_step.nd (je_tup (ja_cons je_str (ja_cons (je_var 4) (ja_cons (je_var 5) (ja_cons (je_var 3) ja_nil))))))))
  (jss_one (js_ret (je_tup (ja_cons je_str (ja_cons (je_var 3) ja_nil)))))))))))))
theorem b__law_step_in (g : Gl0 K w mg cf) (c : Calls P w K mg base cf k F I) (t : Tbs K mg base cf) (x : Exs P w K mg base cf) (hf : f = He.fAd K ("_law_step_in", none)) (D : FunD K "_law_step_in" "_law_step_in" (defArgs (top 39)) (defBody (top 39)) (defScope (top 39)) [] [] f fd) : FnG P w K mg base (k + 1) f fd ["_law_row", "_law_book_here"] (spD K cf 2 (runB (u__law_step_in F I) 4)) :=
  fnG_of D S__law_step_in fun cdv cdi A outer s H E rv z po =>
  (jss_cons (js_forV po z.hc (je_call c.c__law_needs z.hr (Nat.le_refl _) z.hg z.tk rfl (ja_cons (je_var 0) ja_nil)) (jg_name 2 S__law_step_in.nd)
  (jss_one (js_if (jb_not (jb_tru (je_call c.c__law_is_value z.hr (Nat.le_refl _) z.hg z.tk rfl (ja_cons (je_ix z.deep (je_var 0) (je_var 2)) ja_nil))))
  (jss_cons (js_set 3 S__law_step_in.nd (je_call c.c__law_step_in z.hr (Nat.le_refl _) z.hg z.tk rfl (ja_cons (je_ix z.deep (je_var 0) (je_var 2)) (ja_cons (je_var 1) ja_nil))))
  (jss_cons (js_if (jb_ne z.deep (je_ix z.deep (je_var 3) je_int) je_str)
  (jss_one (js_ret (je_var 3)))
  jss_nil)
  (jss_one (js_ret (je_tup (ja_cons je_str (ja_cons (je_addA (je_addA (je_sl (je_var 0) jo_none (jo_some (je_var 2))) (je_tup (ja_cons (je_ix z.deep (je_var 3) je_int) ja_nil))) (je_sl (je_var 0) (jo_some (je_addA (je_var 2) je_int)) jo_none)) ja_nil)))))))
  jss_nil)))
  (jss_one (js_ret (je_call c.c__law_own_step z.hr (Nat.le_refl _) z.hg z.tk rfl (ja_cons (je_var 0) (ja_cons (je_var 1) ja_nil))))))
theorem b__law_stepped (g : Gl0 K w mg cf) (c : Calls P w K mg base cf k F I) (t : Tbs K mg base cf) (x : Exs P w K mg base cf) (hf : f = He.fAd K ("_law_stepped", none)) (D : FunD K "_law_stepped" "_law_stepped" (defArgs (top 40)) (defBody (top 40)) (defScope (top 40)) [] [] f fd) : FnG P w K mg base (k + 1) f fd ["_law_row", "_law_book_here"] (spD K cf 2 (runB (u__law_stepped F I) 2)) :=
  fnG_of D S__law_stepped fun cdv cdi A outer s H E rv z po =>
  (jss_cons (js_if (jb_tru (je_call c.c__law_is_value z.hr (Nat.le_refl _) z.hg z.tk rfl (ja_cons (je_var 0) ja_nil)))
  (jss_one (js_ret (je_tup (ja_cons je_str ja_nil))))
  jss_nil)
  (jss_cons (js_if (jb_gt (je_call c.c__law_count z.hr (Nat.le_refl _) z.hg z.tk rfl (ja_cons (je_var 0) ja_nil)) je_int)
  (jss_one (js_ret (je_tup (ja_cons je_str ja_nil))))
  jss_nil)
  (jss_one (js_ret (je_call c.c__law_step_in z.hr (Nat.le_refl _) z.hg z.tk rfl (ja_cons (je_var 0) (ja_cons (je_var 1) ja_nil)))))))
theorem b__law_book (g : Gl0 K w mg cf) (c : Calls P w K mg base cf k F I) (t : Tbs K mg base cf) (x : Exs P w K mg base cf) (hf : f = He.fAd K ("_law_book", none)) (D : FunD K "_law_book" "_law_book" (defArgs (top 41)) (defBody (top 41)) (defScope (top 41)) [] [] f fd) : FnG P w K mg base (k + 1) f fd ["_law_box"] (spD K cf 1 (runB (u__law_book F I) 3)) :=
  fnG_of D S__law_book fun cdv cdi A outer s H E rv z po =>
  (jss_cons (js_set 1 S__law_book.nd (je_call c.c__law_function z.hr (Nat.le_refl _) z.hg z.tk rfl (ja_cons (je_var 0) (ja_cons (je_lv (ja_cons (je_tup (ja_cons je_str (ja_cons je_str ja_nil))) (ja_cons (je_tup (ja_cons je_str (ja_cons je_str ja_nil))) ja_nil))) (ja_cons (je_lst (ja_cons je_int ja_nil)) ja_nil)))))
  (jss_cons (js_set 2 S__law_book.nd (je_call c.c__law_expression z.hr (Nat.le_refl _) z.hg z.tk rfl (ja_cons (je_var 0) (ja_cons (je_lv (ja_cons (je_tup (ja_cons je_str (ja_cons je_str ja_nil))) ja_nil)) (ja_cons je_str (ja_cons (je_lst (ja_cons je_int ja_nil)) ja_nil))))))
  (jss_one (js_ret (je_slB (je_tupB (ja_cons (je_tup (ja_cons je_str (ja_cons (je_var 1) ja_nil))) (ja_cons (je_tup (ja_cons je_str (ja_cons (je_var 2) ja_nil))) ja_nil))) (jo_some (je_call c.c__law_draw z.hr (Nat.le_refl _) z.hg z.tk rfl (ja_cons (je_var 0) (ja_cons je_int ja_nil)))) jo_none)))))
theorem b__law_mixed (g : Gl0 K w mg cf) (c : Calls P w K mg base cf k F I) (t : Tbs K mg base cf) (x : Exs P w K mg base cf) (hf : f = He.fAd K ("_law_mixed", none)) (D : FunD K "_law_mixed" "_law_mixed" (defArgs (top 42)) (defBody (top 42)) (defScope (top 42)) [] [] f fd) : FnG P w K mg base (k + 1) f fd ["_law_box", "_law_scope", "_law_left"] (spD K cf 3 (runB (u__law_mixed F I) 6)) :=
  fnG_of D S__law_mixed fun cdv cdi A outer s H E rv z po =>
  (jss_cons (js_set 3 S__law_mixed.nd (je_call c.c__law_draw z.hr (Nat.le_refl _) z.hg z.tk rfl (ja_cons (je_var 0) (ja_cons je_int ja_nil))))
  (jss_cons (js_set 4 S__law_mixed.nd (je_call c.c__law_expression z.hr (Nat.le_refl _) z.hg z.tk rfl (ja_cons (je_var 0) (ja_cons (je_var 1) (ja_cons je_str (ja_cons (je_lst (ja_cons (je_var 2) ja_nil)) ja_nil))))))
  (jss_cons (js_set 5 S__law_mixed.nd (je_call c.c__law_expression z.hr (Nat.le_refl _) z.hg z.tk rfl (ja_cons (je_var 0) (ja_cons (je_var 1) (ja_cons je_str (ja_cons (je_lst (ja_cons (je_var 2) ja_nil)) ja_nil))))))
  (jss_cons (js_if (jb_eq z.deep (je_var 3) je_int)
  (jss_one (js_ret (je_tup (ja_cons je_str (ja_cons (je_call c.c__law_pick z.hr (Nat.le_refl _) z.hg z.tk rfl (ja_cons (je_var 0) (ja_cons (je_lv (ja_cons je_str (ja_cons je_str (ja_cons je_str (ja_cons je_str ja_nil))))) ja_nil))) (ja_cons (je_var 4) (ja_cons (je_var 5) ja_nil)))))))
  jss_nil)
  (jss_cons (js_if (jb_eq z.deep (je_var 3) je_int)
  (jss_one (js_ret (je_tup (ja_cons je_str (ja_cons (je_var 4) (ja_cons (je_var 5) ja_nil))))))
  jss_nil)
  (jss_cons (js_if (jb_eq z.deep (je_var 3) je_int)
  (jss_one (js_ret (je_tup (ja_cons je_str (ja_cons (je_var 4) (ja_cons (je_var 5) (ja_cons (je_call c.c__law_leaf z.hr (Nat.le_refl _) z.hg z.tk rfl (ja_cons (je_var 0) (ja_cons je_str ja_nil))) ja_nil)))))))
  jss_nil)
  (jss_cons (js_if (jb_eq z.deep (je_var 3) je_int)
  (jss_one (js_ret (je_tup (ja_cons je_str (ja_cons (je_call c.c__law_pick z.hr (Nat.le_refl _) z.hg z.tk rfl (ja_cons (je_var 0) (ja_cons (je_lv (ja_cons je_str (ja_cons je_str ja_nil))) ja_nil))) (ja_cons (je_var 4) (ja_cons (je_var 5) ja_nil)))))))
  jss_nil)
  (jss_cons (js_if (jb_eq z.deep (je_var 3) je_int)
  (jss_one (js_ret (je_tup (ja_cons (je_ix z.deep (je_lv (ja_cons je_str (ja_cons je_str ja_nil))) (je_call c.c__law_draw z.hr (Nat.le_refl _) z.hg z.tk rfl (ja_cons (je_var 0) (ja_cons je_int ja_nil)))) (ja_cons (je_call c.c__law_pick z.hr (Nat.le_refl _) z.hg z.tk rfl (ja_cons (je_var 0) (ja_cons (je_lv (ja_cons je_str (ja_cons je_str (ja_cons je_str ja_nil)))) ja_nil))) (ja_cons (je_var 4) ja_nil))))))
  jss_nil)
  (jss_one (js_ret (je_tup (ja_cons je_str (ja_cons je_str (ja_cons (je_var 4) (ja_cons (je_tup (ja_cons je_str (ja_cons (je_tup (ja_cons je_str (ja_cons je_str (ja_cons (je_var 5) ja_nil)))) (ja_cons (je_tup (ja_cons je_str (ja_cons je_str ja_nil))) ja_nil)))) ja_nil)))))))))))))))
theorem b__law_great (g : Gl0 K w mg cf) (c : Calls P w K mg base cf k F I) (t : Tbs K mg base cf) (x : Exs P w K mg base cf) (hf : f = He.fAd K ("_law_great", none)) (D : FunD K "_law_great" "_law_great" (defArgs (top 43)) (defBody (top 43)) (defScope (top 43)) [] [] f fd) : FnG P w K mg base (k + 1) f fd ["_law_box"] (spD K cf 1 (runB (u__law_great F I) 7)) :=
  fnG_of D S__law_great fun cdv cdi A outer s H E rv z po =>
  (jss_cons (js_set 1 S__law_great.nd (je_call c.c__law_draw z.hr (Nat.le_refl _) z.hg z.tk rfl (ja_cons (je_var 0) (ja_cons je_int ja_nil))))
  (jss_cons (js_if (jb_eq z.deep (je_var 1) je_int)
  (jss_cons (js_set 2 S__law_great.nd (je_tup (ja_cons je_str (ja_cons (je_tup (ja_cons je_str (ja_cons je_str ja_nil))) (ja_cons (je_tup (ja_cons je_str (ja_cons je_str ja_nil))) ja_nil)))))
  (jss_one (js_ret (je_tup (ja_cons je_str (ja_cons (je_tup (ja_cons je_str (ja_cons je_str (ja_cons je_str (ja_cons (je_tup (ja_cons je_str (ja_cons je_str (ja_cons (je_var 2) (ja_cons (je_var 2) ja_nil))))) ja_nil))))) (ja_cons (je_tup (ja_cons je_str (ja_cons je_int ja_nil))) ja_nil)))))))
  jss_nil)
  (jss_cons (js_set 3 S__law_great.nd (je_tup (ja_cons je_str (ja_cons je_str ja_nil))))
  (jss_cons (js_set 4 S__law_great.nd (je_tup (ja_cons je_str (ja_cons je_str (ja_cons (je_var 3) (ja_cons (je_tup (ja_cons je_str (ja_cons je_str (ja_cons (je_var 3) (ja_cons (je_var 3) ja_nil))))) ja_nil))))))
  (jss_cons (js_if (jb_eq z.deep (je_var 1) je_int)
  (jss_one (js_ret (je_tup (ja_cons je_str (ja_cons (je_tup (ja_cons je_str (ja_cons je_str (ja_cons je_str (ja_cons (je_tup (ja_cons je_str (ja_cons (je_tup (ja_cons je_str (ja_cons je_str ja_nil))) (ja_cons (je_var 4) ja_nil)))) ja_nil))))) (ja_cons (je_tup (ja_cons je_str ja_nil)) ja_nil))))))
  jss_nil)
  (jss_cons (js_if (jb_eq z.deep (je_var 1) je_int)
  (jss_cons (js_set 5 S__law_great.nd (je_tup (ja_cons je_str ja_nil)))
  (jss_cons (js_for po z.hc (ji_range1 rfl g.f_range (je_addA je_int (je_call c.c__law_draw z.hr (Nat.le_refl _) z.hg z.tk rfl (ja_cons (je_var 0) (ja_cons je_int ja_nil))))) (jg_name 6 S__law_great.nd)
  (jss_one (js_set 5 S__law_great.nd (je_tup (ja_cons je_str (ja_cons (je_tup (ja_cons je_str (ja_cons je_str (ja_cons (je_var 4) ja_nil)))) (ja_cons (je_var 5) ja_nil)))))))
  (jss_one (js_ret (je_var 5)))))
  jss_nil)
  (jss_cons (js_if (jb_eq z.deep (je_var 1) je_int)
  (jss_one (js_ret (je_tup (ja_cons je_str (ja_cons je_str (ja_cons (je_tup (ja_cons je_str (ja_cons (je_addA je_int (je_call c.c__law_draw z.hr (Nat.le_refl _) z.hg z.tk rfl (ja_cons (je_var 0) (ja_cons je_int ja_nil)))) ja_nil))) (ja_cons (je_tup (ja_cons je_str (ja_cons (je_call c.c__law_draw z.hr (Nat.le_refl _) z.hg z.tk rfl (ja_cons (je_var 0) (ja_cons je_int ja_nil))) ja_nil))) ja_nil)))))))
  jss_nil)
  (jss_one (js_ret (je_tup (ja_cons je_str (ja_cons je_str (ja_cons (je_tup (ja_cons je_str (ja_cons (je_call c.c__law_draw z.hr (Nat.le_refl _) z.hg z.tk rfl (ja_cons (je_var 0) (ja_cons je_int ja_nil))) ja_nil))) (ja_cons (je_tup (ja_cons je_str (ja_cons (je_call c.c__law_draw z.hr (Nat.le_refl _) z.hg z.tk rfl (ja_cons (je_var 0) (ja_cons je_int ja_nil))) ja_nil))) ja_nil))))))))))))))
theorem b__law_running (g : Gl0 K w mg cf) (c : Calls P w K mg base cf k F I) (t : Tbs K mg base cf) (x : Exs P w K mg base cf) (hf : f = He.fAd K ("_law_running", none)) (D : FunD K "_law_running" "_law_running" (defArgs (top 44)) (defBody (top 44)) (defScope (top 44)) [] [] f fd) : FnG P w K mg base (k + 1) f fd ["_law_box", "_law_book_here"] (spD K cf 2 (runB (u__law_running F I) 4)) :=
  fnG_of D S__law_running fun cdv cdi A outer s H E rv z po =>
  (jss_cons (js_set 2 S__law_running.nd (je_sl (je_lv (ja_cons (je_tup (ja_cons je_str (ja_cons je_str ja_nil))) (ja_cons (je_tup (ja_cons je_str (ja_cons je_str ja_nil))) ja_nil))) (jo_some (je_sub je_int (je_callB cr_len oLen_nox rfl g.f_len boot_len (ja_cons (je_var 1) ja_nil)))) jo_none))
  (jss_cons (js_set 3 S__law_running.nd (je_call c.c__law_draw z.hr (Nat.le_refl _) z.hg z.tk rfl (ja_cons (je_var 0) (ja_cons je_int ja_nil))))
  (jss_cons (js_if (jb_eq z.deep (je_var 3) je_int)
  (jss_one (js_ret (je_call c.c__law_great z.hr (Nat.le_refl _) z.hg z.tk rfl (ja_cons (je_var 0) ja_nil))))
  jss_nil)
  (jss_cons (js_if (jb_lt (je_var 3) je_int)
  (jss_one (js_ret (je_call c.c__law_mixed z.hr (Nat.le_refl _) z.hg z.tk rfl (ja_cons (je_var 0) (ja_cons (je_var 2) (ja_cons je_int ja_nil))))))
  jss_nil)
  (jss_one (js_ret (je_call c.c__law_expression z.hr (Nat.le_refl _) z.hg z.tk rfl (ja_cons (je_var 0) (ja_cons (je_var 2) (ja_cons je_str (ja_cons (je_lst (ja_cons je_int ja_nil)) ja_nil)))))))))))
theorem b__law_run (g : Gl0 K w mg cf) (c : Calls P w K mg base cf k F I) (t : Tbs K mg base cf) (x : Exs P w K mg base cf) (hf : f = He.fAd K ("_law_run", none)) (D : FunD K "_law_run" "_law_run" (defArgs (top 45)) (defBody (top 45)) (defScope (top 45)) [] [] f fd) : FnG P w K mg base (k + 1) f fd ["_law_row", "_law_book_here", "_law_most"] (spD K cf 3 (runB (u__law_run F I) 5)) :=
  fnG_of D S__law_run fun cdv cdi A outer s H E rv z po =>
  (jss_cons (js_for po z.hc (ji_range1 rfl g.f_range (je_addA (je_var 2) je_int)) (jg_name 3 S__law_run.nd)
  (jss_cons (js_set 4 S__law_run.nd (je_call c.c__law_stepped z.hr (Nat.le_refl _) z.hg z.tk rfl (ja_cons (je_var 0) (ja_cons (je_var 1) ja_nil))))
  (jss_cons (js_if (jb_ne z.deep (je_ix z.deep (je_var 4) je_int) je_str)
  (jss_one (js_ret (je_tup (ja_cons (je_ix z.deep (je_var 4) je_int) (ja_cons (je_var 3) (ja_cons (je_var 0) ja_nil))))))
  jss_nil)
  (jss_cons (js_if (jb_eq z.deep (je_var 3) (je_var 2))
  (jss_one (js_ret (je_tup (ja_cons je_str (ja_cons (je_var 3) (ja_cons (je_var 0) ja_nil))))))
  jss_nil)
  (jss_one (js_set 0 S__law_run.nd (je_ix z.deep (je_var 4) je_int)))))))
  (jss_one (js_ret (je_tup (ja_cons je_str (ja_cons je_int (ja_cons (je_var 0) ja_nil)))))))
theorem b_law (g : Gl0 K w mg cf) (c : Calls P w K mg base cf k F I) (t : Tbs K mg base cf) (x : Exs P w K mg base cf) (hf : f = He.fAd K ("law", none)) (D : FunD K "law" "law" (defArgs (top 46)) (defBody (top 46)) (defScope (top 46)) [] [] f fd) : FnG P w K mg base (k + 1) f fd ["_law_script"] (spD K cf 1 (runB (u_law F I) 10)) :=
  fnG_of D S_law fun cdv cdi A outer s H E rv z po =>
  (jss_cons (js_set 1 S_law.nd (je_lst (ja_cons (je_call c.c__law_digits z.hr (Nat.le_refl _) z.hg z.tk rfl (ja_cons (je_var 0) (ja_cons je_int (ja_cons je_int ja_nil)))) (ja_cons je_int ja_nil))))
  (jss_cons (js_for po z.hc (ji_range1 rfl g.f_range je_int) (jg_name 2 S_law.nd)
  (jss_cons (js_set 3 S_law.nd (je_call c.c__law_book z.hr (Nat.le_refl _) z.hg z.tk rfl (ja_cons (je_var 1) ja_nil)))
  (jss_cons (js_set 4 S_law.nd (je_call c.c__law_running z.hr (Nat.le_refl _) z.hg z.tk rfl (ja_cons (je_var 1) (ja_cons (je_var 3) ja_nil))))
  (jss_cons (js_set 5 S_law.nd (je_call c.c__law_pick z.hr (Nat.le_refl _) z.hg z.tk rfl (ja_cons (je_var 1) (ja_cons (je_lv (ja_cons je_int (ja_cons je_int (ja_cons je_int (ja_cons je_int (ja_cons je_int (ja_cons je_int ja_nil))))))) ja_nil))))
  (jss_cons (js_set 6 S_law.nd (je_call c.c__law_run z.hr (Nat.le_refl _) z.hg z.tk rfl (ja_cons (je_var 4) (ja_cons (je_var 3) (ja_cons (je_var 5) ja_nil)))))
  (jss_cons (js_if (jb_not (jb_tru (je_call c.c__law_same z.hr (Nat.le_refl _) z.hg z.tk rfl (ja_cons (je_call c.c_run z.hr (Nat.le_refl _) z.hg z.tk rfl (ja_cons (je_var 4) (ja_cons (je_var 3) (ja_cons (je_var 5) ja_nil)))) (ja_cons (je_var 6) ja_nil)))))
  (jss_one (js_ret je_bl))
  jss_nil)
  (jss_cons (js_set 7 S_law.nd (je_call c.c__law_draw z.hr (Nat.le_refl _) z.hg z.tk rfl (ja_cons (je_var 1) (ja_cons (je_addA (je_var 5) je_int) ja_nil))))
  (jss_cons (js_set 8 S_law.nd (je_call c.c_run z.hr (Nat.le_refl _) z.hg z.tk rfl (ja_cons (je_var 4) (ja_cons (je_var 3) (ja_cons (je_var 7) ja_nil)))))
  (jss_cons (js_set 9 S_law.nd (je_call c.c_run z.hr (Nat.le_refl _) z.hg z.tk rfl (ja_cons (je_ix z.deep (je_var 8) je_int) (ja_cons (je_var 3) (ja_cons (je_sub (je_var 5) (je_ix z.deep (je_var 8) je_int)) ja_nil)))))
  (jss_one (js_if (jb_not (jb_tru (je_call c.c__law_same z.hr (Nat.le_refl _) z.hg z.tk rfl (ja_cons (je_tup (ja_cons (je_ix z.deep (je_var 9) je_int) (ja_cons (je_addA (je_ix z.deep (je_var 8) je_int) (je_ix z.deep (je_var 9) je_int)) (ja_cons (je_ix z.deep (je_var 9) je_int) ja_nil)))) (ja_cons (je_var 6) ja_nil)))))
  (jss_one (js_ret je_bl))
  jss_nil)))))))))))
  (jss_one (js_ret je_bl))))
end
section
variable {P : Program} {w : World} {K : PySem.W.Frag} {mg : Str → Option Value} {base : Heap} {cf : CF}
def bads : Nat → Fn := fun _ _ _ => .bad
theorem calls0 (d : Fns K mg cf) : Calls P w K mg base cf 0 bads bads where
  c_children := (d.d_children).cal (ps := ["expression"]) rfl (fun _ _ => fnG_bad rfl) (fun _ _ _ _ _ _ us hl => match us, hl with | [_], _ => rfl)
  c_nodes := (d.d_nodes).cal (ps := ["expression"]) rfl (fun _ _ => fnG_bad rfl) (fun _ _ _ _ _ _ us hl => match us, hl with | [_], _ => rfl)
  c_is_value := (d.d_is_value).cal (ps := ["expression"]) rfl (fun _ _ => fnG_bad rfl) (fun _ _ _ _ _ _ us hl => match us, hl with | [_], _ => rfl)
  c_is_record := (d.d_is_record).cal (ps := ["expression"]) rfl (fun _ _ => fnG_bad rfl) (fun _ _ _ _ _ _ us hl => match us, hl with | [_], _ => rfl)
  c_put_in := (d.d_put_in).cal (ps := ["expression", "name", "given"]) rfl (fun _ _ => fnG_bad rfl) (fun _ _ _ _ _ _ us hl => match us, hl with | [_, _, _], _ => rfl)
  c_needed := (d.d_needed).cal (ps := ["expression"]) rfl (fun _ _ => fnG_bad rfl) (fun _ _ _ _ _ _ us hl => match us, hl with | [_], _ => rfl)
  c_call_step := (d.d_call_step).cal (ps := ["expression"]) rfl (fun _ _ => fnG_bad rfl) (fun _ _ _ _ _ _ us hl => match us, hl with | [_], _ => rfl)
  c_op_step := (d.d_op_step).cal (ps := ["expression"]) rfl (fun _ _ => fnG_bad rfl) (fun _ _ _ _ _ _ us hl => match us, hl with | [_], _ => rfl)
  c_without := (d.d_without).cal (ps := ["row", "label"]) rfl (fun _ _ => fnG_bad rfl) (fun _ _ _ _ _ _ us hl => match us, hl with | [_, _], _ => rfl)
  c_own_step := (d.d_own_step).cal (ps := ["expression", "book"]) rfl (fun _ _ => fnG_bad rfl) (fun _ _ _ _ _ _ us hl => match us, hl with | [_, _], _ => rfl)
  c_next_expression := (d.d_next_expression).cal (ps := ["expression", "book"]) rfl (fun _ _ => fnG_bad rfl) (fun _ _ _ _ _ _ us hl => match us, hl with | [_, _], _ => rfl)
  c_step := (d.d_step).cal (ps := ["expression", "book"]) rfl (fun _ _ => fnG_bad rfl) (fun _ _ _ _ _ _ us hl => match us, hl with | [_, _], _ => rfl)
  c_run := (d.d_run).cal (ps := ["expression", "book", "most"]) rfl (fun _ _ => fnG_bad rfl) (fun _ _ _ _ _ _ us hl => match us, hl with | [_, _, _], _ => rfl)
  c__law_cell := (d.d__law_cell).cal (ps := ["_law_script", "_law_k"]) rfl (fun _ _ => fnG_bad rfl) (fun _ _ _ _ _ _ us hl => match us, hl with | [_, _], _ => rfl)
  c__law_same := (d.d__law_same).cal (ps := ["_law_actual", "_law_due"]) rfl (fun _ _ => fnG_bad rfl) (fun _ _ _ _ _ _ us hl => match us, hl with | [_, _], _ => rfl)
  c__law_digits := (d.d__law_digits).cal (ps := ["_law_script", "_law_first", "_law_last"]) rfl (fun _ _ => fnG_bad rfl) (fun _ _ _ _ _ _ us hl => match us, hl with | [_, _, _], _ => rfl)
  c__law_draw := (d.d__law_draw).cal (ps := ["_law_box", "_law_many"]) rfl (fun _ _ => fnG_bad rfl) (fun _ _ _ _ _ _ us hl => match us, hl with | [_, _], _ => rfl)
  c__law_pick := (d.d__law_pick).cal (ps := ["_law_box", "_law_rows"]) rfl (fun _ _ => fnG_bad rfl) (fun _ _ _ _ _ _ us hl => match us, hl with | [_, _], _ => rfl)
  c__law_expression := (d.d__law_expression).cal (ps := ["_law_box", "_law_scope", "_law_kind", "_law_left"]) rfl (fun _ _ => fnG_bad rfl) (fun _ _ _ _ _ _ us hl => match us, hl with | [_, _, _, _], _ => rfl)
  c__law_leaf := (d.d__law_leaf).cal (ps := ["_law_box", "_law_kind"]) rfl (fun _ _ => fnG_bad rfl) (fun _ _ _ _ _ _ us hl => match us, hl with | [_, _], _ => rfl)
  c__law_let := (d.d__law_let).cal (ps := ["_law_box", "_law_scope", "_law_kind", "_law_left"]) rfl (fun _ _ => fnG_bad rfl) (fun _ _ _ _ _ _ us hl => match us, hl with | [_, _, _, _], _ => rfl)
  c__law_function := (d.d__law_function).cal (ps := ["_law_box", "_law_scope", "_law_left"]) rfl (fun _ _ => fnG_bad rfl) (fun _ _ _ _ _ _ us hl => match us, hl with | [_, _, _], _ => rfl)
  c__law_children := (d.d__law_children).cal (ps := ["_law_row"]) rfl (fun _ _ => fnG_bad rfl) (fun _ _ _ _ _ _ us hl => match us, hl with | [_], _ => rfl)
  c__law_is_value := (d.d__law_is_value).cal (ps := ["_law_row"]) rfl (fun _ _ => fnG_bad rfl) (fun _ _ _ _ _ _ us hl => match us, hl with | [_], _ => rfl)
  c__law_substituted := (d.d__law_substituted).cal (ps := ["_law_row", "_law_name", "_law_given"]) rfl (fun _ _ => fnG_bad rfl) (fun _ _ _ _ _ _ us hl => match us, hl with | [_, _, _], _ => rfl)
  c__law_count := (d.d__law_count).cal (ps := ["_law_row"]) rfl (fun _ _ => fnG_bad rfl) (fun _ _ _ _ _ _ us hl => match us, hl with | [_], _ => rfl)
  c__law_needs := (d.d__law_needs).cal (ps := ["_law_row"]) rfl (fun _ _ => fnG_bad rfl) (fun _ _ _ _ _ _ us hl => match us, hl with | [_], _ => rfl)
  c__law_own_step := (d.d__law_own_step).cal (ps := ["_law_row", "_law_book_here"]) rfl (fun _ _ => fnG_bad rfl) (fun _ _ _ _ _ _ us hl => match us, hl with | [_, _], _ => rfl)
  c__law_op_step := (d.d__law_op_step).cal (ps := ["_law_row"]) rfl (fun _ _ => fnG_bad rfl) (fun _ _ _ _ _ _ us hl => match us, hl with | [_], _ => rfl)
  c__law_record_step := (d.d__law_record_step).cal (ps := ["_law_row"]) rfl (fun _ _ => fnG_bad rfl) (fun _ _ _ _ _ _ us hl => match us, hl with | [_], _ => rfl)
  c__law_step_in := (d.d__law_step_in).cal (ps := ["_law_row", "_law_book_here"]) rfl (fun _ _ => fnG_bad rfl) (fun _ _ _ _ _ _ us hl => match us, hl with | [_, _], _ => rfl)
  c__law_stepped := (d.d__law_stepped).cal (ps := ["_law_row", "_law_book_here"]) rfl (fun _ _ => fnG_bad rfl) (fun _ _ _ _ _ _ us hl => match us, hl with | [_, _], _ => rfl)
  c__law_book := (d.d__law_book).cal (ps := ["_law_box"]) rfl (fun _ _ => fnG_bad rfl) (fun _ _ _ _ _ _ us hl => match us, hl with | [_], _ => rfl)
  c__law_mixed := (d.d__law_mixed).cal (ps := ["_law_box", "_law_scope", "_law_left"]) rfl (fun _ _ => fnG_bad rfl) (fun _ _ _ _ _ _ us hl => match us, hl with | [_, _, _], _ => rfl)
  c__law_great := (d.d__law_great).cal (ps := ["_law_box"]) rfl (fun _ _ => fnG_bad rfl) (fun _ _ _ _ _ _ us hl => match us, hl with | [_], _ => rfl)
  c__law_running := (d.d__law_running).cal (ps := ["_law_box", "_law_book_here"]) rfl (fun _ _ => fnG_bad rfl) (fun _ _ _ _ _ _ us hl => match us, hl with | [_, _], _ => rfl)
  c__law_run := (d.d__law_run).cal (ps := ["_law_row", "_law_book_here", "_law_most"]) rfl (fun _ _ => fnG_bad rfl) (fun _ _ _ _ _ _ us hl => match us, hl with | [_, _, _], _ => rfl)
  c_law := (d.d_law).cal (ps := ["_law_script"]) rfl (fun _ _ => fnG_bad rfl) (fun _ _ _ _ _ _ us hl => match us, hl with | [_], _ => rfl)
theorem calls (g : Gl0 K w mg cf) (d : Fns K mg cf) (t : Tbs K mg base cf) (x : Exs P w K mg base cf) : ∀ k, Calls P w K mg base cf (k + 3) (den k) ini
  | 0 => by
    exact ⟨(d.d_children).cal (ps := ["expression"]) rfl (fun _ _ => fnG_bad rfl) (fun _ _ _ _ _ _ us hl => match us, hl with | [_], _ => rfl),
      (d.d_nodes).cal (ps := ["expression"]) rfl (fun _ _ => fnG_bad rfl) (fun _ _ _ _ _ _ us hl => match us, hl with | [_], _ => rfl),
      (d.d_is_value).cal (ps := ["expression"]) rfl (fun _ _ => fnG_bad rfl) (fun _ _ _ _ _ _ us hl => match us, hl with | [_], _ => rfl),
      (d.d_is_record).cal (ps := ["expression"]) rfl (fun _ _ => fnG_bad rfl) (fun _ _ _ _ _ _ us hl => match us, hl with | [_], _ => rfl),
      (d.d_put_in).cal (ps := ["expression", "name", "given"]) rfl (fun _ _ => fnG_bad rfl) (fun _ _ _ _ _ _ us hl => match us, hl with | [_, _, _], _ => rfl),
      (d.d_needed).cal (ps := ["expression"]) rfl (fun _ _ => fnG_bad rfl) (fun _ _ _ _ _ _ us hl => match us, hl with | [_], _ => rfl),
      (d.d_call_step).cal (ps := ["expression"]) rfl (fun _ _ => fnG_bad rfl) (fun _ _ _ _ _ _ us hl => match us, hl with | [_], _ => rfl),
      (d.d_op_step).cal (ps := ["expression"]) rfl (fun _ _ => fnG_bad rfl) (fun _ _ _ _ _ _ us hl => match us, hl with | [_], _ => rfl),
      (d.d_without).cal (ps := ["row", "label"]) rfl (fun _ _ => fnG_bad rfl) (fun _ _ _ _ _ _ us hl => match us, hl with | [_, _], _ => rfl),
      (d.d_own_step).cal (ps := ["expression", "book"]) rfl (fun _ _ => fnG_bad rfl) (fun _ _ _ _ _ _ us hl => match us, hl with | [_, _], _ => rfl),
      (d.d_next_expression).cal (ps := ["expression", "book"]) rfl (fun _ _ => fnG_bad rfl) (fun _ _ _ _ _ _ us hl => match us, hl with | [_, _], _ => rfl),
      (d.d_step).cal (ps := ["expression", "book"]) rfl (fun _ _ => fnG_bad rfl) (fun _ _ _ _ _ _ us hl => match us, hl with | [_, _], _ => rfl),
      (d.d_run).cal (ps := ["expression", "book", "most"]) rfl (fun _ _ => fnG_bad rfl) (fun _ _ _ _ _ _ us hl => match us, hl with | [_, _, _], _ => rfl),
      (d.d__law_cell).cal (ps := ["_law_script", "_law_k"]) rfl (fun _ _ => fnG_bad rfl) (fun _ _ _ _ _ _ us hl => match us, hl with | [_, _], _ => rfl),
      (d.d__law_same).cal (ps := ["_law_actual", "_law_due"]) rfl (fun _ _ => fnG_bad rfl) (fun _ _ _ _ _ _ us hl => match us, hl with | [_, _], _ => rfl),
      (d.d__law_digits).cal (ps := ["_law_script", "_law_first", "_law_last"]) rfl (fun _ _ => fnG_bad rfl) (fun _ _ _ _ _ _ us hl => match us, hl with | [_, _, _], _ => rfl),
      (d.d__law_draw).cal (ps := ["_law_box", "_law_many"]) rfl (fun _ _ => fnG_bad rfl) (fun _ _ _ _ _ _ us hl => match us, hl with | [_, _], _ => rfl),
      (d.d__law_pick).cal (ps := ["_law_box", "_law_rows"]) rfl (fun _ _ => fnG_bad rfl) (fun _ _ _ _ _ _ us hl => match us, hl with | [_, _], _ => rfl),
      (d.d__law_expression).cal (ps := ["_law_box", "_law_scope", "_law_kind", "_law_left"]) rfl (fun _ _ => fnG_bad rfl) (fun _ _ _ _ _ _ us hl => match us, hl with | [_, _, _, _], _ => rfl),
      (d.d__law_leaf).cal (ps := ["_law_box", "_law_kind"]) rfl (fun _ _ => fnG_bad rfl) (fun _ _ _ _ _ _ us hl => match us, hl with | [_, _], _ => rfl),
      (d.d__law_let).cal (ps := ["_law_box", "_law_scope", "_law_kind", "_law_left"]) rfl (fun _ _ => fnG_bad rfl) (fun _ _ _ _ _ _ us hl => match us, hl with | [_, _, _, _], _ => rfl),
      (d.d__law_function).cal (ps := ["_law_box", "_law_scope", "_law_left"]) rfl (fun _ _ => fnG_bad rfl) (fun _ _ _ _ _ _ us hl => match us, hl with | [_, _, _], _ => rfl),
      (d.d__law_children).cal (ps := ["_law_row"]) rfl (fun _ _ => fnG_bad rfl) (fun _ _ _ _ _ _ us hl => match us, hl with | [_], _ => rfl),
      (d.d__law_is_value).cal (ps := ["_law_row"]) rfl (fun _ _ => fnG_bad rfl) (fun _ _ _ _ _ _ us hl => match us, hl with | [_], _ => rfl),
      (d.d__law_substituted).cal (ps := ["_law_row", "_law_name", "_law_given"]) rfl (fun _ _ => fnG_bad rfl) (fun _ _ _ _ _ _ us hl => match us, hl with | [_, _, _], _ => rfl),
      (d.d__law_count).cal (ps := ["_law_row"]) rfl (fun _ _ => fnG_bad rfl) (fun _ _ _ _ _ _ us hl => match us, hl with | [_], _ => rfl),
      (d.d__law_needs).cal (ps := ["_law_row"]) rfl (fun _ _ => fnG_bad rfl) (fun _ _ _ _ _ _ us hl => match us, hl with | [_], _ => rfl),
      (d.d__law_own_step).cal (ps := ["_law_row", "_law_book_here"]) rfl (fun _ _ => fnG_bad rfl) (fun _ _ _ _ _ _ us hl => match us, hl with | [_, _], _ => rfl),
      (d.d__law_op_step).cal (ps := ["_law_row"]) rfl (fun _ _ => fnG_bad rfl) (fun _ _ _ _ _ _ us hl => match us, hl with | [_], _ => rfl),
      (d.d__law_record_step).cal (ps := ["_law_row"]) rfl (fun _ _ => fnG_bad rfl) (fun _ _ _ _ _ _ us hl => match us, hl with | [_], _ => rfl),
      (d.d__law_step_in).cal (ps := ["_law_row", "_law_book_here"]) rfl (fun _ _ => fnG_bad rfl) (fun _ _ _ _ _ _ us hl => match us, hl with | [_, _], _ => rfl),
      (d.d__law_stepped).cal (ps := ["_law_row", "_law_book_here"]) rfl (fun _ _ => fnG_bad rfl) (fun _ _ _ _ _ _ us hl => match us, hl with | [_, _], _ => rfl),
      (d.d__law_book).cal (ps := ["_law_box"]) rfl (fun _ _ => fnG_bad rfl) (fun _ _ _ _ _ _ us hl => match us, hl with | [_], _ => rfl),
      (d.d__law_mixed).cal (ps := ["_law_box", "_law_scope", "_law_left"]) rfl (fun _ _ => fnG_bad rfl) (fun _ _ _ _ _ _ us hl => match us, hl with | [_, _, _], _ => rfl),
      (d.d__law_great).cal (ps := ["_law_box"]) rfl (fun _ _ => fnG_bad rfl) (fun _ _ _ _ _ _ us hl => match us, hl with | [_], _ => rfl),
      (d.d__law_running).cal (ps := ["_law_box", "_law_book_here"]) rfl (fun _ _ => fnG_bad rfl) (fun _ _ _ _ _ _ us hl => match us, hl with | [_, _], _ => rfl),
      (d.d__law_run).cal (ps := ["_law_row", "_law_book_here", "_law_most"]) rfl (fun _ _ => fnG_bad rfl) (fun _ _ _ _ _ _ us hl => match us, hl with | [_, _, _], _ => rfl),
      (d.d_law).cal (ps := ["_law_script"]) rfl (fun _ _ => fnG_bad rfl) (fun _ _ _ _ _ _ us hl => match us, hl with | [_], _ => rfl)⟩
  | k + 1 => by
    have ih := calls g d t x k
    exact ⟨(d.d_children).cal (ps := ["expression"]) rfl (fun hf D => b_children g ih t x hf D) (fun _ _ _ _ _ _ us hl => match us, hl with | [_], _ => rfl),
      (d.d_nodes).cal (ps := ["expression"]) rfl (fun hf D => b_nodes g ih t x hf D) (fun _ _ _ _ _ _ us hl => match us, hl with | [_], _ => rfl),
      (d.d_is_value).cal (ps := ["expression"]) rfl (fun hf D => b_is_value g ih t x hf D) (fun _ _ _ _ _ _ us hl => match us, hl with | [_], _ => rfl),
      (d.d_is_record).cal (ps := ["expression"]) rfl (fun hf D => b_is_record g ih t x hf D) (fun _ _ _ _ _ _ us hl => match us, hl with | [_], _ => rfl),
      (d.d_put_in).cal (ps := ["expression", "name", "given"]) rfl (fun hf D => b_put_in g ih t x hf D) (fun _ _ _ _ _ _ us hl => match us, hl with | [_, _, _], _ => rfl),
      (d.d_needed).cal (ps := ["expression"]) rfl (fun hf D => b_needed g ih t x hf D) (fun _ _ _ _ _ _ us hl => match us, hl with | [_], _ => rfl),
      (d.d_call_step).cal (ps := ["expression"]) rfl (fun hf D => b_call_step g ih t x hf D) (fun _ _ _ _ _ _ us hl => match us, hl with | [_], _ => rfl),
      (d.d_op_step).cal (ps := ["expression"]) rfl (fun hf D => b_op_step g ih t x hf D) (fun _ _ _ _ _ _ us hl => match us, hl with | [_], _ => rfl),
      (d.d_without).cal (ps := ["row", "label"]) rfl (fun hf D => b_without g ih t x hf D) (fun _ _ _ _ _ _ us hl => match us, hl with | [_, _], _ => rfl),
      (d.d_own_step).cal (ps := ["expression", "book"]) rfl (fun hf D => b_own_step g ih t x hf D) (fun _ _ _ _ _ _ us hl => match us, hl with | [_, _], _ => rfl),
      (d.d_next_expression).cal (ps := ["expression", "book"]) rfl (fun hf D => b_next_expression g ih t x hf D) (fun _ _ _ _ _ _ us hl => match us, hl with | [_, _], _ => rfl),
      (d.d_step).cal (ps := ["expression", "book"]) rfl (fun hf D => b_step g ih t x hf D) (fun _ _ _ _ _ _ us hl => match us, hl with | [_, _], _ => rfl),
      (d.d_run).cal (ps := ["expression", "book", "most"]) rfl (fun hf D => b_run g ih t x hf D) (fun _ _ _ _ _ _ us hl => match us, hl with | [_, _, _], _ => rfl),
      (d.d__law_cell).cal (ps := ["_law_script", "_law_k"]) rfl (fun hf D => b__law_cell g ih t x hf D) (fun _ _ _ _ _ _ us hl => match us, hl with | [_, _], _ => rfl),
      (d.d__law_same).cal (ps := ["_law_actual", "_law_due"]) rfl (fun hf D => b__law_same g ih t x hf D) (fun _ _ _ _ _ _ us hl => match us, hl with | [_, _], _ => rfl),
      (d.d__law_digits).cal (ps := ["_law_script", "_law_first", "_law_last"]) rfl (fun hf D => b__law_digits g ih t x hf D) (fun _ _ _ _ _ _ us hl => match us, hl with | [_, _, _], _ => rfl),
      (d.d__law_draw).cal (ps := ["_law_box", "_law_many"]) rfl (fun hf D => b__law_draw g ih t x hf D) (fun _ _ _ _ _ _ us hl => match us, hl with | [_, _], _ => rfl),
      (d.d__law_pick).cal (ps := ["_law_box", "_law_rows"]) rfl (fun hf D => b__law_pick g ih t x hf D) (fun _ _ _ _ _ _ us hl => match us, hl with | [_, _], _ => rfl),
      (d.d__law_expression).cal (ps := ["_law_box", "_law_scope", "_law_kind", "_law_left"]) rfl (fun hf D => b__law_expression g ih t x hf D) (fun _ _ _ _ _ _ us hl => match us, hl with | [_, _, _, _], _ => rfl),
      (d.d__law_leaf).cal (ps := ["_law_box", "_law_kind"]) rfl (fun hf D => b__law_leaf g ih t x hf D) (fun _ _ _ _ _ _ us hl => match us, hl with | [_, _], _ => rfl),
      (d.d__law_let).cal (ps := ["_law_box", "_law_scope", "_law_kind", "_law_left"]) rfl (fun hf D => b__law_let g ih t x hf D) (fun _ _ _ _ _ _ us hl => match us, hl with | [_, _, _, _], _ => rfl),
      (d.d__law_function).cal (ps := ["_law_box", "_law_scope", "_law_left"]) rfl (fun hf D => b__law_function g ih t x hf D) (fun _ _ _ _ _ _ us hl => match us, hl with | [_, _, _], _ => rfl),
      (d.d__law_children).cal (ps := ["_law_row"]) rfl (fun hf D => b__law_children g ih t x hf D) (fun _ _ _ _ _ _ us hl => match us, hl with | [_], _ => rfl),
      (d.d__law_is_value).cal (ps := ["_law_row"]) rfl (fun hf D => b__law_is_value g ih t x hf D) (fun _ _ _ _ _ _ us hl => match us, hl with | [_], _ => rfl),
      (d.d__law_substituted).cal (ps := ["_law_row", "_law_name", "_law_given"]) rfl (fun hf D => b__law_substituted g ih t x hf D) (fun _ _ _ _ _ _ us hl => match us, hl with | [_, _, _], _ => rfl),
      (d.d__law_count).cal (ps := ["_law_row"]) rfl (fun hf D => b__law_count g ih t x hf D) (fun _ _ _ _ _ _ us hl => match us, hl with | [_], _ => rfl),
      (d.d__law_needs).cal (ps := ["_law_row"]) rfl (fun hf D => b__law_needs g ih t x hf D) (fun _ _ _ _ _ _ us hl => match us, hl with | [_], _ => rfl),
      (d.d__law_own_step).cal (ps := ["_law_row", "_law_book_here"]) rfl (fun hf D => b__law_own_step g ih t x hf D) (fun _ _ _ _ _ _ us hl => match us, hl with | [_, _], _ => rfl),
      (d.d__law_op_step).cal (ps := ["_law_row"]) rfl (fun hf D => b__law_op_step g ih t x hf D) (fun _ _ _ _ _ _ us hl => match us, hl with | [_], _ => rfl),
      (d.d__law_record_step).cal (ps := ["_law_row"]) rfl (fun hf D => b__law_record_step g ih t x hf D) (fun _ _ _ _ _ _ us hl => match us, hl with | [_], _ => rfl),
      (d.d__law_step_in).cal (ps := ["_law_row", "_law_book_here"]) rfl (fun hf D => b__law_step_in g ih t x hf D) (fun _ _ _ _ _ _ us hl => match us, hl with | [_, _], _ => rfl),
      (d.d__law_stepped).cal (ps := ["_law_row", "_law_book_here"]) rfl (fun hf D => b__law_stepped g ih t x hf D) (fun _ _ _ _ _ _ us hl => match us, hl with | [_, _], _ => rfl),
      (d.d__law_book).cal (ps := ["_law_box"]) rfl (fun hf D => b__law_book g ih t x hf D) (fun _ _ _ _ _ _ us hl => match us, hl with | [_], _ => rfl),
      (d.d__law_mixed).cal (ps := ["_law_box", "_law_scope", "_law_left"]) rfl (fun hf D => b__law_mixed g ih t x hf D) (fun _ _ _ _ _ _ us hl => match us, hl with | [_, _, _], _ => rfl),
      (d.d__law_great).cal (ps := ["_law_box"]) rfl (fun hf D => b__law_great g ih t x hf D) (fun _ _ _ _ _ _ us hl => match us, hl with | [_], _ => rfl),
      (d.d__law_running).cal (ps := ["_law_box", "_law_book_here"]) rfl (fun hf D => b__law_running g ih t x hf D) (fun _ _ _ _ _ _ us hl => match us, hl with | [_, _], _ => rfl),
      (d.d__law_run).cal (ps := ["_law_row", "_law_book_here", "_law_most"]) rfl (fun hf D => b__law_run g ih t x hf D) (fun _ _ _ _ _ _ us hl => match us, hl with | [_, _, _], _ => rfl),
      (d.d_law).cal (ps := ["_law_script"]) rfl (fun hf D => b_law g ih t x hf D) (fun _ _ _ _ _ _ us hl => match us, hl with | [_], _ => rfl)⟩
end
/-! ### the head -/
def fn : List He.DefD := [⟨("children", none), "children", "children", defArgs (top 2), defBody (top 2), defScope (top 2), [], []⟩,
  ⟨("nodes", none), "nodes", "nodes", defArgs (top 3), defBody (top 3), defScope (top 3), [], []⟩,
  ⟨("is_value", none), "is_value", "is_value", defArgs (top 10), defBody (top 10), defScope (top 10), [], []⟩,
  ⟨("is_record", none), "is_record", "is_record", defArgs (top 11), defBody (top 11), defScope (top 11), [], []⟩,
  ⟨("put_in", none), "put_in", "put_in", defArgs (top 12), defBody (top 12), defScope (top 12), [], []⟩,
  ⟨("needed", none), "needed", "needed", defArgs (top 13), defBody (top 13), defScope (top 13), [], []⟩,
  ⟨("call_step", none), "call_step", "call_step", defArgs (top 14), defBody (top 14), defScope (top 14), [], []⟩,
  ⟨("op_step", none), "op_step", "op_step", defArgs (top 15), defBody (top 15), defScope (top 15), [], []⟩,
  ⟨("without", none), "without", "without", defArgs (top 16), defBody (top 16), defScope (top 16), [], []⟩,
  ⟨("own_step", none), "own_step", "own_step", defArgs (top 17), defBody (top 17), defScope (top 17), [], []⟩,
  ⟨("next_expression", none), "next_expression", "next_expression", defArgs (top 18), defBody (top 18), defScope (top 18), [], []⟩,
  ⟨("step", none), "step", "step", defArgs (top 19), defBody (top 19), defScope (top 19), [], []⟩,
  ⟨("run", none), "run", "run", defArgs (top 20), defBody (top 20), defScope (top 20), [], []⟩,
  ⟨("_law_cell", none), "_law_cell", "_law_cell", defArgs (top 22), defBody (top 22), defScope (top 22), [], []⟩,
  ⟨("_law_same", none), "_law_same", "_law_same", defArgs (top 23), defBody (top 23), defScope (top 23), [], []⟩,
  ⟨("_law_digits", none), "_law_digits", "_law_digits", defArgs (top 24), defBody (top 24), defScope (top 24), [], []⟩,
  ⟨("_law_draw", none), "_law_draw", "_law_draw", defArgs (top 25), defBody (top 25), defScope (top 25), [], []⟩,
  ⟨("_law_pick", none), "_law_pick", "_law_pick", defArgs (top 26), defBody (top 26), defScope (top 26), [], []⟩,
  ⟨("_law_expression", none), "_law_expression", "_law_expression", defArgs (top 27), defBody (top 27), defScope (top 27), [], []⟩,
  ⟨("_law_leaf", none), "_law_leaf", "_law_leaf", defArgs (top 28), defBody (top 28), defScope (top 28), [], []⟩,
  ⟨("_law_let", none), "_law_let", "_law_let", defArgs (top 29), defBody (top 29), defScope (top 29), [], []⟩,
  ⟨("_law_function", none), "_law_function", "_law_function", defArgs (top 30), defBody (top 30), defScope (top 30), [], []⟩,
  ⟨("_law_children", none), "_law_children", "_law_children", defArgs (top 31), defBody (top 31), defScope (top 31), [], []⟩,
  ⟨("_law_is_value", none), "_law_is_value", "_law_is_value", defArgs (top 32), defBody (top 32), defScope (top 32), [], []⟩,
  ⟨("_law_substituted", none), "_law_substituted", "_law_substituted", defArgs (top 33), defBody (top 33), defScope (top 33), [], []⟩,
  ⟨("_law_count", none), "_law_count", "_law_count", defArgs (top 34), defBody (top 34), defScope (top 34), [], []⟩,
  ⟨("_law_needs", none), "_law_needs", "_law_needs", defArgs (top 35), defBody (top 35), defScope (top 35), [], []⟩,
  ⟨("_law_own_step", none), "_law_own_step", "_law_own_step", defArgs (top 36), defBody (top 36), defScope (top 36), [], []⟩,
  ⟨("_law_op_step", none), "_law_op_step", "_law_op_step", defArgs (top 37), defBody (top 37), defScope (top 37), [], []⟩,
  ⟨("_law_record_step", none), "_law_record_step", "_law_record_step", defArgs (top 38), defBody (top 38), defScope (top 38), [], []⟩,
  ⟨("_law_step_in", none), "_law_step_in", "_law_step_in", defArgs (top 39), defBody (top 39), defScope (top 39), [], []⟩,
  ⟨("_law_stepped", none), "_law_stepped", "_law_stepped", defArgs (top 40), defBody (top 40), defScope (top 40), [], []⟩,
  ⟨("_law_book", none), "_law_book", "_law_book", defArgs (top 41), defBody (top 41), defScope (top 41), [], []⟩,
  ⟨("_law_mixed", none), "_law_mixed", "_law_mixed", defArgs (top 42), defBody (top 42), defScope (top 42), [], []⟩,
  ⟨("_law_great", none), "_law_great", "_law_great", defArgs (top 43), defBody (top 43), defScope (top 43), [], []⟩,
  ⟨("_law_running", none), "_law_running", "_law_running", defArgs (top 44), defBody (top 44), defScope (top 44), [], []⟩,
  ⟨("_law_run", none), "_law_run", "_law_run", defArgs (top 45), defBody (top 45), defScope (top 45), [], []⟩,
  ⟨("law", none), "law", "law", defArgs (top 46), defBody (top 46), defScope (top 46), [], []⟩]
def fa : List He.Fa := [.glo "children", .glo "nodes", .glo "is_value", .glo "is_record", .glo "put_in", .glo "needed", .glo "call_step", .glo "op_step", .glo "without", .glo "own_step", .glo "next_expression", .glo "step", .glo "run", .glo "_law_cell", .glo "_law_same", .glo "_law_digits", .glo "_law_draw", .glo "_law_pick", .glo "_law_expression", .glo "_law_leaf", .glo "_law_let", .glo "_law_function", .glo "_law_children", .glo "_law_is_value", .glo "_law_substituted", .glo "_law_count", .glo "_law_needs", .glo "_law_own_step", .glo "_law_op_step", .glo "_law_record_step", .glo "_law_step_in", .glo "_law_stepped", .glo "_law_book", .glo "_law_mixed", .glo "_law_great", .glo "_law_running", .glo "_law_run", .glo "law", .glo "Overflow", .glo "Stuck", .free "dict", .free "int", .free "isinstance", .free "len", .free "range", .free "repr", .free "super", .free "tuple", .glo "FIRST_CHILD", .glo "FUNCTIONS", .int "NODES_MOST" 300, .int "NUMBER_MOST" 999999]
def ts : List He.Tab := [(fun K => He.ga K "FIRST_CHILD", ["fun", "rec", "call", "let", "if", "op", "extend", "select", "drop"])]
def kv_FIRST_CHILD : List (Str × He.Dv) := [("fun", .int 2), ("rec", .int 3), ("call", .int 1), ("let", .int 2), ("if", .int 1), ("op", .int 2), ("extend", .int 2), ("select", .int 2), ("drop", .int 2)]
def ci_Stuck : ClI := ⟨"Stuck", "Stuck.__init__", defArgs (inClass (top 8) 0), defBody (inClass (top 8) 0), defScope (inClass (top 8) 0)⟩
def ex (K : PySem.W.Frag) : Bool := true && He.valsB K (He.ga K "FIRST_CHILD") kv_FIRST_CHILD && (He.tupB K "FUNCTIONS" [.str "fun", .str "rec"] && tupN K "FUNCTIONS") && excB0 K (He.ga K "Overflow") && excB PySem.Challenge.pw_rowtypes_k16_runs_told.main.file K ci_Stuck (fl_Stuck.map (·.1)) && hitB K (.ref (He.ga K "Overflow")) ["Overflow"] ["Stuck"] && hitB K (.ref (He.ga K "Stuck")) ["Stuck"] ["Overflow"] && xfldB K "Stuck" "reason"
def cl : List ClI := [ci_Stuck]
abbrev R : PySem.W.OpenRow := PySem.W.OpenLaw.row PySem.Challenge.rw_rowtypes_k16_runs_told
abbrev hk : PySem.W.Hook := hookE 6 fa fn ts tf ex cl
def ob (s : PySem.W.SharedT) : AlE := obsE 6 fa fn ts tf ex cl (HandSHeadRun.getT s)
theorem ob_eq (s : PySem.W.SharedT) : ob s = hk.obs s.abs := obsE_eq (HandSHeadRun.getT_eq s)
def loose0 : List Str := ["FIRST_CHILD", "children", "nodes", "NUMBER_MOST", "NODES_MOST", "FUNCTIONS", "Stuck", "Overflow", "is_value", "is_record", "put_in", "needed", "call_step", "op_step", "without", "own_step", "next_expression", "step", "run", "_law_cell", "_law_same", "_law_digits", "_law_draw", "_law_pick", "_law_expression", "_law_leaf", "_law_let", "_law_function", "_law_children", "_law_is_value"]
def loose1 : List Str := ["_law_substituted", "_law_count", "_law_needs", "_law_own_step", "_law_op_step", "_law_record_step", "_law_step_in", "_law_stepped", "_law_book", "_law_mixed", "_law_great", "_law_running", "_law_run"]
def loose : List Str := loose0 ++ loose1
theorem runF (w : World) : HandSHeadRun.RunEq R (PySem.W.view R.prog [46]) hk ob 20000 loose (w.withFollow "special-get-raises" false) := by
  intro os
  kernel_rfl
theorem runT (w : World) : HandSHeadRun.RunEq R (PySem.W.view R.prog [46]) hk ob 20000 loose (w.withFollow "special-get-raises" true) := by
  intro os
  kernel_rfl
theorem run (w : World) : HandSHeadRun.RunEq R (PySem.W.view R.prog [46]) hk ob 20000 loose w := PySem.W.byRow2 "special-get-raises" (P := fun w => HandSHeadRun.RunEq R (PySem.W.view R.prog [46]) hk ob 20000 loose w) runF runT w
section
variable {w : World} {K : PySem.W.Frag} {mg : Str → Option Value} {h : Heap}
theorem gl0 (X : K.In h) (G : h.Ns mainGlobals mg) (c : He.SaysX fa fn ts tf ex w h K) : Gl0 K w mg (cfOf K []) := by
  have hx := c.more
  simp only [ex, Bool.and_eq_true] at hx
  exact ⟨He.free_ok X G (c.t.d.fact 40 rfl),
    He.free_ok X G (c.t.d.fact 41 rfl),
    He.free_ok X G (c.t.d.fact 42 rfl),
    He.free_ok X G (c.t.d.fact 43 rfl),
    He.free_ok X G (c.t.d.fact 44 rfl),
    He.free_ok X G (c.t.d.fact 45 rfl),
    He.free_ok X G (c.t.d.fact 46 rfl),
    He.free_ok X G (c.t.d.fact 47 rfl),
    tabD_of (kvs := kv_FIRST_CHILD) (He.glo_ok X G (c.t.d.fact 48 rfl)) (dicW_at c.t 0 rfl) hx.1.1.1.1.1.1.2 rfl,
    constD_tup (h := h) (vs := [.str "fun", .str "rec"]) (He.glo_ok X G (c.t.d.fact 49 rfl)) hx.1.1.1.1.1.2 rfl,
    constD_int X G (c.t.d.fact 50 rfl),
    constD_int X G (c.t.d.fact 51 rfl)⟩
theorem fns (X : K.In h) (G : h.Ns mainGlobals mg) (c : He.SaysX fa fn ts tf ex w h K) : Fns K mg (cfOf K []) where
  d_children := defOk_of X G (c.t.d.fact 0 rfl) (c.t.d.def_ 0 rfl)
  d_nodes := defOk_of X G (c.t.d.fact 1 rfl) (c.t.d.def_ 1 rfl)
  d_is_value := defOk_of X G (c.t.d.fact 2 rfl) (c.t.d.def_ 2 rfl)
  d_is_record := defOk_of X G (c.t.d.fact 3 rfl) (c.t.d.def_ 3 rfl)
  d_put_in := defOk_of X G (c.t.d.fact 4 rfl) (c.t.d.def_ 4 rfl)
  d_needed := defOk_of X G (c.t.d.fact 5 rfl) (c.t.d.def_ 5 rfl)
  d_call_step := defOk_of X G (c.t.d.fact 6 rfl) (c.t.d.def_ 6 rfl)
  d_op_step := defOk_of X G (c.t.d.fact 7 rfl) (c.t.d.def_ 7 rfl)
  d_without := defOk_of X G (c.t.d.fact 8 rfl) (c.t.d.def_ 8 rfl)
  d_own_step := defOk_of X G (c.t.d.fact 9 rfl) (c.t.d.def_ 9 rfl)
  d_next_expression := defOk_of X G (c.t.d.fact 10 rfl) (c.t.d.def_ 10 rfl)
  d_step := defOk_of X G (c.t.d.fact 11 rfl) (c.t.d.def_ 11 rfl)
  d_run := defOk_of X G (c.t.d.fact 12 rfl) (c.t.d.def_ 12 rfl)
  d__law_cell := defOk_of X G (c.t.d.fact 13 rfl) (c.t.d.def_ 13 rfl)
  d__law_same := defOk_of X G (c.t.d.fact 14 rfl) (c.t.d.def_ 14 rfl)
  d__law_digits := defOk_of X G (c.t.d.fact 15 rfl) (c.t.d.def_ 15 rfl)
  d__law_draw := defOk_of X G (c.t.d.fact 16 rfl) (c.t.d.def_ 16 rfl)
  d__law_pick := defOk_of X G (c.t.d.fact 17 rfl) (c.t.d.def_ 17 rfl)
  d__law_expression := defOk_of X G (c.t.d.fact 18 rfl) (c.t.d.def_ 18 rfl)
  d__law_leaf := defOk_of X G (c.t.d.fact 19 rfl) (c.t.d.def_ 19 rfl)
  d__law_let := defOk_of X G (c.t.d.fact 20 rfl) (c.t.d.def_ 20 rfl)
  d__law_function := defOk_of X G (c.t.d.fact 21 rfl) (c.t.d.def_ 21 rfl)
  d__law_children := defOk_of X G (c.t.d.fact 22 rfl) (c.t.d.def_ 22 rfl)
  d__law_is_value := defOk_of X G (c.t.d.fact 23 rfl) (c.t.d.def_ 23 rfl)
  d__law_substituted := defOk_of X G (c.t.d.fact 24 rfl) (c.t.d.def_ 24 rfl)
  d__law_count := defOk_of X G (c.t.d.fact 25 rfl) (c.t.d.def_ 25 rfl)
  d__law_needs := defOk_of X G (c.t.d.fact 26 rfl) (c.t.d.def_ 26 rfl)
  d__law_own_step := defOk_of X G (c.t.d.fact 27 rfl) (c.t.d.def_ 27 rfl)
  d__law_op_step := defOk_of X G (c.t.d.fact 28 rfl) (c.t.d.def_ 28 rfl)
  d__law_record_step := defOk_of X G (c.t.d.fact 29 rfl) (c.t.d.def_ 29 rfl)
  d__law_step_in := defOk_of X G (c.t.d.fact 30 rfl) (c.t.d.def_ 30 rfl)
  d__law_stepped := defOk_of X G (c.t.d.fact 31 rfl) (c.t.d.def_ 31 rfl)
  d__law_book := defOk_of X G (c.t.d.fact 32 rfl) (c.t.d.def_ 32 rfl)
  d__law_mixed := defOk_of X G (c.t.d.fact 33 rfl) (c.t.d.def_ 33 rfl)
  d__law_great := defOk_of X G (c.t.d.fact 34 rfl) (c.t.d.def_ 34 rfl)
  d__law_running := defOk_of X G (c.t.d.fact 35 rfl) (c.t.d.def_ 35 rfl)
  d__law_run := defOk_of X G (c.t.d.fact 36 rfl) (c.t.d.def_ 36 rfl)
  d_law := defOk_of X G (c.t.d.fact 37 rfl) (c.t.d.def_ 37 rfl)
theorem exs (X : K.In h) (G : h.Ns mainGlobals mg) (c : SaysE fa fn ts tf ex cl w h K) (base : Heap) : Exs PySem.Challenge.pw_rowtypes_k16_runs_told w K mg base (cfOf K []) := by
  have hx := c.x.more
  simp only [ex, Bool.and_eq_true] at hx
  exact ⟨excO_of (He.glo_ok X G (c.x.t.d.fact 38 rfl)) hx.1.1.1.1.2,
    excG_of (d := ci_Stuck) (ps := ["reason"]) (pl := _) (c.e ci_Stuck (by simp [cl])) hx.1.1.1.2 (He.glo_ok X G (c.x.t.d.fact 39 rfl)) (He.free_ok X G (c.x.t.d.fact 46 rfl)) (by kernel_rfl) ⟨rfl, rfl, rfl, by decide +kernel, by decide +kernel, by decide +kernel, by decide +kernel, rfl, rfl, by decide +kernel⟩ rfl rfl rfl
      (fun _ _ _ _ _ _ _ us hl => match us, hl with | [_, _], _ => rfl) (fun _ _ _ _ _ _ _ _ _ => ⟨(je_var 1), (pss_cons (ps_ost (pe_var (i := 0) rfl (Or.inl rfl)) (pe_var (i := 1) rfl (Or.inl rfl))) pss_nil)⟩) (fun _ => rfl) (fun _ => rfl) (fun _ => rfl) (fun _ => rfl),
    ⟨He.glo_ok X G (c.x.t.d.fact 38 rfl), hit_of hx.1.1.2⟩,
    ⟨He.glo_ok X G (c.x.t.d.fact 39 rfl), hit_of hx.1.2⟩,
    xfOk_of hx.2⟩
end
theorem law_G (goal : ∀ ns : List Int, ns.length ≤ 63 → (∀ z ∈ ns, Builtin.Int.intBits z ≤ 1048576) → ∃ st, den 635 37 [.kl (ns.map D.int)] [] = .ok (.bl true) st) (w : World) (mg : Str → Option Value) (fa0 : Addr) (h : Heap)
    (Y : hk.says w h) (G : h.Ns mainGlobals mg) (hm : mg "law" = some (.ref fa0)) : LawG PySem.Challenge.rw_rowtypes_k16_runs_told w 638 63 "_law_script" mg fa0 h := by
  obtain ⟨K, X, c0⟩ := Y
  have c := c0.x
  obtain ⟨fd, D⟩ := c.t.d.def_ 37 rfl
  have e := hm.symm.trans (He.glo_ok X G (c.t.d.fact 37 rfl))
  cases e
  exact ⟨K, fd, tf.map (He.cT K), cfOf K [], den 635 37, X,
    (fun p hp => by
      obtain ⟨q, hq, rfl⟩ := List.mem_map.mp hp
      exact c.empty q hq),
    (fun p hp => by
      obtain ⟨q, hq, rfl⟩ := List.mem_map.mp hp
      exact c.out q hq),
    (fun p hp => by
      obtain ⟨q, hq, rfl⟩ := List.mem_map.mp hp
      exact PySem.W.codeHd_of_K X (c.hd q hq)), by simp [cfOf, tf],
    fun s v => FunD.bindsA (ps := ["_law_script"]) D (fun _ _ _ _ _ _ us hl => match us, hl with | [_], _ => rfl) s [v] rfl, goal, fun base KI ns tb => b_law (gl0 X G c) (calls (gl0 X G c) (fns X G c) ⟨rfl⟩ (exs X G c0 base) 634) ⟨rfl⟩ (exs X G c0 base) rfl D⟩
end K16
set_option Elab.async false
set_option linter.all false
set_option maxHeartbeats 4000000
set_option maxRecDepth 100000
namespace K16
open PySem PySem.Spec PyProof.Rows L2 LamX DL DL.Ex
/-! ### put_in -/
def put (n : Str) (v : Ex) : Ex → Ex
  | .name x => if x = n then v else .name x
  | .num i => .num i | .tru b => .tru b | .emp => .emp
  | .fn x b => if x = n then .fn x b else .fn x (put n v b)
  | .rc f x b => if n = f ∨ n = x then .rc f x b else .rc f x (put n v b)
  | .lt x a b => .lt x (put n v a) (if x = n then b else put n v b)
  | .call a b => .call (put n v a) (put n v b)
  | .ite a b c => .ite (put n v a) (put n v b) (put n v c)
  | .op o a b => .op o (put n v a) (put n v b)
  | .ext l a b => .ext l (put n v a) (put n v b)
  | .sel l a => .sel l (put n v a)
  | .drp l a => .drp l (put n v a)
@[simp] theorem isi_enc (e : Ex) (st : Sto) : oIsi "tuple" (enc e) st = .ok (.bl true) st := by cases e <;> rfl
theorem den_put (k : Nat) (ds : List D) (st : Sto) : den (k + 1) 4 ds st = runB (u_put_in (den k) ini) 6 ds st := rfl
abbrev elPut (F : Nat → Fn) : FE := fIf (bTru (fB oIsi2 (aCons (fV 5) (aCons (fC (.ty "tuple")) aNil)))) (fCallN 3 (F 4) (aCons (fV 5) (aCons (fV 1) (aCons (fV 2) aNil)))) (fV 5)
def PartOk (f : Fn) (n v : D) (st : Sto) (p : D × D) : Prop := (oIsi "tuple" p.1 st = .ok (.bl false) st ∧ p.2 = p.1) ∨ (oIsi "tuple" p.1 st = .ok (.bl true) st ∧ f [p.1, n, v] st = .ok p.2 st)
theorem put_parts {F : Nat → Fn} {n v row kd : D} {st : Sto} (ps : List (D × D)) (h : ∀ p, p ∈ ps → PartOk (F 4) n v st p) (hl : ps.length ≤ 16) :
    lcD (gN 5) bYes (elPut F) [some row, some n, some v, some kd, none, none] finLv (ps.map (·.1)) [] st = .ok (.lv (ps.map (·.2))) st := by
  rw [lcD_list (ps := ps) (fun p hp => ?_) (by rw [sizeLine_eq]; simp; omega)]
  · simp
  · obtain ⟨d, y⟩ := p
    rcases h _ hp with ⟨h1, h2⟩ | ⟨h1, h2⟩
    · simp only at h1 h2
      subst h2
      simp [lcOne, h1]
    · simp only at h1 h2
      simp [lcOne, h1, h2]
theorem put_ok (n : Str) (v : Ex) : ∀ (e : Ex) (k : Nat) (st : Sto), high e ≤ k → den k 4 [enc e, .str n, enc v] st = .ok (enc (put n v e)) st := by
  intro e
  induction e with
  | name x =>
    intro k st h
    obtain ⟨k, rfl⟩ : ∃ j, k = j + 1 := ⟨k - 1, by simp only [high] at h; omega⟩
    rw [den_put]
    by_cases q : x = n
    · simp (decide := true) -implicitDefEqProofs [runB_eq, u_put_in, List.replicate, enc, put, q]
    · simp (decide := true) -implicitDefEqProofs [runB_eq, u_put_in, List.replicate, enc, put, q]
  | fn x b ib =>
    intro k st h
    obtain ⟨k, rfl⟩ : ∃ j, k = j + 1 := ⟨k - 1, by simp only [high] at h; omega⟩
    have h1 := ib k st (by simp only [high] at h; omega)
    rw [den_put]
    by_cases q : x = n
    · simp (decide := true) -implicitDefEqProofs [runB_eq, u_put_in, List.replicate, enc, put, q]
    · simp (decide := true) -implicitDefEqProofs [runB_eq, u_put_in, List.replicate, enc, put, q, h1]
  | rc f x b ib =>
    intro k st h
    obtain ⟨k, rfl⟩ : ∃ j, k = j + 1 := ⟨k - 1, by simp only [high] at h; omega⟩
    have h1 := ib k st (by simp only [high] at h; omega)
    rw [den_put]
    by_cases q : n = f ∨ n = x
    · simp (decide := true) -implicitDefEqProofs [runB_eq, u_put_in, List.replicate, enc, put, q]
    · simp (decide := true) -implicitDefEqProofs [runB_eq, u_put_in, List.replicate, enc, put, q, h1]
  | lt x a b ia ib =>
    intro k st h
    obtain ⟨k, rfl⟩ : ∃ j, k = j + 1 := ⟨k - 1, by simp only [high] at h; omega⟩
    have h1 := ia k st (by simp only [high] at h; omega)
    have h2 := ib k st (by simp only [high] at h; omega)
    rw [den_put]
    by_cases q : x = n
    · rw [q] at *
      simp (decide := true) -implicitDefEqProofs [runB_eq, u_put_in, List.replicate, enc, put, h1]
    · simp (decide := true) -implicitDefEqProofs [runB_eq, u_put_in, List.replicate, enc, put, q, h1, h2]
  | num m  =>
    intro k st h
    obtain ⟨k, rfl⟩ : ∃ j, k = j + 1 := ⟨k - 1, by simp only [high] at h; omega⟩
    rw [den_put]
    have hp := put_parts (F := den k) (n := .str n) (v := enc v) (row := enc (.num m)) (kd := .str "number") (st := st) [(.str "number", .str "number"), (.int m, .int m)] (by
      intro p hp
      simp only [List.mem_cons, List.mem_nil_iff, or_false] at hp
      rcases hp with rfl | rfl
      · exact .inl ⟨rfl, rfl⟩
      · exact .inl ⟨rfl, rfl⟩
      ) (by simp)
    simp only [List.map_cons, List.map_nil, enc] at hp
    simp (decide := true) -implicitDefEqProofs [runB_eq, u_put_in, List.replicate, enc, put, wipeT, hp]
  | tru b  =>
    intro k st h
    obtain ⟨k, rfl⟩ : ∃ j, k = j + 1 := ⟨k - 1, by simp only [high] at h; omega⟩
    rw [den_put]
    have hp := put_parts (F := den k) (n := .str n) (v := enc v) (row := enc (.tru b)) (kd := .str "truth") (st := st) [(.str "truth", .str "truth"), (.bl b, .bl b)] (by
      intro p hp
      simp only [List.mem_cons, List.mem_nil_iff, or_false] at hp
      rcases hp with rfl | rfl
      · exact .inl ⟨rfl, rfl⟩
      · exact .inl ⟨rfl, rfl⟩
      ) (by simp)
    simp only [List.map_cons, List.map_nil, enc] at hp
    simp (decide := true) -implicitDefEqProofs [runB_eq, u_put_in, List.replicate, enc, put, wipeT, hp]
  | emp   =>
    intro k st h
    obtain ⟨k, rfl⟩ : ∃ j, k = j + 1 := ⟨k - 1, by simp only [high] at h; omega⟩
    rw [den_put]
    have hp := put_parts (F := den k) (n := .str n) (v := enc v) (row := enc (.emp )) (kd := .str "empty") (st := st) [(.str "empty", .str "empty")] (by
      intro p hp
      simp only [List.mem_cons, List.mem_nil_iff, or_false] at hp
      subst hp
      exact .inl ⟨rfl, rfl⟩
      ) (by simp)
    simp only [List.map_cons, List.map_nil, enc] at hp
    simp (decide := true) -implicitDefEqProofs [runB_eq, u_put_in, List.replicate, enc, put, wipeT, hp]
  | call a b ia ib =>
    intro k st h
    obtain ⟨k, rfl⟩ : ∃ j, k = j + 1 := ⟨k - 1, by simp only [high] at h; omega⟩
    have h1 := ia k st (by simp only [high] at h; omega)
    have h2 := ib k st (by simp only [high] at h; omega)
    rw [den_put]
    have hp := put_parts (F := den k) (n := .str n) (v := enc v) (row := enc (.call a b)) (kd := .str "call") (st := st) [(.str "call", .str "call"), (enc a, enc (put n v a)), (enc b, enc (put n v b))] (by
      intro p hp
      simp only [List.mem_cons, List.mem_nil_iff, or_false] at hp
      rcases hp with rfl | rfl | rfl
      · exact .inl ⟨rfl, rfl⟩
      · exact .inr ⟨isi_enc _ _, h1⟩
      · exact .inr ⟨isi_enc _ _, h2⟩
      ) (by simp)
    simp only [List.map_cons, List.map_nil, enc] at hp
    simp (decide := true) -implicitDefEqProofs [runB_eq, u_put_in, List.replicate, enc, put, wipeT, hp]
  | ite a b c ia ib ic =>
    intro k st h
    obtain ⟨k, rfl⟩ : ∃ j, k = j + 1 := ⟨k - 1, by simp only [high] at h; omega⟩
    have h1 := ia k st (by simp only [high] at h; omega)
    have h2 := ib k st (by simp only [high] at h; omega)
    have h3 := ic k st (by simp only [high] at h; omega)
    rw [den_put]
    have hp := put_parts (F := den k) (n := .str n) (v := enc v) (row := enc (.ite a b c)) (kd := .str "if") (st := st) [(.str "if", .str "if"), (enc a, enc (put n v a)), (enc b, enc (put n v b)), (enc c, enc (put n v c))] (by
      intro p hp
      simp only [List.mem_cons, List.mem_nil_iff, or_false] at hp
      rcases hp with rfl | rfl | rfl | rfl
      · exact .inl ⟨rfl, rfl⟩
      · exact .inr ⟨isi_enc _ _, h1⟩
      · exact .inr ⟨isi_enc _ _, h2⟩
      · exact .inr ⟨isi_enc _ _, h3⟩
      ) (by simp)
    simp only [List.map_cons, List.map_nil, enc] at hp
    simp (decide := true) -implicitDefEqProofs [runB_eq, u_put_in, List.replicate, enc, put, wipeT, hp]
  | op x a b ia ib =>
    intro k st h
    obtain ⟨k, rfl⟩ : ∃ j, k = j + 1 := ⟨k - 1, by simp only [high] at h; omega⟩
    have h1 := ia k st (by simp only [high] at h; omega)
    have h2 := ib k st (by simp only [high] at h; omega)
    rw [den_put]
    have hp := put_parts (F := den k) (n := .str n) (v := enc v) (row := enc (.op x a b)) (kd := .str "op") (st := st) [(.str "op", .str "op"), (.str x, .str x), (enc a, enc (put n v a)), (enc b, enc (put n v b))] (by
      intro p hp
      simp only [List.mem_cons, List.mem_nil_iff, or_false] at hp
      rcases hp with rfl | rfl | rfl | rfl
      · exact .inl ⟨rfl, rfl⟩
      · exact .inl ⟨rfl, rfl⟩
      · exact .inr ⟨isi_enc _ _, h1⟩
      · exact .inr ⟨isi_enc _ _, h2⟩
      ) (by simp)
    simp only [List.map_cons, List.map_nil, enc] at hp
    simp (decide := true) -implicitDefEqProofs [runB_eq, u_put_in, List.replicate, enc, put, wipeT, hp]
  | ext x a b ia ib =>
    intro k st h
    obtain ⟨k, rfl⟩ : ∃ j, k = j + 1 := ⟨k - 1, by simp only [high] at h; omega⟩
    have h1 := ia k st (by simp only [high] at h; omega)
    have h2 := ib k st (by simp only [high] at h; omega)
    rw [den_put]
    have hp := put_parts (F := den k) (n := .str n) (v := enc v) (row := enc (.ext x a b)) (kd := .str "extend") (st := st) [(.str "extend", .str "extend"), (.str x, .str x), (enc a, enc (put n v a)), (enc b, enc (put n v b))] (by
      intro p hp
      simp only [List.mem_cons, List.mem_nil_iff, or_false] at hp
      rcases hp with rfl | rfl | rfl | rfl
      · exact .inl ⟨rfl, rfl⟩
      · exact .inl ⟨rfl, rfl⟩
      · exact .inr ⟨isi_enc _ _, h1⟩
      · exact .inr ⟨isi_enc _ _, h2⟩
      ) (by simp)
    simp only [List.map_cons, List.map_nil, enc] at hp
    simp (decide := true) -implicitDefEqProofs [runB_eq, u_put_in, List.replicate, enc, put, wipeT, hp]
  | sel x a ia =>
    intro k st h
    obtain ⟨k, rfl⟩ : ∃ j, k = j + 1 := ⟨k - 1, by simp only [high] at h; omega⟩
    have h1 := ia k st (by simp only [high] at h; omega)
    rw [den_put]
    have hp := put_parts (F := den k) (n := .str n) (v := enc v) (row := enc (.sel x a)) (kd := .str "select") (st := st) [(.str "select", .str "select"), (.str x, .str x), (enc a, enc (put n v a))] (by
      intro p hp
      simp only [List.mem_cons, List.mem_nil_iff, or_false] at hp
      rcases hp with rfl | rfl | rfl
      · exact .inl ⟨rfl, rfl⟩
      · exact .inl ⟨rfl, rfl⟩
      · exact .inr ⟨isi_enc _ _, h1⟩
      ) (by simp)
    simp only [List.map_cons, List.map_nil, enc] at hp
    simp (decide := true) -implicitDefEqProofs [runB_eq, u_put_in, List.replicate, enc, put, wipeT, hp]
  | drp x a ia =>
    intro k st h
    obtain ⟨k, rfl⟩ : ∃ j, k = j + 1 := ⟨k - 1, by simp only [high] at h; omega⟩
    have h1 := ia k st (by simp only [high] at h; omega)
    rw [den_put]
    have hp := put_parts (F := den k) (n := .str n) (v := enc v) (row := enc (.drp x a)) (kd := .str "drop") (st := st) [(.str "drop", .str "drop"), (.str x, .str x), (enc a, enc (put n v a))] (by
      intro p hp
      simp only [List.mem_cons, List.mem_nil_iff, or_false] at hp
      rcases hp with rfl | rfl | rfl
      · exact .inl ⟨rfl, rfl⟩
      · exact .inl ⟨rfl, rfl⟩
      · exact .inr ⟨isi_enc _ _, h1⟩
      ) (by simp)
    simp only [List.map_cons, List.map_nil, enc] at hp
    simp (decide := true) -implicitDefEqProofs [runB_eq, u_put_in, List.replicate, enc, put, wipeT, hp]
/-! ### the law's own walk -/
theorem den_sub (k : Nat) (ds : List D) (st : Sto) : den (k + 1) 24 ds st = runB (u__law_substituted (den k) ini) 6 ds st := rfl
abbrev bdSub (F : Nat → Fn) : FS := sSeq (sIf (bTru (fB oIsi2 (aCons (fV 5) (aCons (fC (.ty "tuple")) aNil)))) (sSet 5 (fCallN 3 (F 24) (aCons (fV 5) (aCons (fV 1) (aCons (fV 2) aNil))))) sNil) (sSet 4 (fOp opAddA (fV 4) (fTup (aCons (fV 5) aNil))))
theorem sub_loop {F : Nat → Fn} {n v row kd : D} {st : Sto} : ∀ (ps : List (D × D)) (acc : List D) (o : Option D), (∀ p, p ∈ ps → PartOk (F 24) n v st p) → acc.length + ps.length ≤ 16 →
    ∃ o', forD (gN 5) (bdSub F) (ps.map (·.1)) [some row, some n, some v, some kd, some (.tup acc), o] st = .ok (.nx [some row, some n, some v, some kd, some (.tup (acc ++ ps.map (·.2))), o']) st
  | [], acc, o, _, _ => ⟨o, by rw [List.map_nil, forD_nil]; simp⟩
  | (d, y) :: ps, acc, o, h, hl => by
    simp only [List.length_cons] at hl
    have ha : ∀ x : D, opAddA (.tup acc) (.tup [x]) st = .ok (.tup (acc ++ [x])) st := fun x => opAddA_tup (by rw [sizeLine_eq]; simp; omega) st
    obtain ⟨o', ih⟩ := sub_loop (F := F) (n := n) (v := v) (row := row) (kd := kd) (st := st) ps (acc ++ [y]) (some y) (fun p hp => h p (List.mem_cons_of_mem _ hp)) (by simp; omega)
    refine ⟨o', ?_⟩
    rw [List.map_cons, forD_cons]
    rcases h _ List.mem_cons_self with ⟨h1, h2⟩ | ⟨h1, h2⟩
    · simp only at h1 h2
      subst h2
      simp -implicitDefEqProofs [bdSub, h1, ha]
      simpa [bdSub] using ih
    · simp only at h1 h2
      simp -implicitDefEqProofs [bdSub, h1, h2, ha]
      simpa [bdSub] using ih
theorem sub_parts {F : Nat → Fn} {n v row kd : D} {st : Sto} (ps : List (D × D)) (h : ∀ p, p ∈ ps → PartOk (F 24) n v st p) (hl : ps.length ≤ 16) :
    (forD (gN 5) (bdSub F) (ps.map (·.1)) [some row, some n, some v, some kd, some (.tup []), none] st).bind (kSeq (sRet (fV 4))) = .ok (.rt (.tup (ps.map (·.2)))) st := by
  obtain ⟨o', e⟩ := sub_loop (row := row) (kd := kd) ps [] none h (by simpa using hl)
  rw [e]
  simp
theorem sub_ok (n : Str) (v : Ex) : ∀ (e : Ex) (k : Nat) (st : Sto), high e ≤ k → den k 24 [enc e, .str n, enc v] st = .ok (enc (put n v e)) st := by
  intro e
  induction e with
  | name x =>
    intro k st h
    obtain ⟨k, rfl⟩ : ∃ j, k = j + 1 := ⟨k - 1, by simp only [high] at h; omega⟩
    rw [den_sub]
    by_cases q : x = n
    · simp (decide := true) -implicitDefEqProofs [runB_eq, u__law_substituted, List.replicate, enc, put, q]
    · simp (decide := true) -implicitDefEqProofs [runB_eq, u__law_substituted, List.replicate, enc, put, q]
  | fn x b ib =>
    intro k st h
    obtain ⟨k, rfl⟩ : ∃ j, k = j + 1 := ⟨k - 1, by simp only [high] at h; omega⟩
    have h1 := ib k st (by simp only [high] at h; omega)
    rw [den_sub]
    by_cases q : x = n
    · simp (decide := true) -implicitDefEqProofs [runB_eq, u__law_substituted, List.replicate, enc, put, q]
    · have hp := sub_parts (F := den k) (n := .str n) (v := enc v) (row := enc (.fn x b)) (kd := .str "fun") (st := st) [(.str "fun", .str "fun"), (.str x, .str x), (enc b, enc (put n v b))] (by
        intro p hp
        simp only [List.mem_cons, List.mem_nil_iff, or_false] at hp
        rcases hp with rfl | rfl | rfl
        · exact .inl ⟨rfl, rfl⟩
        · exact .inl ⟨rfl, rfl⟩
        · exact .inr ⟨isi_enc _ _, h1⟩) (by simp)
      simp only [List.map_cons, List.map_nil, enc] at hp
      simp (decide := true) -implicitDefEqProofs [runB_eq, u__law_substituted, List.replicate, enc, put, sForV_eq, q, hp]
  | rc f x b ib =>
    intro k st h
    obtain ⟨k, rfl⟩ : ∃ j, k = j + 1 := ⟨k - 1, by simp only [high] at h; omega⟩
    have h1 := ib k st (by simp only [high] at h; omega)
    rw [den_sub]
    by_cases q : n = f ∨ n = x
    · simp (decide := true) -implicitDefEqProofs [runB_eq, u__law_substituted, List.replicate, enc, put, q]
    · have hp := sub_parts (F := den k) (n := .str n) (v := enc v) (row := enc (.rc f x b)) (kd := .str "rec") (st := st) [(.str "rec", .str "rec"), (.str f, .str f), (.str x, .str x), (enc b, enc (put n v b))] (by
        intro p hp
        simp only [List.mem_cons, List.mem_nil_iff, or_false] at hp
        rcases hp with rfl | rfl | rfl | rfl
        · exact .inl ⟨rfl, rfl⟩
        · exact .inl ⟨rfl, rfl⟩
        · exact .inl ⟨rfl, rfl⟩
        · exact .inr ⟨isi_enc _ _, h1⟩) (by simp)
      simp only [List.map_cons, List.map_nil, enc] at hp
      simp (decide := true) -implicitDefEqProofs [runB_eq, u__law_substituted, List.replicate, enc, put, sForV_eq, q, hp]
  | lt x a b ia ib =>
    intro k st h
    obtain ⟨k, rfl⟩ : ∃ j, k = j + 1 := ⟨k - 1, by simp only [high] at h; omega⟩
    have h1 := ia k st (by simp only [high] at h; omega)
    have h2 := ib k st (by simp only [high] at h; omega)
    rw [den_sub]
    by_cases q : x = n
    · rw [q] at *
      simp (decide := true) -implicitDefEqProofs [runB_eq, u__law_substituted, List.replicate, enc, put, h1]
    · have hp := sub_parts (F := den k) (n := .str n) (v := enc v) (row := enc (.lt x a b)) (kd := .str "let") (st := st) [(.str "let", .str "let"), (.str x, .str x), (enc a, enc (put n v a)), (enc b, enc (put n v b))] (by
        intro p hp
        simp only [List.mem_cons, List.mem_nil_iff, or_false] at hp
        rcases hp with rfl | rfl | rfl | rfl
        · exact .inl ⟨rfl, rfl⟩
        · exact .inl ⟨rfl, rfl⟩
        · exact .inr ⟨isi_enc _ _, h1⟩
        · exact .inr ⟨isi_enc _ _, h2⟩) (by simp)
      simp only [List.map_cons, List.map_nil, enc] at hp
      simp (decide := true) -implicitDefEqProofs [runB_eq, u__law_substituted, List.replicate, enc, put, sForV_eq, q, hp]
  | num m  =>
    intro k st h
    obtain ⟨k, rfl⟩ : ∃ j, k = j + 1 := ⟨k - 1, by simp only [high] at h; omega⟩
    rw [den_sub]
    have hp := sub_parts (F := den k) (n := .str n) (v := enc v) (row := enc (.num m)) (kd := .str "number") (st := st) [(.str "number", .str "number"), (.int m, .int m)] (by
      intro p hp
      simp only [List.mem_cons, List.mem_nil_iff, or_false] at hp
      rcases hp with rfl | rfl
      · exact .inl ⟨rfl, rfl⟩
      · exact .inl ⟨rfl, rfl⟩
      ) (by simp)
    simp only [List.map_cons, List.map_nil, enc] at hp
    simp (decide := true) -implicitDefEqProofs [runB_eq, u__law_substituted, List.replicate, enc, put, sForV_eq, hp]
  | tru b  =>
    intro k st h
    obtain ⟨k, rfl⟩ : ∃ j, k = j + 1 := ⟨k - 1, by simp only [high] at h; omega⟩
    rw [den_sub]
    have hp := sub_parts (F := den k) (n := .str n) (v := enc v) (row := enc (.tru b)) (kd := .str "truth") (st := st) [(.str "truth", .str "truth"), (.bl b, .bl b)] (by
      intro p hp
      simp only [List.mem_cons, List.mem_nil_iff, or_false] at hp
      rcases hp with rfl | rfl
      · exact .inl ⟨rfl, rfl⟩
      · exact .inl ⟨rfl, rfl⟩
      ) (by simp)
    simp only [List.map_cons, List.map_nil, enc] at hp
    simp (decide := true) -implicitDefEqProofs [runB_eq, u__law_substituted, List.replicate, enc, put, sForV_eq, hp]
  | emp   =>
    intro k st h
    obtain ⟨k, rfl⟩ : ∃ j, k = j + 1 := ⟨k - 1, by simp only [high] at h; omega⟩
    rw [den_sub]
    have hp := sub_parts (F := den k) (n := .str n) (v := enc v) (row := enc (.emp )) (kd := .str "empty") (st := st) [(.str "empty", .str "empty")] (by
      intro p hp
      simp only [List.mem_cons, List.mem_nil_iff, or_false] at hp
      subst hp
      exact .inl ⟨rfl, rfl⟩
      ) (by simp)
    simp only [List.map_cons, List.map_nil, enc] at hp
    simp (decide := true) -implicitDefEqProofs [runB_eq, u__law_substituted, List.replicate, enc, put, sForV_eq, hp]
  | call a b ia ib =>
    intro k st h
    obtain ⟨k, rfl⟩ : ∃ j, k = j + 1 := ⟨k - 1, by simp only [high] at h; omega⟩
    have h1 := ia k st (by simp only [high] at h; omega)
    have h2 := ib k st (by simp only [high] at h; omega)
    rw [den_sub]
    have hp := sub_parts (F := den k) (n := .str n) (v := enc v) (row := enc (.call a b)) (kd := .str "call") (st := st) [(.str "call", .str "call"), (enc a, enc (put n v a)), (enc b, enc (put n v b))] (by
      intro p hp
      simp only [List.mem_cons, List.mem_nil_iff, or_false] at hp
      rcases hp with rfl | rfl | rfl
      · exact .inl ⟨rfl, rfl⟩
      · exact .inr ⟨isi_enc _ _, h1⟩
      · exact .inr ⟨isi_enc _ _, h2⟩
      ) (by simp)
    simp only [List.map_cons, List.map_nil, enc] at hp
    simp (decide := true) -implicitDefEqProofs [runB_eq, u__law_substituted, List.replicate, enc, put, sForV_eq, hp]
  | ite a b c ia ib ic =>
    intro k st h
    obtain ⟨k, rfl⟩ : ∃ j, k = j + 1 := ⟨k - 1, by simp only [high] at h; omega⟩
    have h1 := ia k st (by simp only [high] at h; omega)
    have h2 := ib k st (by simp only [high] at h; omega)
    have h3 := ic k st (by simp only [high] at h; omega)
    rw [den_sub]
    have hp := sub_parts (F := den k) (n := .str n) (v := enc v) (row := enc (.ite a b c)) (kd := .str "if") (st := st) [(.str "if", .str "if"), (enc a, enc (put n v a)), (enc b, enc (put n v b)), (enc c, enc (put n v c))] (by
      intro p hp
      simp only [List.mem_cons, List.mem_nil_iff, or_false] at hp
      rcases hp with rfl | rfl | rfl | rfl
      · exact .inl ⟨rfl, rfl⟩
      · exact .inr ⟨isi_enc _ _, h1⟩
      · exact .inr ⟨isi_enc _ _, h2⟩
      · exact .inr ⟨isi_enc _ _, h3⟩
      ) (by simp)
    simp only [List.map_cons, List.map_nil, enc] at hp
    simp (decide := true) -implicitDefEqProofs [runB_eq, u__law_substituted, List.replicate, enc, put, sForV_eq, hp]
  | op x a b ia ib =>
    intro k st h
    obtain ⟨k, rfl⟩ : ∃ j, k = j + 1 := ⟨k - 1, by simp only [high] at h; omega⟩
    have h1 := ia k st (by simp only [high] at h; omega)
    have h2 := ib k st (by simp only [high] at h; omega)
    rw [den_sub]
    have hp := sub_parts (F := den k) (n := .str n) (v := enc v) (row := enc (.op x a b)) (kd := .str "op") (st := st) [(.str "op", .str "op"), (.str x, .str x), (enc a, enc (put n v a)), (enc b, enc (put n v b))] (by
      intro p hp
      simp only [List.mem_cons, List.mem_nil_iff, or_false] at hp
      rcases hp with rfl | rfl | rfl | rfl
      · exact .inl ⟨rfl, rfl⟩
      · exact .inl ⟨rfl, rfl⟩
      · exact .inr ⟨isi_enc _ _, h1⟩
      · exact .inr ⟨isi_enc _ _, h2⟩
      ) (by simp)
    simp only [List.map_cons, List.map_nil, enc] at hp
    simp (decide := true) -implicitDefEqProofs [runB_eq, u__law_substituted, List.replicate, enc, put, sForV_eq, hp]
  | ext x a b ia ib =>
    intro k st h
    obtain ⟨k, rfl⟩ : ∃ j, k = j + 1 := ⟨k - 1, by simp only [high] at h; omega⟩
    have h1 := ia k st (by simp only [high] at h; omega)
    have h2 := ib k st (by simp only [high] at h; omega)
    rw [den_sub]
    have hp := sub_parts (F := den k) (n := .str n) (v := enc v) (row := enc (.ext x a b)) (kd := .str "extend") (st := st) [(.str "extend", .str "extend"), (.str x, .str x), (enc a, enc (put n v a)), (enc b, enc (put n v b))] (by
      intro p hp
      simp only [List.mem_cons, List.mem_nil_iff, or_false] at hp
      rcases hp with rfl | rfl | rfl | rfl
      · exact .inl ⟨rfl, rfl⟩
      · exact .inl ⟨rfl, rfl⟩
      · exact .inr ⟨isi_enc _ _, h1⟩
      · exact .inr ⟨isi_enc _ _, h2⟩
      ) (by simp)
    simp only [List.map_cons, List.map_nil, enc] at hp
    simp (decide := true) -implicitDefEqProofs [runB_eq, u__law_substituted, List.replicate, enc, put, sForV_eq, hp]
  | sel x a ia =>
    intro k st h
    obtain ⟨k, rfl⟩ : ∃ j, k = j + 1 := ⟨k - 1, by simp only [high] at h; omega⟩
    have h1 := ia k st (by simp only [high] at h; omega)
    rw [den_sub]
    have hp := sub_parts (F := den k) (n := .str n) (v := enc v) (row := enc (.sel x a)) (kd := .str "select") (st := st) [(.str "select", .str "select"), (.str x, .str x), (enc a, enc (put n v a))] (by
      intro p hp
      simp only [List.mem_cons, List.mem_nil_iff, or_false] at hp
      rcases hp with rfl | rfl | rfl
      · exact .inl ⟨rfl, rfl⟩
      · exact .inl ⟨rfl, rfl⟩
      · exact .inr ⟨isi_enc _ _, h1⟩
      ) (by simp)
    simp only [List.map_cons, List.map_nil, enc] at hp
    simp (decide := true) -implicitDefEqProofs [runB_eq, u__law_substituted, List.replicate, enc, put, sForV_eq, hp]
  | drp x a ia =>
    intro k st h
    obtain ⟨k, rfl⟩ : ∃ j, k = j + 1 := ⟨k - 1, by simp only [high] at h; omega⟩
    have h1 := ia k st (by simp only [high] at h; omega)
    rw [den_sub]
    have hp := sub_parts (F := den k) (n := .str n) (v := enc v) (row := enc (.drp x a)) (kd := .str "drop") (st := st) [(.str "drop", .str "drop"), (.str x, .str x), (enc a, enc (put n v a))] (by
      intro p hp
      simp only [List.mem_cons, List.mem_nil_iff, or_false] at hp
      rcases hp with rfl | rfl | rfl
      · exact .inl ⟨rfl, rfl⟩
      · exact .inl ⟨rfl, rfl⟩
      · exact .inr ⟨isi_enc _ _, h1⟩
      ) (by simp)
    simp only [List.map_cons, List.map_nil, enc] at hp
    simp (decide := true) -implicitDefEqProofs [runB_eq, u__law_substituted, List.replicate, enc, put, sForV_eq, hp]
end K16
set_option Elab.async false
set_option linter.all false
set_option maxHeartbeats 4000000
set_option maxRecDepth 100000
namespace K16
open PySem PySem.Spec PyProof.Rows L2 LamX DL DL.Ex
theorem high_pos : ∀ e : Ex, 1 ≤ high e := by intro e; cases e <;> simp only [high] <;> omega
theorem den_chi (k : Nat) (ds : List D) (st : Sto) : den (k + 1) 22 ds st = runB (u__law_children (den k) ini) 2 ds st := rfl
theorem den_ch (k : Nat) (ds : List D) (st : Sto) : den (k + 1) 0 ds st = runB (u_children (den k) ini) 1 ds st := rfl
/-- the law's children: all that are tuples -/
def lkids (e : Ex) : List Ex := kids e
def selT : D → Option D
  | .tup ds => some (.tup ds)
  | _ => none
@[simp] theorem selT_enc (e : Ex) : selT (enc e) = some (enc e) := by cases e <;> rfl
@[simp] theorem selT_str (x : Str) : selT (.str x) = none := rfl
@[simp] theorem selT_int (x : Int) : selT (.int x) = none := rfl
@[simp] theorem selT_bl (x : Bool) : selT (.bl x) = none := rfl
def PartI (d : D) : Prop := (∃ e, d = enc e) ∨ (selT d = none ∧ ∀ st, oIsi "tuple" d st = .ok (.bl false) st)
theorem PartI.enc (e : Ex) : PartI (Ex.enc e) := .inl ⟨e, rfl⟩
theorem PartI.str (x : Str) : PartI (.str x) := .inr ⟨rfl, fun _ => rfl⟩
theorem PartI.int (x : Int) : PartI (.int x) := .inr ⟨rfl, fun _ => rfl⟩
theorem PartI.bl (x : Bool) : PartI (.bl x) := .inr ⟨rfl, fun _ => rfl⟩
theorem chi_parts {row : D} {st : Sto} (ds : List D) (h : ∀ d, d ∈ ds → PartI d) (hl : ds.length ≤ 16) :
    lcD (gN 1) (bTru (fB oIsi2 (aCons (fV 1) (aCons (fC (.ty "tuple")) aNil)))) (fV 1) [some row, none] finLv ds [] st = .ok (.lv (ds.filterMap selT)) st := by
  rw [lcD_map selT (fun d hd => ?_) (by rw [sizeLine_eq]; simp; omega)]
  · simp
  · rcases h d hd with ⟨e, rfl⟩ | ⟨h1, h2⟩
    · simp [lcOne]
    · simp [lcOne, h1, h2]
theorem parts_ok (e : Ex) : ∃ x ds, Ex.enc e = .tup (x :: ds) ∧ ds.length ≤ 16 ∧ (∀ d, d ∈ ds → PartI d) ∧ ds.filterMap selT = (kids e).map Ex.enc := by
  cases e
  all_goals
    refine ⟨_, _, rfl, by simp, ?_, by simp [kids, List.filterMap_cons]⟩
    simp only [List.forall_mem_cons, PartI.enc, PartI.str, PartI.int, PartI.bl, true_and, List.forall_mem_nil, List.not_mem_nil]
    try simp
theorem lchi_ok (e : Ex) (k : Nat) (st : Sto) : den (k + 1) 22 [enc e] st = .ok (.lv ((kids e).map enc)) st := by
  rw [den_chi]
  obtain ⟨x, ds, e1, e2, e3, e4⟩ := parts_ok e
  have hp := chi_parts (row := .tup (x :: ds)) (st := st) ds e3 e2
  rw [e1]
  simp (decide := true) -implicitDefEqProofs [runB_eq, u__law_children, List.replicate, wipeT, hp, e4]
@[simp] theorem tl_name : List.lookup (Str.ofString "name") tab_FIRST_CHILD = none := by kernel_rfl
@[simp] theorem tl_number : List.lookup (Str.ofString "number") tab_FIRST_CHILD = none := by kernel_rfl
@[simp] theorem tl_truth : List.lookup (Str.ofString "truth") tab_FIRST_CHILD = none := by kernel_rfl
@[simp] theorem tl_empty : List.lookup (Str.ofString "empty") tab_FIRST_CHILD = none := by kernel_rfl
@[simp] theorem tl_fun : List.lookup (Str.ofString "fun") tab_FIRST_CHILD = some (.int 2) := by kernel_rfl
@[simp] theorem tl_rec : List.lookup (Str.ofString "rec") tab_FIRST_CHILD = some (.int 3) := by kernel_rfl
@[simp] theorem tl_call : List.lookup (Str.ofString "call") tab_FIRST_CHILD = some (.int 1) := by kernel_rfl
@[simp] theorem tl_let : List.lookup (Str.ofString "let") tab_FIRST_CHILD = some (.int 2) := by kernel_rfl
@[simp] theorem tl_if : List.lookup (Str.ofString "if") tab_FIRST_CHILD = some (.int 1) := by kernel_rfl
@[simp] theorem tl_op : List.lookup (Str.ofString "op") tab_FIRST_CHILD = some (.int 2) := by kernel_rfl
@[simp] theorem tl_extend : List.lookup (Str.ofString "extend") tab_FIRST_CHILD = some (.int 2) := by kernel_rfl
@[simp] theorem tl_select : List.lookup (Str.ofString "select") tab_FIRST_CHILD = some (.int 2) := by kernel_rfl
@[simp] theorem tl_drop : List.lookup (Str.ofString "drop") tab_FIRST_CHILD = some (.int 2) := by kernel_rfl
theorem chil_ok (e : Ex) (k : Nat) (st : Sto) : den (k + 1) 0 [enc e] st = .ok (.tup ((kids e).map enc)) st := by
  rw [den_ch]
  cases e
  all_goals
    simp only [enc, kids]
    simp (decide := true) -implicitDefEqProofs [runB_eq, u_children, List.replicate]
theorem add_strs {B C : List Str} (h : B.length + C.length ≤ sizeLine) (st : Sto) : opAddA (.lv (B.map D.str)) (.lv (C.map D.str)) st = .ok (.lv ((B ++ C).map D.str)) st := by
  rw [opAddA_lv (by simp only [List.length_map]; exact h)]; simp
end K16
set_option Elab.async false
set_option linter.all false
set_option maxHeartbeats 4000000
set_option maxRecDepth 100000
namespace K16
open PySem PySem.Spec PyProof.Rows L2 LamX DL DL.Ex
/-! ### what the law draws -/
structure Keep (b : Nat) (st st' : Sto) : Prop where
  box : Box st' b
  len : st'.length = st.length
  at_ : ∀ i, i ≠ b → st'[i]? = st[i]?
theorem Keep.trans {b : Nat} {s1 s2 s3 : Sto} (a : Keep b s1 s2) (c : Keep b s2 s3) : Keep b s1 s3 := ⟨c.box, c.len.trans a.len, fun i h => (c.at_ i h).trans (a.at_ i h)⟩
theorem dr_ok {st : Sto} {b : Nat} (B : Box st b) (k : Nat) (m : Int) (hm : 0 < m) : ∃ r st', den (k + 1) 16 [.obj b, .int m] st = .ok (.int r) st' ∧ 0 ≤ r ∧ r < m ∧ Keep b st st' := by
  obtain ⟨r, st', h, h0, h1, h2, h3, h4⟩ := draw_ok B hm
  exact ⟨r, st', h, h0, h1, h2, h3, h4⟩
theorem den_pk (k : Nat) (ds : List D) (st : Sto) : den (k + 1) 17 ds st = runB (u__law_pick (den k) ini) 2 ds st := rfl
theorem oLen_lv (ds : List D) (st : Sto) : oLen [.lv ds] st = .ok (.int (ds.length : Nat)) st := rfl
theorem pk_ok {st : Sto} {b : Nat} (B : Box st b) (k : Nat) (ds : List D) (hl : 0 < ds.length) : ∃ d st', den (k + 2) 17 [.obj b, .lv ds] st = .ok d st' ∧ d ∈ ds ∧ Keep b st st' := by
  obtain ⟨r, st', h, h0, h1, hk⟩ := dr_ok B k 90 (by decide)
  have hp : (0 : Int) < (ds.length : Nat) := by omega
  have q0 : 0 ≤ r % (ds.length : Nat) := Int.emod_nonneg _ (by omega)
  have q1 : r % (ds.length : Nat) < (ds.length : Nat) := Int.emod_lt_of_pos _ hp
  obtain ⟨i, hi⟩ := Int.eq_ofNat_of_zero_le q0
  have hi2 : i < ds.length := by omega
  have hat : atI ds (r % (ds.length : Nat)) = some ds[i] := by rw [hi, DL.atI_nat, List.getElem?_eq_getElem hi2]
  refine ⟨ds[i], st', ?_, List.getElem_mem hi2, hk⟩
  rw [den_pk]
  simp -implicitDefEqProofs [runB_eq, u__law_pick, List.replicate, h, oLen_lv, opMod_pos hp, hat]
theorem pks_ok {st : Sto} {b : Nat} (B : Box st b) (k : Nat) (xs : List Str) (hl : 0 < xs.length) : ∃ x st', den (k + 2) 17 [.obj b, .lv (xs.map D.str)] st = .ok (.str x) st' ∧ x ∈ xs ∧ Keep b st st' := by
  obtain ⟨d, st', h, hm, hk⟩ := pk_ok B k (xs.map D.str) (by simpa using hl)
  obtain ⟨x, hx, rfl⟩ := List.mem_map.mp hm
  exact ⟨x, st', h, hx, hk⟩
theorem den_lf (k : Nat) (ds : List D) (st : Sto) : den (k + 1) 19 ds st = runB (u__law_leaf (den k) ini) 2 ds st := rfl
theorem lf_ok {st : Sto} {b : Nat} (B : Box st b) (k : Nat) (K : Str) : ∃ e st', den (k + 2) 19 [.obj b, .str K] st = .ok (enc e) st' ∧ Ex.Good e ∧ size e ≤ 2 ∧ Keep b st st' := by
  rw [den_lf]
  by_cases q1 : K = "number"
  · subst q1
    obtain ⟨r, s1, h, h0, h1, hk⟩ := dr_ok B k 4 (by decide)
    obtain ⟨r2, s2, h2, h02, h12, hk2⟩ := dr_ok hk.box k 3 (by decide)
    have c : r2 = 0 ∨ r2 = 1 ∨ r2 = 2 := by omega
    rcases c with rfl | rfl | rfl
    · refine ⟨.num r, s2, ?_, ?_, by simp [size], hk.trans hk2⟩
      · simp (decide := true) -implicitDefEqProofs [runB_eq, u__law_leaf, List.replicate, h, h2, enc]
      · simp only [Ex.Good, shortI]; omega
    · refine ⟨.num 999999, s2, ?_, by simp [Ex.Good, shortI], by simp [size], hk.trans hk2⟩
      simp (decide := true) -implicitDefEqProofs [runB_eq, u__law_leaf, List.replicate, h, h2, enc]
    · refine ⟨.num 10, s2, ?_, by simp [Ex.Good, shortI], by simp [size], hk.trans hk2⟩
      simp (decide := true) -implicitDefEqProofs [runB_eq, u__law_leaf, List.replicate, h, h2, enc]
  · by_cases q2 : K = "truth"
    · subst q2
      obtain ⟨r, s1, h, h0, h1, hk⟩ := dr_ok B k 2 (by decide)
      refine ⟨.tru (decide (r = 1)), s1, ?_, trivial, by simp [size], hk⟩
      simp (decide := true) -implicitDefEqProofs [runB_eq, u__law_leaf, List.replicate, h, enc]
    · by_cases q3 : K = "fun"
      · subst q3
        refine ⟨.fn "w" (.name "w"), st, ?_, ⟨wS, wS⟩, by simp [size], B, rfl, fun _ _ => rfl⟩
        simp (decide := true) -implicitDefEqProofs [runB_eq, u__law_leaf, List.replicate, enc]
      · refine ⟨.emp, st, ?_, trivial, by simp [size], B, rfl, fun _ _ => rfl⟩
        simp (decide := true) -implicitDefEqProofs [runB_eq, u__law_leaf, List.replicate, enc, q1, q2, q3]
end K16
set_option Elab.async false
set_option linter.all false
set_option maxHeartbeats 4000000
set_option maxRecDepth 100000
namespace K16
open PySem PySem.Spec PyProof.Rows L2 LamX DL DL.Ex
def xN (F : Nat → Fn) : FS :=
  (sIf (bAnd (bOf (fOp opGt (fB oLen (aCons (fV 1) aNil)) (fC (.int 0)))) (bOr (bOf (fOp opLt (fV 4) (fC (.int 3)))) (bAnd (bOf (fOp opLt (fOp opIx (fV 3) (fC (.int 0))) (fC (.int 2)))) (bOf (fOp opLt (fV 4) (fC (.int 9))))))) (sSeq (sSet 5 (fLcG finLv (iV (fV 1)) (gN 6) [6] (bOf (fOp opEq (fOp opIx (fV 6) (fC (.int 1))) (fV 2))) (fOp opIx (fV 6) (fC (.int 0))))) (sSeq (sIf (bAnd (bOf (fOp opGt (fB oLen (aCons (fV 5) aNil)) (fC (.int 0)))) (bOf (fOp opGt (fV 4) (fC (.int 0))))) (sRet (fTup (aCons (fC (.str "name")) (aCons (fCallN 2 (F 17) (aCons (fV 0) (aCons (fV 5) aNil))) aNil)))) sNil) (sIf (bOf (fOp opEq (fV 4) (fC (.int 0)))) (sRet (fTup (aCons (fC (.str "name")) (aCons (fCallN 2 (F 17) (aCons (fV 0) (aCons (fOp opAddA (fLcG finLv (iV (fV 1)) (gN 6) [6] bYes (fOp opIx (fV 6) (fC (.int 0)))) (fLv (aCons (fC (.str "free")) aNil))) aNil))) aNil)))) sNil))) sNil)
def xR (F : Nat → Fn) : FS :=
  (sSeq (sIf (bOf (fOp opLt (fOp opIx (fV 3) (fC (.int 0))) (fC (.int 3)))) (sRet (fCallN 2 (F 19) (aCons (fV 0) (aCons (fV 2) aNil)))) sNil)
  (sSeq (sIf (bOf (fOp opEq (fV 4) (fC (.int 3)))) (sRet (fCallN 4 (F 20) (aCons (fV 0) (aCons (fV 1) (aCons (fV 2) (aCons (fV 3) aNil)))))) sNil)
  (sSeq (sIf (bOf (fOp opEq (fV 4) (fC (.int 4)))) (sRet (fTup (aCons (fC (.str "if")) (aCons (fCallN 4 (F 18) (aCons (fV 0) (aCons (fV 1) (aCons (fC (.str "truth")) (aCons (fV 3) aNil))))) (aCons (fCallN 4 (F 18) (aCons (fV 0) (aCons (fV 1) (aCons (fV 2) (aCons (fV 3) aNil))))) (aCons (fCallN 4 (F 18) (aCons (fV 0) (aCons (fV 1) (aCons (fV 2) (aCons (fV 3) aNil))))) aNil)))))) sNil)
  (sSeq (sIf (bOf (fOp opEq (fV 4) (fC (.int 5)))) (sRet (fTup (aCons (fC (.str "select")) (aCons (fCallN 2 (F 17) (aCons (fV 0) (aCons (fLv (aCons (fC (.str "x")) (aCons (fC (.str "y")) aNil))) aNil))) (aCons (fCallN 4 (F 18) (aCons (fV 0) (aCons (fV 1) (aCons (fC (.str "record")) (aCons (fV 3) aNil))))) aNil))))) sNil)
  (sSeq (sIf (bOf (fOp opEq (fV 4) (fC (.int 6)))) (sRet (fTup (aCons (fC (.str "call")) (aCons (fCallN 4 (F 18) (aCons (fV 0) (aCons (fV 1) (aCons (fC (.str "fun")) (aCons (fV 3) aNil))))) (aCons (fCallN 4 (F 18) (aCons (fV 0) (aCons (fV 1) (aCons (fC (.str "any")) (aCons (fV 3) aNil))))) aNil))))) sNil)
  (sSeq (sIf (bOf (fOp opEq (fV 2) (fC (.str "number")))) (sRet (fTup (aCons (fC (.str "op")) (aCons (fOp opIx (fC (.str "+-")) (fCallN 2 (F 16) (aCons (fV 0) (aCons (fC (.int 2)) aNil)))) (aCons (fCallN 4 (F 18) (aCons (fV 0) (aCons (fV 1) (aCons (fC (.str "number")) (aCons (fV 3) aNil))))) (aCons (fCallN 4 (F 18) (aCons (fV 0) (aCons (fV 1) (aCons (fC (.str "number")) (aCons (fV 3) aNil))))) aNil)))))) sNil)
  (sSeq (sIf (bOf (fOp opEq (fV 2) (fC (.str "truth")))) (sRet (fTup (aCons (fC (.str "op")) (aCons (fOp opIx (fLv (aCons (fC (.str "<")) (aCons (fC (.str "==")) aNil))) (fCallN 2 (F 16) (aCons (fV 0) (aCons (fC (.int 2)) aNil)))) (aCons (fCallN 4 (F 18) (aCons (fV 0) (aCons (fV 1) (aCons (fC (.str "number")) (aCons (fV 3) aNil))))) (aCons (fCallN 4 (F 18) (aCons (fV 0) (aCons (fV 1) (aCons (fC (.str "number")) (aCons (fV 3) aNil))))) aNil)))))) sNil)
  (sSeq (sIf (bOf (fOp opEq (fV 2) (fC (.str "fun")))) (sRet (fCallN 3 (F 21) (aCons (fV 0) (aCons (fV 1) (aCons (fV 3) aNil))))) sNil)
  (sSeq (sIf (bOf (fOp opLt (fV 4) (fC (.int 10)))) (sRet (fTup (aCons (fC (.str "drop")) (aCons (fCallN 2 (F 17) (aCons (fV 0) (aCons (fLv (aCons (fC (.str "x")) (aCons (fC (.str "y")) aNil))) aNil))) (aCons (fCallN 4 (F 18) (aCons (fV 0) (aCons (fV 1) (aCons (fC (.str "record")) (aCons (fV 3) aNil))))) aNil))))) sNil)
  (sRet (fTup (aCons (fC (.str "extend")) (aCons (fCallN 2 (F 17) (aCons (fV 0) (aCons (fLv (aCons (fC (.str "x")) (aCons (fC (.str "y")) (aCons (fC (.str "z")) aNil)))) aNil))) (aCons (fCallN 4 (F 18) (aCons (fV 0) (aCons (fV 1) (aCons (fC (.str "any")) (aCons (fV 3) aNil))))) (aCons (fCallN 4 (F 18) (aCons (fV 0) (aCons (fV 1) (aCons (fC (.str "record")) (aCons (fV 3) aNil))))) aNil)))))))))))))))
theorem u_x_eq (F I : Nat → Fn) : u__law_expression F I = sSeq (sAsg (fOp opSub (fOp opIx (fV 3) (fC (.int 0))) (fC (.int 1))) (gSubD (fV 3) (fC (.int 0)))) (sSeq (sSet 4 (fCallN 2 (F 16) (aCons (fV 0) (aCons (fC (.int 16)) aNil)))) (sSeq (sIf (bOf (fOp opEq (fV 2) (fC (.str "any")))) (sSet 2 (fOp opIx (fLv (aCons (fC (.str "number")) (aCons (fC (.str "truth")) (aCons (fC (.str "fun")) (aCons (fC (.str "record")) aNil))))) (fCallN 2 (F 16) (aCons (fV 0) (aCons (fC (.int 4)) aNil))))) sNil) (sSeq (xN F) (xR F)))) := rfl
def pos (l : Int) : Nat := (l - 3).toNat
structure Inv (b L : Nat) (l : Int) (st : Sto) : Prop where
  box : Box st b
  ne : L ≠ b
  lf : st[L]? = some (.lst [.int l])
theorem Inv.keep {b L : Nat} {l : Int} {s1 s2 : Sto} (I : Inv b L l s1) (K : Keep b s1 s2) : Inv b L l s2 := ⟨K.box, I.ne, (K.at_ L I.ne).trans I.lf⟩
theorem sh_of {xs : List Str} (h : (xs.all fun x => decide (x.cps.size ≤ 4) && x.cps.toList.all fun c => decide (c < 1114112)) = true := by decide) : ∀ x, x ∈ xs → shortS x := by
  intro x hx
  have := List.all_eq_true.mp h x hx
  rw [Bool.and_eq_true, decide_eq_true_eq] at this
  exact this
/-- a scope: names and kinds -/
def encSc (sc : List (Str × Str)) : D := .lv (sc.map fun q => .tup [.str q.1, .str q.2])
structure ScOk (sc : List (Str × Str)) (p : Nat) : Prop where
  short : ∀ q, q ∈ sc → shortS q.1
  len : sc.length + 2 * p ≤ 1000
def GenR (b L : Nat) (l : Int) (c : Nat) (r : DL.R D) : Prop := ∃ e l' st', r = .ok (enc e) st' ∧ Ex.Good e ∧ pos l' ≤ pos l ∧ size e ≤ c + 6 * (pos l - pos l') ∧ Inv b L l' st'
def HX (F : Nat → Fn) (b p : Nat) : Prop := ∀ sc K L l st, pos l ≤ p → ScOk sc p → Inv b L l st → GenR b L l 2 (F 18 [.obj b, encSc sc, .str K, .obj L] st)
def HL (F : Nat → Fn) (b p : Nat) : Prop := ∀ sc K L l st, pos l ≤ p → ScOk sc (p + 1) → Inv b L l st → GenR b L l 5 (F 20 [.obj b, encSc sc, .str K, .obj L] st)
def HF (F : Nat → Fn) (b p : Nat) : Prop := ∀ sc L l st, pos l ≤ p → ScOk sc (p + 1) → Inv b L l st → GenR b L l 3 (F 21 [.obj b, encSc sc, .obj L] st)
theorem ScOk.less {sc : List (Str × Str)} {p q : Nat} (h : ScOk sc p) (l : q ≤ p) : ScOk sc q := ⟨h.short, by have := h.len; omega⟩
def RestR (b L : Nat) (l : Int) (r : DL.R Out) : Prop := ∃ e l' st', r = .ok (.rt (enc e)) st' ∧ Ex.Good e ∧ pos l' ≤ pos (l + 1) ∧ size e ≤ 2 + 6 * (pos (l + 1) - pos l') ∧ Inv b L l' st'
theorem ix_pm0 (st : Sto) : opIx (.str "+-") (.int 0) st = .ok (.str "+") st := by kernel_rfl
theorem ix_pm1 (st : Sto) : opIx (.str "+-") (.int 1) st = .ok (.str "-") st := by kernel_rfl
theorem xr_leaf {k b L : Nat} {sc : List (Str × Str)} {K : Str} {l r : Int} {o5 o6 : Option D} {st : Sto} (I : Inv b L l st) (c : l < 3) : RestR b L l (xR (den (k + 2)) [some (.obj b), some (encSc sc), some (.str K), some (.obj L), some (.int r), o5, o6] st) := by
  obtain ⟨e, s1, h, g, z, hk⟩ := lf_ok I.box k K
  refine ⟨e, l, s1, ?_, g, by simp only [pos]; omega, by omega, I.keep hk⟩
  simp (decide := true) -implicitDefEqProofs [xR, opIx_obj I.lf, c, h]
theorem xr_in {k b p L : Nat} (hx : HX (den (k + 2)) b p) (hl : HL (den (k + 2)) b p) (hf : HF (den (k + 2)) b p) {sc : List (Str × Str)} {K : Str} {l r : Int} {o5 o6 : Option D} {st : Sto} (I : Inv b L l st) (c : ¬ l < 3) (hp : pos (l + 1) ≤ p + 1) (hs : ScOk sc (p + 1)) :
    RestR b L l (xR (den (k + 2)) [some (.obj b), some (encSc sc), some (.str K), some (.obj L), some (.int r), o5, o6] st) := by
  have hp1 : pos (l + 1) = pos l + 1 := by simp only [pos]; omega
  have hp2 : pos l ≤ p := by omega
  have hs2 : ScOk sc p := hs.less (Nat.le_succ p)
  have hi := opIx_obj I.lf 0
  by_cases c3 : r = 3
  · subst c3
    obtain ⟨e, l2, s2, h, g, p1, z1, I1⟩ := hl sc K L l st hp2 hs I
    refine ⟨e, l2, s2, ?_, g, by omega, by omega, I1⟩
    simp (decide := true) -implicitDefEqProofs [xR, hi, c, h]
  by_cases c4 : r = 4
  · subst c4
    obtain ⟨e1, l2, s2, h1, g1, p1, z1, I1⟩ := hx sc "truth" L l st hp2 hs2 I
    obtain ⟨e2, l3, s3, h2, g2, p2, z2, I2⟩ := hx sc K L l2 s2 (by omega) hs2 I1
    obtain ⟨e3, l4, s4, h3, g3, p3, z3, I3⟩ := hx sc K L l3 s3 (by omega) hs2 I2
    refine ⟨.ite e1 e2 e3, l4, s4, ?_, ⟨g1, g2, g3⟩, by omega, by simp only [size]; omega, I3⟩
    simp (decide := true) -implicitDefEqProofs [xR, hi, c, h1, h2, h3, enc]
  by_cases c5 : r = 5
  · subst c5
    obtain ⟨x, s1, h0, hx0, hk⟩ := pks_ok I.box k ["x", "y"] (by decide)
    simp only [List.map_cons, List.map_nil] at h0
    obtain ⟨e1, l2, s2, h1, g1, p1, z1, I1⟩ := hx sc "record" L l s1 hp2 hs2 (I.keep hk)
    refine ⟨.sel x e1, l2, s2, ?_, ⟨sh_of (by decide) x hx0, g1⟩, by omega, by simp only [size]; omega, I1⟩
    simp (decide := true) -implicitDefEqProofs [xR, hi, c, h0, h1, enc]
  by_cases c6 : r = 6
  · subst c6
    obtain ⟨e1, l2, s2, h1, g1, p1, z1, I1⟩ := hx sc "fun" L l st hp2 hs2 I
    obtain ⟨e2, l3, s3, h2, g2, p2, z2, I2⟩ := hx sc "any" L l2 s2 (by omega) hs2 I1
    refine ⟨.call e1 e2, l3, s3, ?_, ⟨g1, g2⟩, by omega, by simp only [size]; omega, I2⟩
    simp (decide := true) -implicitDefEqProofs [xR, hi, c, h1, h2, enc]
  by_cases k1 : K = "number"
  · subst k1
    obtain ⟨q, s1, h0, q0, q1, hk⟩ := dr_ok I.box (k + 1) 2 (by decide)
    obtain ⟨e1, l2, s2, h1, g1, p1, z1, I1⟩ := hx sc "number" L l s1 hp2 hs2 (I.keep hk)
    obtain ⟨e2, l3, s3, h2, g2, p2, z2, I2⟩ := hx sc "number" L l2 s2 (by omega) hs2 I1
    have cq : q = 0 ∨ q = 1 := by omega
    rcases cq with rfl | rfl
    · refine ⟨.op "+" e1 e2, l3, s3, ?_, ⟨wS, g1, g2⟩, by omega, by simp only [size]; omega, I2⟩
      simp (decide := true) -implicitDefEqProofs [xR, hi, c, c3, c4, c5, c6, h0, h1, h2, enc, ix_pm0]
    · refine ⟨.op "-" e1 e2, l3, s3, ?_, ⟨wS, g1, g2⟩, by omega, by simp only [size]; omega, I2⟩
      simp (decide := true) -implicitDefEqProofs [xR, hi, c, c3, c4, c5, c6, h0, h1, h2, enc, ix_pm1]
  by_cases k2 : K = "truth"
  · subst k2
    obtain ⟨q, s1, h0, q0, q1, hk⟩ := dr_ok I.box (k + 1) 2 (by decide)
    obtain ⟨e1, l2, s2, h1, g1, p1, z1, I1⟩ := hx sc "number" L l s1 hp2 hs2 (I.keep hk)
    obtain ⟨e2, l3, s3, h2, g2, p2, z2, I2⟩ := hx sc "number" L l2 s2 (by omega) hs2 I1
    have cq : q = 0 ∨ q = 1 := by omega
    rcases cq with rfl | rfl
    · refine ⟨.op "<" e1 e2, l3, s3, ?_, ⟨wS, g1, g2⟩, by omega, by simp only [size]; omega, I2⟩
      simp (decide := true) -implicitDefEqProofs [xR, hi, c, c3, c4, c5, c6, h0, h1, h2, enc]
    · refine ⟨.op "==" e1 e2, l3, s3, ?_, ⟨wS, g1, g2⟩, by omega, by simp only [size]; omega, I2⟩
      simp (decide := true) -implicitDefEqProofs [xR, hi, c, c3, c4, c5, c6, h0, h1, h2, enc]
  by_cases k3 : K = "fun"
  · subst k3
    obtain ⟨e, l2, s2, h, g, p1, z1, I1⟩ := hf sc L l st hp2 hs I
    refine ⟨e, l2, s2, ?_, g, by omega, by omega, I1⟩
    simp (decide := true) -implicitDefEqProofs [xR, hi, c, c3, c4, c5, c6, h]
  by_cases c10 : r < 10
  · obtain ⟨x, s1, h0, hx0, hk⟩ := pks_ok I.box k ["x", "y"] (by decide)
    simp only [List.map_cons, List.map_nil] at h0
    obtain ⟨e1, l2, s2, h1, g1, p1, z1, I1⟩ := hx sc "record" L l s1 hp2 hs2 (I.keep hk)
    refine ⟨.drp x e1, l2, s2, ?_, ⟨sh_of (by decide) x hx0, g1⟩, by omega, by simp only [size]; omega, I1⟩
    simp (decide := true) -implicitDefEqProofs [xR, hi, c, c3, c4, c5, c6, k1, k2, k3, c10, h0, h1, enc]
  · obtain ⟨x, s1, h0, hx0, hk⟩ := pks_ok I.box k ["x", "y", "z"] (by decide)
    simp only [List.map_cons, List.map_nil] at h0
    obtain ⟨e1, l2, s2, h1, g1, p1, z1, I1⟩ := hx sc "any" L l s1 hp2 hs2 (I.keep hk)
    obtain ⟨e2, l3, s3, h2, g2, p2, z2, I2⟩ := hx sc "record" L l2 s2 (by omega) hs2 I1
    refine ⟨.ext x e1 e2, l3, s3, ?_, ⟨sh_of (by decide) x hx0, g1, g2⟩, by omega, by simp only [size]; omega, I2⟩
    simp (decide := true) -implicitDefEqProofs [xR, hi, c, c3, c4, c5, c6, k1, k2, k3, c10, h0, h1, h2, enc]
end K16
set_option Elab.async false
set_option linter.all false
set_option maxHeartbeats 4000000
set_option maxRecDepth 100000
namespace K16
open PySem PySem.Spec PyProof.Rows L2 LamX DL DL.Ex
abbrev prS (q : Str × Str) : D := .tup [.str q.1, .str q.2]
def nms (K : Str) (sc : List (Str × Str)) : List Str := (sc.filter fun q => decide (q.2 = K)).map (·.1)
def als (sc : List (Str × Str)) : List Str := sc.map fun q => q.1
def selN (K : Str) : D → Option D
  | .tup [.str a, .str c] => if c = K then some (.str a) else none
  | _ => none
theorem selN_map (K : Str) : ∀ sc : List (Str × Str), (sc.map prS).filterMap (selN K) = (nms K sc).map D.str
  | [] => rfl
  | (a, c) :: sc => by
    rw [List.map_cons, List.filterMap_cons]
    have ih := selN_map K sc
    by_cases q : c = K
    · simp only [selN, nms, List.filter_cons, decide_eq_true_eq, if_pos q, List.map_cons, ih]
    · simp only [selN, nms, List.filter_cons, decide_eq_true_eq, if_neg q, ih]
theorem nm_ok {τ5 : Option D} {o0 o1 o3 o4 : Option D} {K : Str} {sc : List (Str × Str)} (hl : sc.length ≤ 1000) (st : Sto) :
    lcD (gN 6) (bOf (fOp opEq (fOp opIx (fV 6) (fC (.int 1))) (fV 2))) (fOp opIx (fV 6) (fC (.int 0))) [o0, o1, some (.str K), o3, o4, τ5, none] finLv (sc.map prS) [] st = .ok (.lv ((nms K sc).map D.str)) st := by
  rw [lcD_map (selN K) (fun d hd => ?_) (by rw [sizeLine_eq, List.length_map, List.length_nil]; omega)]
  · rw [selN_map, List.nil_append]; rfl
  · obtain ⟨⟨a, c⟩, _, rfl⟩ := List.mem_map.mp hd
    by_cases q : c = K
    · simp [lcOne, selN, q]
    · simp [lcOne, selN, q]
theorem al_ok {τ5 : Option D} {o0 o1 o2 o3 o4 : Option D} {sc : List (Str × Str)} (hl : sc.length ≤ 1000) (st : Sto) :
    lcD (gN 6) bYes (fOp opIx (fV 6) (fC (.int 0))) [o0, o1, o2, o3, o4, τ5, none] finLv (sc.map prS) [] st = .ok (.lv ((als sc).map D.str)) st := by
  have h := lcD_list (g := gN 6) (t := bYes) (e := fOp opIx (fV 6) (fC (.int 0))) (τ := [o0, o1, o2, o3, o4, τ5, none]) (fin := finLv) (st := st) (ps := sc.map fun q => (prS q, D.str q.1)) (acc := []) (fun p hp => by
    obtain ⟨q, _, rfl⟩ := List.mem_map.mp hp
    simp [lcOne]) (by rw [sizeLine_eq, List.length_map, List.length_nil]; omega)
  simpa [als, List.map_map, Function.comp_def] using h
theorem nms_mem {K : Str} {sc : List (Str × Str)} {x : Str} (h : x ∈ nms K sc) : ∃ q, q ∈ sc ∧ q.1 = x := by
  obtain ⟨q, hq, rfl⟩ := List.mem_map.mp h
  exact ⟨q, (List.mem_filter.mp hq).1, rfl⟩
theorem xn_ok {k b L : Nat} {sc : List (Str × Str)} {K : Str} {l r : Int} {st : Sto} (I : Inv b L l st) (hs : ScOk sc 0) (h0 : 0 ≤ r) :
    (∃ x s1, xN (den (k + 2)) [some (.obj b), some (encSc sc), some (.str K), some (.obj L), some (.int r), none, none] st = .ok (.rt (enc (.name x))) s1 ∧ shortS x ∧ Keep b st s1) ∨
    ∃ o5, xN (den (k + 2)) [some (.obj b), some (encSc sc), some (.str K), some (.obj L), some (.int r), none, none] st = .ok (.nx [some (.obj b), some (encSc sc), some (.str K), some (.obj L), some (.int r), o5, none]) st := by
  have hi := opIx_obj I.lf 0
  have hlen : sc.length ≤ 1000 := by have := hs.len; omega
  by_cases c : 0 < sc.length ∧ (r < 3 ∨ (l < 2 ∧ r < 9))
  · obtain ⟨c1, c2⟩ := c
    have hn := nm_ok (τ5 := none) (o0 := some (.obj b)) (o1 := some (encSc sc)) (o3 := some (.obj L)) (o4 := some (.int r)) (K := K) hlen st
    have inside : xN (den (k + 2)) [some (.obj b), some (encSc sc), some (.str K), some (.obj L), some (.int r), none, none] st = (sSeq (sIf (bAnd (bOf (fOp opGt (fB oLen (aCons (fV 5) aNil)) (fC (.int 0)))) (bOf (fOp opGt (fV 4) (fC (.int 0))))) (sRet (fTup (aCons (fC (.str "name")) (aCons (fCallN 2 (den (k + 2) 17) (aCons (fV 0) (aCons (fV 5) aNil))) aNil)))) sNil)
        (sIf (bOf (fOp opEq (fV 4) (fC (.int 0)))) (sRet (fTup (aCons (fC (.str "name")) (aCons (fCallN 2 (den (k + 2) 17) (aCons (fV 0) (aCons (fOp opAddA (fLcG finLv (iV (fV 1)) (gN 6) [6] bYes (fOp opIx (fV 6) (fC (.int 0)))) (fLv (aCons (fC (.str "free")) aNil))) aNil))) aNil)))) sNil)) [some (.obj b), some (encSc sc), some (.str K), some (.obj L), some (.int r), some (.lv ((nms K sc).map D.str)), none] st := by
      by_cases c3 : r < 3
      · simp -implicitDefEqProofs [xN, encSc, oLen_lv, c1, c3, wipeT]
        simp only [encSc] at hn
        rw [hn]; simp -implicitDefEqProofs [oLen_lv]
      · have c4 : l < 2 ∧ r < 9 := by omega
        simp -implicitDefEqProofs [xN, encSc, oLen_lv, c1, c3, hi, c4.1, c4.2, wipeT]
        simp only [encSc] at hn
        rw [hn]; simp -implicitDefEqProofs [oLen_lv]
    rw [inside]
    by_cases c5 : 0 < (nms K sc).length ∧ 0 < r
    · obtain ⟨x, s1, h, hx, hk⟩ := pks_ok I.box k (nms K sc) c5.1
      obtain ⟨q, hq, hq2⟩ := nms_mem hx
      refine .inl ⟨x, s1, ?_, by rw [← hq2]; exact hs.short q hq, hk⟩
      simp (decide := true) -implicitDefEqProofs [oLen_lv, c5.1, c5.2, h, enc]
    · have nb : bAnd (bOf (fOp opGt (fB oLen (aCons (fV 5) aNil)) (fC (.int 0)))) (bOf (fOp opGt (fV 4) (fC (.int 0)))) [some (.obj b), some (encSc sc), some (.str K), some (.obj L), some (.int r), some (.lv ((nms K sc).map D.str)), none] st = .ok false st := by
        by_cases c6 : 0 < (nms K sc).length
        · have c7 : ¬ 0 < r := fun z => c5 ⟨c6, z⟩
          simp -implicitDefEqProofs [oLen_lv, c6, c7]
        · simp -implicitDefEqProofs [oLen_lv, c6]
      by_cases c8 : r = 0
      · subst c8
        obtain ⟨x, s1, h, hx, hk⟩ := pks_ok I.box k (als sc ++ [("free" : Str)]) (by simp)
        have ha := al_ok (τ5 := some (.lv ((nms K sc).map D.str))) (o0 := some (.obj b)) (o1 := some (encSc sc)) (o2 := some (.str K)) (o3 := some (.obj L)) (o4 := some (.int 0)) hlen st
        have hb : opAddA (.lv ((als sc).map D.str)) (.lv [.str "free"]) st = .ok (.lv ((als sc ++ [("free" : Str)]).map D.str)) st := add_strs (C := [("free" : Str)]) (by rw [sizeLine_eq, als, List.length_map, List.length_singleton]; omega) st
        refine .inl ⟨x, s1, ?_, ?_, hk⟩
        · rw [sSeq_eq, sIf_eq, nb, bind_ok]
          simp only [encSc] at ha ⊢
          simp (decide := true) -implicitDefEqProofs [wipeT, -List.map_map, -List.map_append, ha, hb, h, enc]
        · rw [List.mem_append, List.mem_singleton] at hx
          rcases hx with hx | rfl
          · obtain ⟨q, hq, rfl⟩ := List.mem_map.mp hx
            exact hs.short q hq
          · exact wS
      · refine .inr ⟨some (.lv ((nms K sc).map D.str)), ?_⟩
        rw [sSeq_eq, sIf_eq, nb, bind_ok]
        simp (decide := true) -implicitDefEqProofs [c8]
  · refine .inr ⟨none, ?_⟩
    by_cases c1 : 0 < sc.length
    · have c3 : ¬ r < 3 := fun z => c ⟨c1, .inl z⟩
      by_cases c4 : l < 2
      · have c5 : ¬ r < 9 := fun z => c ⟨c1, .inr ⟨c4, z⟩⟩
        simp -implicitDefEqProofs [xN, encSc, oLen_lv, c1, c3, hi, c4, c5]
      · simp -implicitDefEqProofs [xN, encSc, oLen_lv, c1, c3, hi, c4]
    · simp -implicitDefEqProofs [xN, encSc, oLen_lv, c1]
end K16
set_option Elab.async false
set_option linter.all false
set_option maxHeartbeats 4000000
set_option maxRecDepth 100000
namespace K16
open PySem PySem.Spec PyProof.Rows L2 LamX DL DL.Ex
theorem den_let (k : Nat) (ds : List D) (st : Sto) : den (k + 1) 20 ds st = runB (u__law_let (den k) ini) 7 ds st := rfl
theorem den_fun (k : Nat) (ds : List D) (st : Sto) : den (k + 1) 21 ds st = runB (u__law_function (den k) ini) 6 ds st := rfl
theorem den_x (k : Nat) (ds : List D) (st : Sto) : den (k + 1) 18 ds st = runB (u__law_expression (den k) ini) 7 ds st := rfl
theorem den_mx (k : Nat) (ds : List D) (st : Sto) : den (k + 1) 33 ds st = runB (u__law_mixed (den k) ini) 6 ds st := rfl
theorem atS {xs : List Str} {r : Int} (h0 : 0 ≤ r) (h1 : r < (xs.length : Nat)) : ∃ x, x ∈ xs ∧ atI (xs.map D.str) r = some (.str x) := by
  obtain ⟨i, rfl⟩ := Int.eq_ofNat_of_zero_le h0
  have hi : i < xs.length := by omega
  exact ⟨xs[i], List.getElem_mem hi, by rw [DL.atI_nat, List.getElem?_map, List.getElem?_eq_getElem hi]; rfl⟩
theorem sc_app {sc : List (Str × Str)} {q : Str × Str} (h : sc.length < 10000) (st : Sto) : opAddA (encSc sc) (.lv [.tup [.str q.1, .str q.2]]) st = .ok (encSc (sc ++ [q])) st := by
  unfold encSc
  rw [opAddA_lv (by rw [sizeLine_eq, List.length_map, List.length_singleton]; omega), List.map_append]; rfl
theorem sc_app2 {sc : List (Str × Str)} {q q2 : Str × Str} (h : sc.length < 10000) (st : Sto) : opAddA (encSc sc) (.lv [.tup [.str q.1, .str q.2], .tup [.str q2.1, .str q2.2]]) st = .ok (encSc (sc ++ [q, q2])) st := by
  unfold encSc
  rw [opAddA_lv (by rw [sizeLine_eq, List.length_map, List.length_cons, List.length_singleton]; omega), List.map_append]; rfl
theorem ScOk.app {sc : List (Str × Str)} {p : Nat} {q : Str × Str} (h : ScOk sc (p + 1)) (s : shortS q.1) : ScOk (sc ++ [q]) p := ⟨fun y hy => by
  rw [List.mem_append, List.mem_singleton] at hy
  rcases hy with hy | rfl
  · exact h.short y hy
  · exact s, by have := h.len; rw [List.length_append, List.length_singleton]; omega⟩
theorem ScOk.app2 {sc : List (Str × Str)} {p : Nat} {q q2 : Str × Str} (h : ScOk sc (p + 1)) (s : shortS q.1) (s2 : shortS q2.1) : ScOk (sc ++ [q, q2]) p := ⟨fun y hy => by
  rw [List.mem_append, List.mem_cons, List.mem_singleton] at hy
  rcases hy with hy | rfl | rfl
  · exact h.short y hy
  · exact s
  · exact s2, by have := h.len; rw [List.length_append, List.length_cons, List.length_singleton]; omega⟩
def gf : Str × Str := ("g", "fun")
theorem let_ok {k b p : Nat} (hx : HX (den (k + 1)) b p) : HL (den (k + 2)) b p := by
  intro sc K L l st hp hs I
  have hlen : sc.length < 10000 := by have := hs.len; omega
  obtain ⟨r1, s1, h1, a1, b1, k1⟩ := dr_ok I.box k 3 (by decide)
  obtain ⟨r2, s2, h2, a2, b2, k2⟩ := dr_ok k1.box k 4 (by decide)
  obtain ⟨x, hx1, e1⟩ := atS (xs := ["i", "k", "r"]) a1 (by simpa using b1)
  obtain ⟨y, hy1, e2⟩ := atS (xs := ["number", "fun", "record", "truth"]) a2 (by simpa using b2)
  simp only [List.map_cons, List.map_nil] at e1 e2
  have sx := sh_of (by decide) x hx1
  obtain ⟨d1, l2, s3, h3, g3, p3, z3, I3⟩ := hx sc y L l s2 hp (hs.less (Nat.le_succ p)) (I.keep (k1.trans k2))
  obtain ⟨d2, l3, s4, h4, g4, p4, z4, I4⟩ := hx (sc ++ [(x, y)]) K L l2 s3 (by omega) (hs.app sx) I3
  have ha : ∀ st, opAddA (encSc sc) (.lv [.tup [.str x, .str y]]) st = .ok (encSc (sc ++ [(x, y)])) st := fun st => sc_app (q := (x, y)) hlen st
  refine ⟨.lt x d1 d2, l3, s4, ?_, ⟨sx, g3, g4⟩, by omega, by simp only [size]; omega, I4⟩
  rw [den_let]
  simp (decide := true) -implicitDefEqProofs [runB_eq, u__law_let, List.replicate, h1, h2, e1, e2, h3, ha, h4, enc]
theorem fun_ok {k b p : Nat} (hx : HX (den (k + 1)) b p) : HF (den (k + 2)) b p := by
  intro sc L l st hp hs I
  have hlen : sc.length < 10000 := by have := hs.len; omega
  obtain ⟨r1, s1, h1, a1, b1, k1⟩ := dr_ok I.box k 3 (by decide)
  obtain ⟨r2, s2, h2, a2, b2, k2⟩ := dr_ok k1.box k 4 (by decide)
  obtain ⟨r3, s3, h3, a3, b3, k3⟩ := dr_ok k2.box k 4 (by decide)
  obtain ⟨r4, s4, h4, a4, b4, k4⟩ := dr_ok k3.box k 4 (by decide)
  obtain ⟨x, hx1, e1⟩ := atS (xs := ["f", "n", "r"]) a1 (by simpa using b1)
  obtain ⟨y, hy1, e2⟩ := atS (xs := ["number", "fun", "record", "truth"]) a2 (by simpa using b2)
  obtain ⟨z, hz1, e3⟩ := atS (xs := ["number", "fun", "record", "any"]) a3 (by simpa using b3)
  simp only [List.map_cons, List.map_nil] at e1 e2 e3
  have sx := sh_of (by decide) x hx1
  have I4 : Inv b L l s4 := I.keep (((k1.trans k2).trans k3).trans k4)
  by_cases c : r4 = 0
  · subst c
    obtain ⟨d1, l2, s5, h5, g5, p5, z5, I5⟩ := hx (sc ++ [gf, (x, y)]) z L l s4 hp (hs.app2 (q := gf) wS sx) I4
    have ha : ∀ st, opAddA (encSc sc) (.lv [.tup [.str "g", .str "fun"], .tup [.str x, .str y]]) st = .ok (encSc (sc ++ [gf, (x, y)])) st := fun st => sc_app2 (q := gf) (q2 := (x, y)) hlen st
    refine ⟨.rc "g" x d1, l2, s5, ?_, ⟨wS, sx, g5⟩, by omega, by simp only [size]; omega, I5⟩
    rw [den_fun]
    simp (decide := true) -implicitDefEqProofs [runB_eq, u__law_function, List.replicate, h1, h2, h3, h4, e1, e2, e3, ha, h5, enc]
  · obtain ⟨d1, l2, s5, h5, g5, p5, z5, I5⟩ := hx (sc ++ [(x, y)]) z L l s4 hp (hs.app sx) I4
    have ha : ∀ st, opAddA (encSc sc) (.lv [.tup [.str x, .str y]]) st = .ok (encSc (sc ++ [(x, y)])) st := fun st => sc_app (q := (x, y)) hlen st
    refine ⟨.fn x d1, l2, s5, ?_, ⟨sx, g5⟩, by omega, by simp only [size]; omega, I5⟩
    rw [den_fun]
    simp (decide := true) -implicitDefEqProofs [runB_eq, u__law_function, List.replicate, h1, h2, h3, h4, e1, e2, e3, c, ha, h5, enc]
theorem inv_set {b L : Nat} {l m : Int} {st : Sto} (I : Inv b L l st) : Inv b L m (st.set L (.lst [.int m])) := by
  obtain ⟨g, a, ns, ne, hb, hg⟩ := I.box
  have hl := (List.getElem?_eq_some_iff.mp I.lf).1
  refine ⟨⟨g, a, if g = L then [m] else ns, ne, ?_, ?_⟩, I.ne, List.getElem?_set_self hl⟩
  · rw [List.getElem?_set_ne I.ne]; exact hb
  · by_cases q : g = L
    · subst q; rw [if_pos rfl, List.getElem?_set_self hl]; rfl
    · rw [if_neg q, List.getElem?_set_ne (Ne.symm q)]; exact hg
theorem put_left {b L : Nat} {l : Int} {st : Sto} (I : Inv b L l st) (m : Int) : putItem (.obj L) (.int 0) (.int m) st = .ok () (st.set L (.lst [.int m])) := by
  have := putItem_lst (st := st) (k := L) I.lf (j := 0) (m := 0) (by simp) (.int m)
  simpa using this
/-- from the rest to the whole -/
theorem x_of {k b p : Nat} (hr : ∀ sc K L l r o5 st, pos (l + 1) ≤ p → ScOk sc p → Inv b L l st → RestR b L l (xR (den (k + 2)) [some (.obj b), some (encSc sc), some (.str K), some (.obj L), some (.int r), o5, none] st)) : HX (den (k + 3)) b p := by
  intro sc K L l st hp hs I
  have I1 : Inv b L (l - 1) (st.set L (.lst [.int (l - 1)])) := inv_set I
  have hi := opIx_obj I.lf 0
  have pl := put_left I (l - 1)
  obtain ⟨r, s1, h1, a1, b1, k1⟩ := dr_ok I1.box (k + 1) 16 (by decide)
  have hx : l - 1 + 1 = l := by omega
  -- the kind
  have kind : ∃ K2 s2, Keep b s1 s2 ∧ sIf (bOf (fOp opEq (fV 2) (fC (.str "any")))) (sSet 2 (fOp opIx (fLv (aCons (fC (.str "number")) (aCons (fC (.str "truth")) (aCons (fC (.str "fun")) (aCons (fC (.str "record")) aNil))))) (fCallN 2 (den (k + 2) 16) (aCons (fV 0) (aCons (fC (.int 4)) aNil))))) sNil
      [some (.obj b), some (encSc sc), some (.str K), some (.obj L), some (.int r), none, none] s1 = .ok (.nx [some (.obj b), some (encSc sc), some (.str K2), some (.obj L), some (.int r), none, none]) s2 := by
    by_cases q : K = "any"
    · subst q
      obtain ⟨r2, s2, h2, a2, b2, k2⟩ := dr_ok k1.box (k + 1) 4 (by decide)
      obtain ⟨y, hy1, e2⟩ := atS (xs := ["number", "truth", "fun", "record"]) a2 (by simpa using b2)
      simp only [List.map_cons, List.map_nil] at e2
      refine ⟨y, s2, k2, ?_⟩
      simp (decide := true) -implicitDefEqProofs [h2, e2]
    · refine ⟨K, s1, ⟨k1.box, rfl, fun _ _ => rfl⟩, ?_⟩
      simp (decide := true) -implicitDefEqProofs [q]
  obtain ⟨K2, s2, k2, hk⟩ := kind
  have I2 : Inv b L (l - 1) s2 := I1.keep (k1.trans k2)
  have head : den (k + 3) 18 [.obj b, encSc sc, .str K, .obj L] st = ((xN (den (k + 2)) [some (.obj b), some (encSc sc), some (.str K2), some (.obj L), some (.int r), none, none] s2).bind (kSeq (xR (den (k + 2))))).bind kRun := by
    rw [den_x, runB_eq, u_x_eq]
    simp (decide := true) -implicitDefEqProofs [List.replicate, hi, pl, h1]
    rw [sIf_eq] at hk
    simp (decide := true) -implicitDefEqProofs at hk
    rw [hk]
    simp (decide := true) -implicitDefEqProofs
  rw [head]
  rcases xn_ok (k := k) (K := K2) (r := r) I2 (hs.less (Nat.zero_le p)) a1 with ⟨x, s3, hn, sx, k3⟩ | ⟨o5, hn⟩
  · refine ⟨.name x, l - 1, s3, ?_, sx, by simp only [pos]; omega, by simp only [size]; omega, I2.keep k3⟩
    rw [hn]; simp -implicitDefEqProofs
  · obtain ⟨e, l', s3, hq, g, p3, z3, I3⟩ := hr sc K2 L (l - 1) r o5 s2 (by rw [hx]; exact hp) hs I2
    rw [hx] at p3 z3
    refine ⟨e, l', s3, ?_, g, p3, z3, I3⟩
    rw [hn]
    simp -implicitDefEqProofs [hq]
theorem gen_ok (b : Nat) : ∀ p k : Nat, 2 * p + 6 ≤ k → HX (den k) b p := by
  intro p
  induction p with
  | zero =>
    intro k hk
    obtain ⟨k, rfl⟩ : ∃ j, k = j + 3 := ⟨k - 3, by omega⟩
    refine x_of fun sc K L l r o5 st hp hs I => xr_leaf I ?_
    simp only [pos] at hp; omega
  | succ p ih =>
    intro k hk
    obtain ⟨k, rfl⟩ : ∃ j, k = j + 3 := ⟨k - 3, by omega⟩
    refine x_of fun sc K L l r o5 st hp hs I => ?_
    by_cases c : l < 3
    · exact xr_leaf I c
    · exact xr_in (ih _ (by omega)) (let_ok (ih _ (by omega))) (fun_ok (ih _ (by omega))) I c hp hs
end K16
set_option Elab.async false
set_option linter.all false
set_option maxHeartbeats 4000000
set_option maxRecDepth 100000
namespace K16
open PySem PySem.Spec PyProof.Rows L2 LamX DL DL.Ex
theorem box_app {st : Sto} {b : Nat} (B : Box st b) (m : MO) : Box (st ++ [m]) b := by
  obtain ⟨g, a, ns, ne, hb, hg⟩ := B.ex
  exact ⟨g, a, ns, ne, by rw [List.getElem?_append_left (List.getElem?_eq_some_iff.mp hb).1]; exact hb, by rw [List.getElem?_append_left (List.getElem?_eq_some_iff.mp hg).1]; exact hg⟩
theorem box_lt {st : Sto} {b : Nat} (B : Box st b) : b < st.length := by
  obtain ⟨g, a, ns, ne, hb, hg⟩ := B.ex
  exact (List.getElem?_eq_some_iff.mp hb).1
theorem inv_new {st : Sto} {b : Nat} (B : Box st b) (l : Int) : Inv b st.length l (st ++ [.lst [.int l]]) := ⟨box_app B _, by have := box_lt B; omega, get_last st _⟩
/-- a whole expression drawn, with a new box of what is left -/
theorem top_x {k b : Nat} (hk : 24 ≤ k) {sc : List (Str × Str)} (hs : ScOk sc 9) {st : Sto} (B : Box st b) (l : Int) (hl : l ≤ 12) : ∃ e st', den k 18 [.obj b, encSc sc, .str "any", .obj st.length] (st ++ [.lst [.int l]]) = .ok (enc e) st' ∧ Ex.Good e ∧ size e ≤ 2 + 6 * pos l ∧ Box st' b := by
  have hp : pos l ≤ 9 := by simp only [pos]; omega
  obtain ⟨e, l', st', h, g, p1, z, I⟩ := gen_ok b 9 k (by omega) sc "any" st.length l _ hp hs (inv_new B l)
  exact ⟨e, st', h, g, by omega, I.box⟩
theorem mix_ok {k b : Nat} (hk : 24 ≤ k) {sc : List (Str × Str)} (hs : ScOk sc 9) {st : Sto} (B : Box st b) (n : Int) (hn : n ≤ 6) : ∃ e st', den (k + 1) 33 [.obj b, encSc sc, .int n] st = .ok (enc e) st' ∧ Ex.Good e ∧ size e ≤ 50 ∧ Box st' b := by
  obtain ⟨k, rfl⟩ : ∃ j, k = j + 2 := ⟨k - 2, by omega⟩
  obtain ⟨r, s1, h1, a1, b1, k1⟩ := dr_ok B (k + 1) 6 (by decide)
  obtain ⟨e1, s2, h2, g2, z2, B2⟩ := top_x hk hs k1.box n (by omega)
  obtain ⟨e2, s3, h3, g3, z3, B3⟩ := top_x hk hs B2 n (by omega)
  have hp : pos n ≤ 3 := by simp only [pos]; omega
  rw [den_mx]
  have c : r = 0 ∨ r = 1 ∨ r = 2 ∨ r = 3 ∨ r = 4 ∨ r = 5 := by omega
  rcases c with rfl | rfl | rfl | rfl | rfl | rfl
  · obtain ⟨x, s4, h4, hx, k4⟩ := pks_ok B3 k ["+", "-", "<", "=="] (by decide)
    simp only [List.map_cons, List.map_nil] at h4
    refine ⟨.op x e1 e2, s4, ?_, ⟨sh_of (by decide) x hx, g2, g3⟩, by simp only [size]; omega, k4.box⟩
    simp (decide := true) -implicitDefEqProofs [runB_eq, u__law_mixed, List.replicate, h1, h2, h3, h4, enc]
  · refine ⟨.call e1 e2, s3, ?_, ⟨g2, g3⟩, by simp only [size]; omega, B3⟩
    simp (decide := true) -implicitDefEqProofs [runB_eq, u__law_mixed, List.replicate, h1, h2, h3, enc]
  · obtain ⟨e3, s4, h4, g4, z4, k4⟩ := lf_ok B3 k "number"
    refine ⟨.ite e1 e2 e3, s4, ?_, ⟨g2, g3, g4⟩, by simp only [size]; omega, k4.box⟩
    simp (decide := true) -implicitDefEqProofs [runB_eq, u__law_mixed, List.replicate, h1, h2, h3, h4, enc]
  · obtain ⟨x, s4, h4, hx, k4⟩ := pks_ok B3 k ["x", "y"] (by decide)
    simp only [List.map_cons, List.map_nil] at h4
    refine ⟨.ext x e1 e2, s4, ?_, ⟨sh_of (by decide) x hx, g2, g3⟩, by simp only [size]; omega, k4.box⟩
    simp (decide := true) -implicitDefEqProofs [runB_eq, u__law_mixed, List.replicate, h1, h2, h3, h4, enc]
  · obtain ⟨q, s4, h4, a4, b4, k4⟩ := dr_ok B3 (k + 1) 2 (by decide)
    obtain ⟨x, s5, h5, hx, k5⟩ := pks_ok k4.box k ["x", "y", "z"] (by decide)
    simp only [List.map_cons, List.map_nil] at h5
    have cq : q = 0 ∨ q = 1 := by omega
    rcases cq with rfl | rfl
    · refine ⟨.sel x e1, s5, ?_, ⟨sh_of (by decide) x hx, g2⟩, by simp only [size]; omega, k5.box⟩
      simp (decide := true) -implicitDefEqProofs [runB_eq, u__law_mixed, List.replicate, h1, h2, h3, h4, h5, enc]
    · refine ⟨.drp x e1, s5, ?_, ⟨sh_of (by decide) x hx, g2⟩, by simp only [size]; omega, k5.box⟩
      simp (decide := true) -implicitDefEqProofs [runB_eq, u__law_mixed, List.replicate, h1, h2, h3, h4, h5, enc]
  · refine ⟨.lt "k" e1 (.call (.fn "n" e2) (.name "k")), s3, ?_, ⟨wS, g2, ⟨wS, g3⟩, wS⟩, by simp only [size]; omega, B3⟩
    simp (decide := true) -implicitDefEqProofs [runB_eq, u__law_mixed, List.replicate, h1, h2, h3, enc]
theorem den_same (k : Nat) (ds : List D) (st : Sto) : den (k + 1) 14 ds st = runB (u__law_same (den k) ini) 2 ds st := rfl
theorem same_ok {a c : D} {st : Sto} {x : Str} (k : Nat) (h1 : oRepr [a] st = .ok (.str x) st) (h2 : oRepr [c] st = .ok (.str x) st) : den (k + 1) 14 [a, c] st = .ok (.bl true) st := by
  rw [den_same]
  simp -implicitDefEqProofs [runB_eq, u__law_same, List.replicate, h1, h2, oReprB_of h1, oReprB_of h2]
theorem den_cell (k : Nat) (ds : List D) (st : Sto) : den (k + 1) 13 ds st = runB (u__law_cell (den k) ini) 2 ds st := rfl
theorem cell_ok (ns : List Int) (k i : Nat) (st : Sto) : ∃ c : Int, den (k + 1) 13 [.kl (ns.map D.int), .int (i : Nat)] st = .ok (.int c) st := by
  have hl : ∀ st, oLen [.kl (ns.map D.int)] st = .ok (.int (ns.length : Nat)) st := fun st => by
    have : oLen [.kl (ns.map D.int)] st = .ok (.int ((ns.map D.int).length : Nat)) st := rfl
    rw [this, List.length_map]
  by_cases z : i < ns.length
  · refine ⟨ns[i], ?_⟩
    have hat : atI (ns.map D.int) (i : Int) = some (.int ns[i]) := by rw [DL.atI_nat, List.getElem?_map, List.getElem?_eq_getElem z]; rfl
    rw [den_cell]
    simp -implicitDefEqProofs [runB_eq, u__law_cell, List.replicate, hl, z, hat]
  · refine ⟨0, ?_⟩
    rw [den_cell]
    simp -implicitDefEqProofs [runB_eq, u__law_cell, List.replicate, hl, z]
theorem dig_ok (ns : List Int) (k : Nat) (st : Sto) : ∃ acc : List Int, den (k + 2) 15 [.kl (ns.map D.int), .int 0, .int 50] st = .ok (.obj st.length) (st ++ [.lst (acc.map D.int)]) :=
  digits_ok (FC := den (k + 1) 13) (scr := .kl (ns.map D.int)) (cell_ok ns k) 0 50 (by decide) (by decide) st
end K16
set_option Elab.async false
set_option linter.all false
set_option maxHeartbeats 4000000
set_option maxRecDepth 100000
namespace K16
open PySem PySem.Spec PyProof.Rows L2 LamX DL DL.Ex
/-! ### what is raised -/
@[simp] theorem rai_stuck (r : Str) (τ : Ti) (st : Sto) : sRaise "Stuck" 1 fe_Stuck fl_Stuck (aCons (fC (.str r)) aNil) τ st = .ex "Stuck" [("reason", .str r)] τ st := rfl
@[simp] theorem rai_over (τ : Ti) (st : Sto) : sRaise0 "Overflow" τ st = .ex "Overflow" [] τ st := rfl
/-! ### and, or as values -/
def kAndV (g : FE) (τ : Ti) (d : D) (st : Sto) : DL.R D := match tru st d with
  | some true => g τ st
  | some false => .ok d st
  | none => .bad
def kOrV (g : FE) (τ : Ti) (d : D) (st : Sto) : DL.R D := match tru st d with
  | some true => .ok d st
  | some false => g τ st
  | none => .bad
@[simp] theorem fAnd_eq (f g : FE) (τ : Ti) (st : Sto) : fAnd f g τ st = (f τ st).bind (kAndV g τ) := rfl
@[simp] theorem fOr_eq (f g : FE) (τ : Ti) (st : Sto) : fOr f g τ st = (f τ st).bind (kOrV g τ) := rfl
@[simp] theorem kAndV_t (g : FE) (τ : Ti) (st : Sto) : kAndV g τ (.bl true) st = g τ st := rfl
@[simp] theorem kAndV_f (g : FE) (τ : Ti) (st : Sto) : kAndV g τ (.bl false) st = .ok (.bl false) st := rfl
@[simp] theorem kOrV_t (g : FE) (τ : Ti) (st : Sto) : kOrV g τ (.bl true) st = .ok (.bl true) st := rfl
@[simp] theorem kOrV_f (g : FE) (τ : Ti) (st : Sto) : kOrV g τ (.bl false) st = g τ st := rfl
@[simp] theorem opIn_tup3 (st : Sto) (x a b c : Str) : opIn (.str x) (.tup [.str a, .str b, .str c]) st = .ok (.bl (decide (x = a ∨ x = b ∨ x = c))) st := by
  have := opIn_strs (st := st) (d := .tup [.str a, .str b, .str c]) (xs := [a, b, c]) rfl (by intro z h; cases h) x
  simpa using this
@[simp] theorem opIn_tup5 (st : Sto) (x a b c d e : Str) : opIn (.str x) (.tup [.str a, .str b, .str c, .str d, .str e]) st = .ok (.bl (decide (x = a ∨ x = b ∨ x = c ∨ x = d ∨ x = e))) st := by
  have := opIn_strs (st := st) (d := .tup [.str a, .str b, .str c, .str d, .str e]) (xs := [a, b, c, d, e]) rfl (by intro z h; cases h) x
  simpa using this
@[simp] theorem opIn_ktup2 (st : Sto) (x a b : Str) : opIn (.str x) (.ktup [.str a, .str b]) st = .ok (.bl (decide (x = a ∨ x = b))) st := by
  have := opIn_strs (st := st) (d := .ktup [.str a, .str b]) (xs := [a, b]) rfl (by intro z h; cases h) x
  simpa using this
@[simp] theorem gTupD_4 (h : FGs) (a b c d : D) (τ : Ti) (st : Sto) : gTupD 4 h (.tup [a, b, c, d]) τ st = h [a, b, c, d] τ st := rfl
theorem cut_to (ds : List D) (k : Nat) : DL.cutD ds none (some (k : Int)) = ds.take k := by
  unfold DL.cutD
  rw [HT.sIx_none, HT.sIx_nat, List.drop_zero, Nat.sub_zero]
  by_cases h : k ≤ ds.length
  · rw [Nat.min_eq_left h]
  · rw [Nat.min_eq_right (by omega), List.take_length, List.take_of_length_le (by omega)]
@[simp] theorem cut_t1 (ds : List D) : DL.cutD ds none (some 1) = ds.take 1 := cut_to ds 1
@[simp] theorem cut_t2 (ds : List D) : DL.cutD ds none (some 2) = ds.take 2 := cut_to ds 2
@[simp] theorem cut_t3 (ds : List D) : DL.cutD ds none (some 3) = ds.take 3 := cut_to ds 3
@[simp] theorem cut_f4 (ds : List D) : DL.cutD ds (some 4) none = ds.drop 4 := cutD_from ds 4
@[simp] theorem cat_small {ds es : List D} (h : ds.length + es.length ≤ 100) (st : Sto) : opAddA (.tup ds) (.tup es) st = .ok (.tup (ds ++ es)) st := opAddA_tup (Nat.le_trans h (by rw [sizeLine_eq]; decide)) st
@[simp] theorem opMul_2 (y : Int) (st : Sto) : opMul (.int 2) (.int y) st = .ok (.int (2 * y)) st := opMul_l (by decide) st
/-! ### values -/
def isRowH : Ex → Bool
  | .emp => true
  | .ext _ _ _ => true
  | _ => false
def isVal : Ex → Bool
  | .num _ => true | .tru _ => true | .emp => true | .fn _ _ => true | .rc _ _ _ => true
  | .ext _ a b => isVal a && (isRowH b && isVal b)
  | .name _ => false | .call _ _ => false | .lt _ _ _ => false | .ite _ _ _ => false | .op _ _ _ => false | .sel _ _ => false | .drp _ _ => false
/-- how deep is_value goes -/
def dv : Ex → Nat
  | .ext _ a b => max (dv a + 1) (dv b + 2)
  | .num _ => 1 | .tru _ => 1 | .emp => 1 | .fn _ _ => 1 | .rc _ _ _ => 1
  | .name _ => 1 | .call _ _ => 1 | .lt _ _ _ => 1 | .ite _ _ _ => 1 | .op _ _ _ => 1 | .sel _ _ => 1 | .drp _ _ => 1
theorem den_val (k : Nat) (ds : List D) (st : Sto) : den (k + 1) 2 ds st = runB (u_is_value (den k) ini) 2 ds st := rfl
theorem den_rec (k : Nat) (ds : List D) (st : Sto) : den (k + 1) 3 ds st = runB (u_is_record (den k) ini) 1 ds st := rfl
theorem rec_ok {e : Ex} {k : Nat} {st : Sto} (h : den k 2 [enc e] st = .ok (.bl (isVal e)) st) : den (k + 1) 3 [enc e] st = .ok (.bl (isRowH e && isVal e)) st := by
  rw [den_rec]
  cases e <;>
  · simp only [enc] at h ⊢
    simp (decide := true) -implicitDefEqProofs [runB_eq, u_is_record, List.replicate, h, isRowH]
theorem val_ok : ∀ (e : Ex) (k : Nat) (st : Sto), dv e ≤ k → den k 2 [enc e] st = .ok (.bl (isVal e)) st := by
  intro e
  induction e with
  | ext l a b ia ib =>
    intro k st h
    simp only [dv] at h
    obtain ⟨k, rfl⟩ : ∃ j, k = j + 2 := ⟨k - 2, by omega⟩
    have h1 := ia (k + 1) st (by omega)
    have h2 := rec_ok (ib k st (by omega))
    rw [den_val]
    cases q : isVal a <;>
    · rw [q] at h1
      simp (decide := true) -implicitDefEqProofs [runB_eq, u_is_value, List.replicate, enc, isVal, h1, h2, q]
  | _ =>
    intro k st h
    obtain ⟨k, rfl⟩ : ∃ j, k = j + 1 := ⟨k - 1, by simp only [dv] at h; omega⟩
    rw [den_val]
    simp (decide := true) -implicitDefEqProofs [runB_eq, u_is_value, List.replicate, enc, isVal]
theorem dv_high : ∀ e : Ex, dv e ≤ 2 * high e := by
  intro e
  induction e <;> simp only [dv, high] <;> omega
end K16
set_option Elab.async false
set_option linter.all false
set_option maxHeartbeats 4000000
set_option maxRecDepth 100000
namespace K16
open PySem PySem.Spec PyProof.Rows L2 LamX DL DL.Ex
/-! ### what a step comes to -/
inductive Res where
  | nx (e : Ex) | stuck (r : Str) | over
def encR : Res → D
  | .nx e => .tup [.str "next", enc e]
  | .stuck r => .tup [.str "stuck", .str r]
  | .over => .tup [.str "overflow"]
/-- the program: a value, or an exception -/
def Does (r : DL.R D) (x : Res) (st : Sto) : Prop := match x with
  | .nx e => ∃ t, r = .ok (enc e) (st ++ t)
  | .stuck s => ∃ t τ, r = .ex "Stuck" [("reason", .str s)] τ (st ++ t)
  | .over => ∃ t τ, r = .ex "Overflow" [] τ (st ++ t)
/-- the law: a tuple -/
def Tells (r : DL.R D) (x : Res) (st : Sto) : Prop := ∃ t, r = .ok (encR x) (st ++ t)
def tag : Ex → Str
  | .name _ => "name" | .num _ => "number" | .tru _ => "truth" | .emp => "empty" | .fn _ _ => "fun" | .rc _ _ _ => "rec" | .call _ _ => "call" | .lt _ _ _ => "let" | .ite _ _ _ => "if" | .op _ _ _ => "op"
  | .ext _ _ _ => "extend" | .sel _ _ => "select" | .drp _ _ => "drop"
theorem ix0 (e : Ex) (st : Sto) : opIx (enc e) (.int 0) st = .ok (.str (tag e)) st := by cases e <;> simp [enc, tag]
/-! ### calls -/
def callS : Ex → Ex → Res
  | .fn x b, v => .nx (put x v b)
  | .rc f x b, v => .nx (put x v (if f = x then b else put f (.rc f x b) b))
  | .name _, _ => .stuck "not a function" | .num _, _ => .stuck "not a function" | .tru _, _ => .stuck "not a function" | .emp, _ => .stuck "not a function" | .call _ _, _ => .stuck "not a function"
  | .lt _ _ _, _ => .stuck "not a function" | .ite _ _ _, _ => .stuck "not a function" | .op _ _ _, _ => .stuck "not a function" | .ext _ _ _, _ => .stuck "not a function" | .sel _ _, _ => .stuck "not a function" | .drp _ _, _ => .stuck "not a function"
theorem high_put1 {n : Str} {v : Ex} : ∀ e : Ex, high (put n v e) ≤ high e + high v := by
  intro e
  induction e with
  | name x => simp only [put]; split <;> simp only [high] <;> omega
  | fn x b ib => simp only [put]; split <;> simp only [high] <;> omega
  | rc f x b ib => simp only [put]; split <;> simp only [high] <;> omega
  | lt x a b ia ib => simp only [put]; split <;> simp only [high] <;> omega
  | _ => simp only [put, high]; omega
theorem den_cs (k : Nat) (ds : List D) (st : Sto) : den (k + 1) 6 ds st = runB (u_call_step (den k) ini) 5 ds st := rfl
theorem call_ok {a b : Ex} {k : Nat} (h : 2 * high a ≤ k) (st : Sto) : Does (den (k + 1) 6 [enc (.call a b)] st) (callS a b) st := by
  rw [den_cs]
  cases a with
  | fn x c =>
    have h1 := put_ok x b c k st (by simp only [high] at h; omega)
    refine ⟨[], ?_⟩
    simp (decide := true) -implicitDefEqProofs [runB_eq, u_call_step, List.replicate, enc, h1]
  | rc f x c =>
    simp only [high] at h
    by_cases q : f = x
    · have h1 := put_ok x b c k st (by omega)
      refine ⟨[], ?_⟩
      simp (decide := true) -implicitDefEqProofs [runB_eq, u_call_step, List.replicate, enc, q, h1]
    · have h1 := put_ok f (.rc f x c) c k st (by omega)
      have hp := high_put1 (n := f) (v := .rc f x c) c
      simp only [high] at hp
      have h2 := put_ok x b (put f (.rc f x c) c) k st (by omega)
      simp only [enc] at h1
      refine ⟨[], ?_⟩
      simp (decide := true) -implicitDefEqProofs [runB_eq, u_call_step, List.replicate, enc, q, h1, h2]
  | _ =>
    refine ⟨[], ?_⟩
    simp (decide := true) -implicitDefEqProofs [runB_eq, u_call_step, List.replicate, enc]
/-! ### operations -/
def numOf : Ex → Option Int
  | .num i => some i
  | .name _ => none | .tru _ => none | .emp => none | .fn _ _ => none | .rc _ _ _ => none | .call _ _ => none | .lt _ _ _ => none | .ite _ _ _ => none | .op _ _ _ => none | .ext _ _ _ => none | .sel _ _ => none | .drp _ _ => none
theorem numOf_some {e : Ex} {i : Int} (h : numOf e = some i) : e = .num i := by cases e <;> simp [numOf] at h; rw [h]
theorem numOf_none {e : Ex} (h : numOf e = none) : tag e ≠ "number" := by cases e <;> first | (simp [numOf] at h; done) | (simp only [tag]; decide)
def opV (o : Str) (i j : Int) : Int := if o = "+" then i + j else i - j
def opN (o : Str) (i j : Int) : Res := if o = "<" then .nx (.tru (decide (i < j))) else if o = "==" then .nx (.tru (decide (i = j))) else if opV o i j < 0 ∨ opV o i j > 999999 then .over else .nx (.num (opV o i j))
def opS (o : Str) (a b : Ex) : Res := match numOf a, numOf b with
  | some i, some j => opN o i j
  | _, _ => .stuck "not a number"
theorem den_os (k : Nat) (ds : List D) (st : Sto) : den (k + 1) 7 ds st = runB (u_op_step (den k) ini) 6 ds st := rfl
theorem op_ok {o : Str} {a b : Ex} (k : Nat) (st : Sto) : Does (den (k + 1) 7 [enc (.op o a b)] st) (opS o a b) st := by
  rw [den_os]
  unfold opS
  cases ha : numOf a with
  | none =>
    refine ⟨[], ?_⟩
    simp (decide := true) -implicitDefEqProofs [runB_eq, u_op_step, List.replicate, enc, ix0, numOf_none ha]
  | some i =>
    cases numOf_some ha
    cases hb : numOf b with
    | none =>
      refine ⟨[], ?_⟩
      simp (decide := true) -implicitDefEqProofs [runB_eq, u_op_step, List.replicate, enc, ix0, numOf_none hb]
    | some j =>
      cases numOf_some hb
      show Does _ (opN o i j) st
      unfold opN
      by_cases c1 : o = "<"
      · subst c1
        refine ⟨[], ?_⟩
        simp (decide := true) -implicitDefEqProofs [runB_eq, u_op_step, List.replicate, enc]
      rw [if_neg c1]
      by_cases c2 : o = "=="
      · subst c2
        refine ⟨[], ?_⟩
        simp (decide := true) -implicitDefEqProofs [runB_eq, u_op_step, List.replicate, enc]
      rw [if_neg c2]
      by_cases c3 : o = "+"
      · subst c3
        by_cases c4 : i + j < 0 ∨ i + j > 999999
        · rw [if_pos (by simpa [opV] using c4)]
          refine ⟨[], ?_⟩
          rcases c4 with c4 | c4
          · simp (decide := true) -implicitDefEqProofs [runB_eq, u_op_step, List.replicate, enc, c4]
          · have c5 : ¬ (i + j < 0) := by omega
            simp (decide := true) -implicitDefEqProofs [runB_eq, u_op_step, List.replicate, enc, c4, c5]
        · rw [if_neg (by simpa [opV] using c4)]
          have c5 : ¬ (i + j < 0) := by omega
          have c6 : ¬ (999999 < i + j) := by omega
          refine ⟨[], ?_⟩
          simp (decide := true) -implicitDefEqProofs [runB_eq, u_op_step, List.replicate, enc, c5, c6, opV]
      · by_cases c4 : i - j < 0 ∨ i - j > 999999
        · rw [if_pos (by simpa [opV, c3] using c4)]
          refine ⟨[], ?_⟩
          rcases c4 with c4 | c4
          · simp (decide := true) -implicitDefEqProofs [runB_eq, u_op_step, List.replicate, enc, c1, c2, c3, c4]
          · have c5 : ¬ (i - j < 0) := by omega
            simp (decide := true) -implicitDefEqProofs [runB_eq, u_op_step, List.replicate, enc, c1, c2, c3, c4, c5]
        · rw [if_neg (by simpa [opV, c3] using c4)]
          have c5 : ¬ (i - j < 0) := by omega
          have c6 : ¬ (999999 < i - j) := by omega
          refine ⟨[], ?_⟩
          simp (decide := true) -implicitDefEqProofs [runB_eq, u_op_step, List.replicate, enc, c1, c2, c3, c5, c6, opV]
end K16
set_option Elab.async false
set_option linter.all false
set_option maxHeartbeats 4000000
set_option maxRecDepth 100000
namespace K16
open PySem PySem.Spec PyProof.Rows L2 LamX DL DL.Ex
/-! ### records -/
def ahd (l : Str) : Ex → List (Str × Ex)
  | .ext m a b => if m = l then [] else (m, a) :: ahd l b
  | .name _ => [] | .num _ => [] | .tru _ => [] | .emp => [] | .fn _ _ => [] | .rc _ _ _ => [] | .call _ _ => [] | .lt _ _ _ => [] | .ite _ _ _ => [] | .op _ _ _ => [] | .sel _ _ => [] | .drp _ _ => []
def rst (l : Str) : Ex → Ex
  | .ext m a b => if m = l then .ext m a b else rst l b
  | .name x => .name x | .num i => .num i | .tru b => .tru b | .emp => .emp | .fn x b => .fn x b | .rc f x b => .rc f x b | .call a b => .call a b | .lt x a b => .lt x a b | .ite a b c => .ite a b c | .op o a b => .op o a b
  | .sel x a => .sel x a | .drp x a => .drp x a
def wrap : List (Str × Ex) → Ex → Ex
  | [], c => c
  | p :: r, c => .ext p.1 p.2 (wrap r c)
def wrapR : List (Str × Ex) → Ex → Ex
  | [], c => c
  | p :: r, c => wrapR r (.ext p.1 p.2 c)
theorem wrapR_app : ∀ (xs ys : List (Str × Ex)) (c : Ex), wrapR (xs ++ ys) c = wrapR ys (wrapR xs c)
  | [], _, _ => rfl
  | p :: xs, ys, c => by simp only [List.cons_append, wrapR]; exact wrapR_app xs ys _
theorem wrapR_rev : ∀ (xs : List (Str × Ex)) (c : Ex), wrapR xs.reverse c = wrap xs c
  | [], _ => rfl
  | p :: xs, c => by rw [List.reverse_cons, wrapR_app, wrapR_rev xs c]; rfl
def parts : Ex → Option (Ex × Ex)
  | .ext _ v b => some (v, b)
  | .name _ => none | .num _ => none | .tru _ => none | .emp => none | .fn _ _ => none | .rc _ _ _ => none | .call _ _ => none | .lt _ _ _ => none | .ite _ _ _ => none | .op _ _ _ => none | .sel _ _ => none | .drp _ _ => none
def recS (s : Bool) (l : Str) (a : Ex) : Res := if (isRowH a && isVal a) = true then (match parts (rst l a) with
  | some p => .nx (if s = true then p.1 else wrap (ahd l a) p.2)
  | none => .stuck "no such field") else .stuck "not a record"
abbrev prX (p : Str × Ex) : D := .tup [.str p.1, enc p.2]
theorem ahd_len (l : Str) : ∀ e : Ex, (ahd l e).length ≤ size e := by
  intro e
  induction e with
  | ext m a b ia ib =>
    simp only [ahd, size]
    split
    · simp
    · rw [List.length_cons]; omega
  | _ => simp [ahd]
/-- a value record ends in nothing -/
theorem rst_val {l : Str} : ∀ e : Ex, isRowH e = true → isVal e = true → (parts (rst l e) = none → rst l e = .emp) := by
  intro e
  induction e with
  | ext m a b ia ib =>
    intro h1 h2 h3
    simp only [isVal, Bool.and_eq_true] at h2
    simp only [rst] at h3 ⊢
    split at h3
    · cases h3
    · rename_i q
      rw [if_neg q]
      exact ib h2.2.1 h2.2.2 h3
  | emp => intros; rfl
  | _ => intro h1; cases h1
theorem kRev_obj {st : Sto} {k : Nat} {ds : List D} (h : st[k]? = some (.lst ds)) : kRev (.obj k) st = .ok (.lv ds.reverse) st := by simp only [kRev, DL.listOf, h]
abbrev woT : FB := bAnd (bOf (fOp opEq (fOp opIx (fV 0) (fC (.int 0))) (fC (.str "extend")))) (bOf (fOp opNe (fOp opIx (fV 0) (fC (.int 1))) (fV 1)))
abbrev woU : FS := sSeq (sExp (fMt oAppend (fV 2) (aCons (fTup (aCons (fOp opIx (fV 0) (fC (.int 1))) (aCons (fOp opIx (fV 0) (fC (.int 2))) aNil))) aNil))) (sSet 0 (fOp opIx (fV 0) (fC (.int 3))))
theorem wo_loop {st : Sto} {l : Str} {o3 o4 o5 : Option D} : ∀ (e : Ex) (acc : List (Str × Ex)) (n : Nat), size e ≤ n → acc.length + size e ≤ 1000000 →
    whileD woT woU n [some (enc e), some (.str l), some (.obj st.length), o3, o4, o5] (st ++ [.lst (acc.map prX)]) = .ok (.nx [some (enc (rst l e)), some (.str l), some (.obj st.length), o3, o4, o5]) (st ++ [.lst ((acc ++ ahd l e).map prX)]) := by
  intro e
  induction e with
  | ext m a b ia ib =>
    intro acc n hn hl
    obtain ⟨n, rfl⟩ : ∃ j, n = j + 1 := ⟨n - 1, by simp only [size] at hn; omega⟩
    simp only [size] at hn hl
    rw [whileD_succ]
    by_cases q : m = l
    · simp (decide := true) -implicitDefEqProofs [enc, rst, ahd, q]
    · have ih := ib (acc ++ [(m, a)]) n (by omega) (by rw [List.length_append, List.length_singleton]; omega)
      have hs : sizeLine = 16777216 := sizeLine_eq
      have ha := oAppend_last (st := st) (xs := acc.map prX) (by rw [List.length_map]; omega) (prX (m, a))
      have hk := get_last st (.lst (acc.map prX))
      have e1 : (acc ++ [(m, a)]).map prX = acc.map prX ++ [prX (m, a)] := by simp
      have e2 : acc ++ [(m, a)] ++ ahd l b = acc ++ (m, a) :: ahd l b := by simp
      rw [e1, e2] at ih
      simp (decide := true) -implicitDefEqProofs [enc, rst, ahd, q, ha, kMt1_eq hk, -List.map_append]
      exact ih
  | _ =>
    intro acc n hn hl
    obtain ⟨n, rfl⟩ : ∃ j, n = j + 1 := ⟨n - 1, by simp only [size] at hn; omega⟩
    rw [whileD_succ]
    simp (decide := true) -implicitDefEqProofs [enc, rst, ahd]
theorem wr_loop {st : Sto} {o0 o1 o2 : Option D} : ∀ (xs : List (Str × Ex)) (c : Ex) (o4 o5 : Option D), ∃ p4 p5,
    forD (gTupD 2 (gConsD (gN 4) (gConsD (gN 5) gNilD))) (sSet 3 (fTup (aCons (fC (.str "extend")) (aCons (fV 4) (aCons (fV 5) (aCons (fV 3) aNil)))))) (xs.map prX) [o0, o1, o2, some (enc c), o4, o5] st = .ok (.nx [o0, o1, o2, some (enc (wrapR xs c)), p4, p5]) st
  | [], c, o4, o5 => ⟨o4, o5, by rw [List.map_nil, forD_nil]; rfl⟩
  | p :: xs, c, o4, o5 => by
    obtain ⟨p4, p5, ih⟩ := wr_loop (st := st) (o0 := o0) (o1 := o1) (o2 := o2) xs (.ext p.1 p.2 c) (some (.str p.1)) (some (enc p.2))
    refine ⟨p4, p5, ?_⟩
    rw [List.map_cons, forD_cons]
    simp only [enc] at ih
    simp (decide := true) -implicitDefEqProofs [wrapR]
    exact ih
theorem den_wo (k : Nat) (ds : List D) (st : Sto) : den (k + 1) 8 ds st = runB (u_without (den k) ini) 6 ds st := rfl
/-- the value of the first field with the label, the record without it -/
def Cuts (r : DL.R D) (l : Str) (a : Ex) (st : Sto) : Prop := if (isRowH a && isVal a) = true then (match parts (rst l a) with
  | some p => ∃ t, r = .ok (.tup [enc p.1, enc (wrap (ahd l a) p.2)]) (st ++ t)
  | none => ∃ t τ, r = .ex "Stuck" [("reason", .str "no such field")] τ (st ++ t)) else ∃ t τ, r = .ex "Stuck" [("reason", .str "not a record")] τ (st ++ t)
theorem rst_parts {l : Str} {e : Ex} {p : Ex × Ex} (h : parts (rst l e) = some p) : ∃ m, rst l e = .ext m p.1 p.2 := by
  cases q : rst l e <;> rw [q] at h <;> simp [parts] at h
  rename_i m a b
  exact ⟨m, by rw [← h]⟩
theorem wo_ok {l : Str} {a : Ex} {k : Nat} (h : dv a + 1 ≤ k) (hs : size a ≤ 100000) (st : Sto) : Cuts (den (k + 1) 8 [enc a, .str l] st) l a st := by
  obtain ⟨k, rfl⟩ : ∃ j, k = j + 1 := ⟨k - 1, by omega⟩
  have h1 := rec_ok (val_ok a k st (by omega))
  rw [den_wo]
  unfold Cuts
  by_cases q : (isRowH a && isVal a) = true
  · rw [if_pos q]
    rw [q] at h1
    have hw := wo_loop (st := st) (l := l) (o3 := none) (o4 := none) (o5 := none) a [] forMost (by unfold forMost; omega) (by rw [List.length_nil]; omega)
    simp only [List.map_nil, List.nil_append] at hw
    rw [Bool.and_eq_true] at q
    cases qp : parts (rst l a) with
    | none =>
      have e := rst_val a q.1 q.2 qp
      rw [e] at hw
      simp only [enc] at hw
      refine ⟨[.lst ((ahd l a).map prX)], ?_⟩
      simp (decide := true) -implicitDefEqProofs [runB_eq, u_without, List.replicate, h1, hw]
    | some p =>
      obtain ⟨m, e⟩ := rst_parts qp
      rw [e] at hw
      obtain ⟨p4, p5, hr⟩ := wr_loop (st := st ++ [.lst ((ahd l a).map prX)]) (o0 := some (enc (.ext m p.1 p.2))) (o1 := some (.str l)) (o2 := some (.obj st.length)) (ahd l a).reverse p.2 none none
      rw [wrapR_rev, List.map_reverse] at hr
      have hk := kRev_obj (get_last st (.lst ((ahd l a).map prX)))
      simp only [enc] at hw hr
      refine ⟨[.lst ((ahd l a).map prX)], ?_⟩
      simp (decide := true) -implicitDefEqProofs [runB_eq, u_without, List.replicate, h1, hw, sForV_eq, hk, hr]
  · rw [if_neg q]
    rw [Bool.not_eq_true] at q
    rw [q] at h1
    refine ⟨[], ?_⟩
    simp (decide := true) -implicitDefEqProofs [runB_eq, u_without, List.replicate, h1]
end K16
set_option Elab.async false
set_option linter.all false
set_option maxHeartbeats 4000000
set_option maxRecDepth 100000
namespace K16
open PySem PySem.Spec PyProof.Rows L2 LamX DL DL.Ex
/-! ### the step at the outermost node -/
def BookOk (B : List (Str × Ex)) : Prop := B = [] ∨ (∃ e, B = [(("bb" : Str), e)]) ∨ ∃ e1 e2, B = [(("aa" : Str), e1), (("bb" : Str), e2)]
def bkD (B : List (Str × Ex)) : D := .ktup (B.map prX)
abbrev prK (p : Str × Ex) : Key × D := (Sum.inr p.1, enc p.2)
theorem dic_ok {B : List (Str × Ex)} (hB : BookOk B) (st : Sto) : oDictP [bkD B] st = .ok (.obj st.length) (st ++ [.dic (B.map prK)]) := by
  rcases hB with rfl | ⟨e, rfl⟩ | ⟨e1, e2, rfl⟩
  · rfl
  · rfl
  · simp (decide := true) -implicitDefEqProofs [oDictP, bkD, seqP, DL.pairsOf, DL.pairOf, keyOf, mergeD, putD]
theorem val_bk : ∀ (B : List (Str × Ex)) (x : Str), valD (B.map prK) (.inr x) = (B.lookup x).map enc
  | [], x => rfl
  | (y, e) :: B, x => by
    have ih := val_bk B x
    unfold valD at ih ⊢
    rw [List.map_cons, List.find?_cons, List.lookup_cons]
    by_cases q : y = x
    · subst q
      simp
    · have q2 : (x == y) = false := beq_eq_false_iff_ne.mpr (Ne.symm q)
      simp only [q2, Sum.inr.injEq, q, decide_false]
      exact ih
def ownS (B : List (Str × Ex)) : Ex → Res
  | .name x => match B.lookup x with
    | some e => .nx e
    | none => .stuck "unbound name"
  | .call a b => callS a b
  | .lt x a b => .nx (put x a b)
  | .ite c a b => match c with
    | .tru t => .nx (if t = true then a else b)
    | _ => .stuck "not a truth"
  | .op o a b => opS o a b
  | .ext _ _ _ => .stuck "not a record"
  | .sel l a => recS true l a
  | .drp l a => recS false l a
  | .num _ => .over | .tru _ => .over | .emp => .over | .fn _ _ => .over | .rc _ _ _ => .over
theorem ownS_name (B : List (Str × Ex)) (x : Str) : ownS B (.name x) = match B.lookup x with
    | some e => .nx e
    | none => .stuck "unbound name" := rfl
theorem ownS_call (B : List (Str × Ex)) (a b : Ex) : ownS B (.call a b) = callS a b := rfl
theorem ownS_op (B : List (Str × Ex)) (o : Str) (a b : Ex) : ownS B (.op o a b) = opS o a b := rfl
theorem ownS_sel (B : List (Str × Ex)) (l : Str) (a : Ex) : ownS B (.sel l a) = recS true l a := rfl
theorem ownS_drp (B : List (Str × Ex)) (l : Str) (a : Ex) : ownS B (.drp l a) = recS false l a := rfl
def ctx (f : Ex → Ex) : Res → Res
  | .nx e => .nx (f e)
  | .stuck s => .stuck s
  | .over => .over
def nextS (B : List (Str × Ex)) : Ex → Res
  | .call a b => if isVal a = true then (if isVal b = true then ownS B (.call a b) else ctx (fun y => .call a y) (nextS B b)) else ctx (fun y => .call y b) (nextS B a)
  | .op o a b => if isVal a = true then (if isVal b = true then ownS B (.op o a b) else ctx (fun y => .op o a y) (nextS B b)) else ctx (fun y => .op o y b) (nextS B a)
  | .ext l a b => if isVal a = true then (if isVal b = true then ownS B (.ext l a b) else ctx (fun y => .ext l a y) (nextS B b)) else ctx (fun y => .ext l y b) (nextS B a)
  | .lt x a b => if isVal a = true then ownS B (.lt x a b) else ctx (fun y => .lt x y b) (nextS B a)
  | .ite c a b => if isVal c = true then ownS B (.ite c a b) else ctx (fun y => .ite y a b) (nextS B c)
  | .sel l a => if isVal a = true then ownS B (.sel l a) else ctx (fun y => .sel l y) (nextS B a)
  | .drp l a => if isVal a = true then ownS B (.drp l a) else ctx (fun y => .drp l y) (nextS B a)
  | .name x => ownS B (.name x)
  | .num _ => .over | .tru _ => .over | .emp => .over | .fn _ _ => .over | .rc _ _ _ => .over
theorem nextS_call (B : List (Str × Ex)) (a b : Ex) : nextS B (.call a b) = if isVal a = true then (if isVal b = true then ownS B (.call a b) else ctx (fun y => .call a y) (nextS B b)) else ctx (fun y => .call y b) (nextS B a) := rfl
theorem nextS_op (B : List (Str × Ex)) (o : Str) (a b : Ex) : nextS B (.op o a b) = if isVal a = true then (if isVal b = true then ownS B (.op o a b) else ctx (fun y => .op o a y) (nextS B b)) else ctx (fun y => .op o y b) (nextS B a) := rfl
theorem nextS_ext (B : List (Str × Ex)) (l : Str) (a b : Ex) : nextS B (.ext l a b) = if isVal a = true then (if isVal b = true then ownS B (.ext l a b) else ctx (fun y => .ext l a y) (nextS B b)) else ctx (fun y => .ext l y b) (nextS B a) := rfl
theorem nextS_lt (B : List (Str × Ex)) (x : Str) (a b : Ex) : nextS B (.lt x a b) = if isVal a = true then ownS B (.lt x a b) else ctx (fun y => .lt x y b) (nextS B a) := rfl
theorem nextS_ite (B : List (Str × Ex)) (c a b : Ex) : nextS B (.ite c a b) = if isVal c = true then ownS B (.ite c a b) else ctx (fun y => .ite y a b) (nextS B c) := rfl
theorem nextS_sel (B : List (Str × Ex)) (l : Str) (a : Ex) : nextS B (.sel l a) = if isVal a = true then ownS B (.sel l a) else ctx (fun y => .sel l y) (nextS B a) := rfl
theorem nextS_drp (B : List (Str × Ex)) (l : Str) (a : Ex) : nextS B (.drp l a) = if isVal a = true then ownS B (.drp l a) else ctx (fun y => .drp l y) (nextS B a) := rfl
theorem nextS_name (B : List (Str × Ex)) (x : Str) : nextS B (.name x) = ownS B (.name x) := rfl
def needsD : Ex → List D
  | .call _ _ => [.int 1, .int 2] | .lt _ _ _ => [.int 2] | .sel _ _ => [.int 2] | .drp _ _ => [.int 2] | .ite _ _ _ => [.int 1] | .op _ _ _ => [.int 2, .int 3] | .ext _ _ _ => [.int 2, .int 3]
  | .name _ => [] | .num _ => [] | .tru _ => [] | .emp => [] | .fn _ _ => [] | .rc _ _ _ => []
theorem den_nd (k : Nat) (ds : List D) (st : Sto) : den (k + 1) 5 ds st = runB (u_needed (den k) ini) 2 ds st := rfl
theorem need_ok (e : Ex) (k : Nat) (st : Sto) : den (k + 1) 5 [enc e] st = .ok (.lv (needsD e)) st := by
  rw [den_nd]
  cases e <;> simp (decide := true) -implicitDefEqProofs [runB_eq, u_needed, List.replicate, enc, needsD]
theorem den_ow (k : Nat) (ds : List D) (st : Sto) : den (k + 1) 9 ds st = runB (u_own_step (den k) ini) 6 ds st := rfl
theorem own_name {B : List (Str × Ex)} (hB : BookOk B) (x : Str) (k : Nat) (st : Sto) : Does (den (k + 1) 9 [enc (.name x), bkD B] st) (ownS B (.name x)) st := by
  have hd := dic_ok hB st
  have hg := get_last st (.dic (B.map prK))
  have hl := look_dic hg x
  rw [val_bk] at hl
  have hn := opNotIn_dict' hl
  have hi := opIx_dict (.inl ⟨_, hg⟩) hl
  rw [den_ow, ownS_name]
  cases q : B.lookup x with
  | none =>
    show Does _ (.stuck "unbound name") st
    rw [q] at hn
    simp only [Option.map_none, Option.isSome_none, Bool.not_false] at hn
    refine ⟨[.dic (B.map prK)], ?_⟩
    simp (decide := true) -implicitDefEqProofs [runB_eq, u_own_step, List.replicate, enc, hd, hn]
  | some e =>
    show Does _ (.nx e) st
    rw [q] at hn hi
    simp only [Option.map_some, Option.isSome_some, Bool.not_true] at hn hi
    refine ⟨[.dic (B.map prK)], ?_⟩
    simp (decide := true) -implicitDefEqProofs [runB_eq, u_own_step, List.replicate, enc, hd, hn, hi]
theorem own_call {B : List (Str × Ex)} (a b : Ex) (k : Nat) (h : 2 * high a ≤ k) (st : Sto) : Does (den (k + 2) 9 [enc (.call a b), bkD B] st) (ownS B (.call a b)) st := by
  have hc := call_ok (b := b) h st
  rw [den_ow, ownS_call]
  cases hx : callS a b with
  | nx e' =>
    rw [hx] at hc
    show Does _ (.nx e') st
    obtain ⟨t, hc⟩ := hc
    try simp only [enc] at hc
    refine ⟨t, ?_⟩
    simp (decide := true) -implicitDefEqProofs [runB_eq, u_own_step, List.replicate, enc, hc]
  | stuck s =>
    rw [hx] at hc
    show Does _ (.stuck s) st
    obtain ⟨t, τ, hc⟩ := hc
    try simp only [enc] at hc
    refine ⟨t, ?_⟩
    simp (decide := true) -implicitDefEqProofs [runB_eq, u_own_step, List.replicate, enc, hc]
  | over =>
    rw [hx] at hc
    show Does _ (.over) st
    obtain ⟨t, τ, hc⟩ := hc
    try simp only [enc] at hc
    refine ⟨t, ?_⟩
    simp (decide := true) -implicitDefEqProofs [runB_eq, u_own_step, List.replicate, enc, hc]
theorem own_op {B : List (Str × Ex)} (o : Str) (a b : Ex) (k : Nat) (st : Sto) : Does (den (k + 2) 9 [enc (.op o a b), bkD B] st) (ownS B (.op o a b)) st := by
  have hc := op_ok (o := o) (a := a) (b := b) k st
  rw [den_ow, ownS_op]
  cases hx : opS o a b with
  | nx e' =>
    rw [hx] at hc
    show Does _ (.nx e') st
    obtain ⟨t, hc⟩ := hc
    try simp only [enc] at hc
    refine ⟨t, ?_⟩
    simp (decide := true) -implicitDefEqProofs [runB_eq, u_own_step, List.replicate, enc, hc]
  | stuck s =>
    rw [hx] at hc
    show Does _ (.stuck s) st
    obtain ⟨t, τ, hc⟩ := hc
    try simp only [enc] at hc
    refine ⟨t, ?_⟩
    simp (decide := true) -implicitDefEqProofs [runB_eq, u_own_step, List.replicate, enc, hc]
  | over =>
    rw [hx] at hc
    show Does _ (.over) st
    obtain ⟨t, τ, hc⟩ := hc
    try simp only [enc] at hc
    refine ⟨t, ?_⟩
    simp (decide := true) -implicitDefEqProofs [runB_eq, u_own_step, List.replicate, enc, hc]
theorem own_lt {B : List (Str × Ex)} (x : Str) (a b : Ex) (k : Nat) (h : high b ≤ k) (st : Sto) : Does (den (k + 1) 9 [enc (.lt x a b), bkD B] st) (ownS B (.lt x a b)) st := by
  have h1 := put_ok x a b k st h
  rw [den_ow]
  refine ⟨[], ?_⟩
  simp (decide := true) -implicitDefEqProofs [runB_eq, u_own_step, List.replicate, enc, h1]
theorem own_ext {B : List (Str × Ex)} (x : Str) (a b : Ex) (k : Nat) (st : Sto) : Does (den (k + 1) 9 [enc (.ext x a b), bkD B] st) (ownS B (.ext x a b)) st := by
  rw [den_ow]
  refine ⟨[], ?_⟩
  simp (decide := true) -implicitDefEqProofs [runB_eq, u_own_step, List.replicate, enc]
theorem own_ite {B : List (Str × Ex)} (c a b : Ex) (k : Nat) (st : Sto) : Does (den (k + 1) 9 [enc (.ite c a b), bkD B] st) (ownS B (.ite c a b)) st := by
  rw [den_ow]
  cases c with
  | tru t =>
    refine ⟨[], ?_⟩
    cases t <;> simp (decide := true) -implicitDefEqProofs [runB_eq, u_own_step, List.replicate, enc]
  | _ =>
    refine ⟨[], ?_⟩
    simp (decide := true) -implicitDefEqProofs [runB_eq, u_own_step, List.replicate, enc]
theorem own_sel {B : List (Str × Ex)} (l : Str) (a : Ex) (k : Nat) (h : dv a + 1 ≤ k) (hs : size a ≤ 100000) (st : Sto) : Does (den (k + 2) 9 [enc (.sel l a), bkD B] st) (ownS B (.sel l a)) st := by
  have hc := wo_ok (l := l) h hs st
  rw [den_ow, ownS_sel]
  unfold recS
  unfold Cuts at hc
  by_cases q : (isRowH a && isVal a) = true
  · rw [if_pos q] at hc ⊢
    cases qp : parts (rst l a) with
    | none =>
      rw [qp] at hc
      obtain ⟨t, τ, hc⟩ := hc
      refine ⟨t, ?_⟩
      simp (decide := true) -implicitDefEqProofs [runB_eq, u_own_step, List.replicate, enc, hc]
    | some p =>
      rw [qp] at hc
      obtain ⟨t, hc⟩ := hc
      refine ⟨t, ?_⟩
      simp (decide := true) -implicitDefEqProofs [runB_eq, u_own_step, List.replicate, enc, hc]
  · rw [if_neg q] at hc ⊢
    obtain ⟨t, τ, hc⟩ := hc
    refine ⟨t, ?_⟩
    simp (decide := true) -implicitDefEqProofs [runB_eq, u_own_step, List.replicate, enc, hc]
theorem own_drp {B : List (Str × Ex)} (l : Str) (a : Ex) (k : Nat) (h : dv a + 1 ≤ k) (hs : size a ≤ 100000) (st : Sto) : Does (den (k + 2) 9 [enc (.drp l a), bkD B] st) (ownS B (.drp l a)) st := by
  have hc := wo_ok (l := l) h hs st
  rw [den_ow, ownS_drp]
  unfold recS
  unfold Cuts at hc
  by_cases q : (isRowH a && isVal a) = true
  · rw [if_pos q] at hc ⊢
    cases qp : parts (rst l a) with
    | none =>
      rw [qp] at hc
      obtain ⟨t, τ, hc⟩ := hc
      refine ⟨t, ?_⟩
      simp (decide := true) -implicitDefEqProofs [runB_eq, u_own_step, List.replicate, enc, hc]
    | some p =>
      rw [qp] at hc
      obtain ⟨t, hc⟩ := hc
      refine ⟨t, ?_⟩
      simp (decide := true) -implicitDefEqProofs [runB_eq, u_own_step, List.replicate, enc, hc]
  · rw [if_neg q] at hc ⊢
    obtain ⟨t, τ, hc⟩ := hc
    refine ⟨t, ?_⟩
    simp (decide := true) -implicitDefEqProofs [runB_eq, u_own_step, List.replicate, enc, hc]
/-! ### the next expression -/
theorem den_nx (k : Nat) (ds : List D) (st : Sto) : den (k + 1) 10 ds st = runB (u_next_expression (den k) ini) 4 ds st := rfl
theorem next_ok {B : List (Str × Ex)} (hB : BookOk B) : ∀ (e : Ex) (k : Nat) (st : Sto), 2 * size e + 10 ≤ k → size e ≤ 100000 → isVal e = false → Does (den k 10 [enc e, bkD B] st) (nextS B e) st := by
  intro e
  induction e with
  | call a b ia ib =>
    intro k st hk hs hv
    obtain ⟨k, rfl⟩ : ∃ j, k = j + 3 := ⟨k - 3, by omega⟩
    simp only [size] at hk hs
    have hn := need_ok (.call a b) (k + 1) st
    simp only [enc, needsD] at hn
    have pa := dv_high a
    have ra := high_le a
    have va := val_ok a (k + 2) st (by omega)
    have pb := dv_high b
    have rb := high_le b
    have vb := val_ok b (k + 2) st (by omega)
    rw [den_nx, nextS_call]
    cases qa : isVal a with
    | false =>
      rw [qa] at va
      rw [if_neg (by simp)]
      have hc := ia (k + 2) st (by omega) (by omega) qa
      cases hx : nextS B a with
      | nx e' =>
        rw [hx] at hc
        show Does _ (.nx (.call e' b)) st
        obtain ⟨t, hc⟩ := hc
        try simp only [enc] at hc
        refine ⟨t, ?_⟩
        simp (decide := true) -implicitDefEqProofs [runB_eq, u_next_expression, List.replicate, enc, sForV_eq, hn, forD_cons, forD_nil, needsD, va, hc]
      | stuck s =>
        rw [hx] at hc
        show Does _ (.stuck s) st
        obtain ⟨t, τ, hc⟩ := hc
        try simp only [enc] at hc
        refine ⟨t, ?_⟩
        simp (decide := true) -implicitDefEqProofs [runB_eq, u_next_expression, List.replicate, enc, sForV_eq, hn, forD_cons, forD_nil, needsD, va, hc]
      | over =>
        rw [hx] at hc
        show Does _ (.over) st
        obtain ⟨t, τ, hc⟩ := hc
        try simp only [enc] at hc
        refine ⟨t, ?_⟩
        simp (decide := true) -implicitDefEqProofs [runB_eq, u_next_expression, List.replicate, enc, sForV_eq, hn, forD_cons, forD_nil, needsD, va, hc]
    | true =>
      rw [qa] at va
      rw [if_pos rfl]
      cases qb : isVal b with
      | false =>
        rw [qb] at vb
        rw [if_neg (by simp)]
        have hc := ib (k + 2) st (by omega) (by omega) qb
        cases hx : nextS B b with
        | nx e' =>
          rw [hx] at hc
          show Does _ (.nx (.call a e')) st
          obtain ⟨t, hc⟩ := hc
          try simp only [enc] at hc
          refine ⟨t, ?_⟩
          simp (decide := true) -implicitDefEqProofs [runB_eq, u_next_expression, List.replicate, enc, sForV_eq, hn, forD_cons, forD_nil, needsD, va, vb, hc]
        | stuck s =>
          rw [hx] at hc
          show Does _ (.stuck s) st
          obtain ⟨t, τ, hc⟩ := hc
          try simp only [enc] at hc
          refine ⟨t, ?_⟩
          simp (decide := true) -implicitDefEqProofs [runB_eq, u_next_expression, List.replicate, enc, sForV_eq, hn, forD_cons, forD_nil, needsD, va, vb, hc]
        | over =>
          rw [hx] at hc
          show Does _ (.over) st
          obtain ⟨t, τ, hc⟩ := hc
          try simp only [enc] at hc
          refine ⟨t, ?_⟩
          simp (decide := true) -implicitDefEqProofs [runB_eq, u_next_expression, List.replicate, enc, sForV_eq, hn, forD_cons, forD_nil, needsD, va, vb, hc]
      | true =>
        rw [qb] at vb
        rw [if_pos rfl]
        have hc := own_call (B := B) a b k (by omega) st
        cases hx : ownS B (.call a b) with
        | nx e' =>
          rw [hx] at hc
          show Does _ (.nx e') st
          obtain ⟨t, hc⟩ := hc
          try simp only [enc] at hc
          refine ⟨t, ?_⟩
          simp (decide := true) -implicitDefEqProofs [runB_eq, u_next_expression, List.replicate, enc, sForV_eq, hn, forD_cons, forD_nil, needsD, va, vb, hc]
        | stuck s =>
          rw [hx] at hc
          show Does _ (.stuck s) st
          obtain ⟨t, τ, hc⟩ := hc
          try simp only [enc] at hc
          refine ⟨t, ?_⟩
          simp (decide := true) -implicitDefEqProofs [runB_eq, u_next_expression, List.replicate, enc, sForV_eq, hn, forD_cons, forD_nil, needsD, va, vb, hc]
        | over =>
          rw [hx] at hc
          show Does _ (.over) st
          obtain ⟨t, τ, hc⟩ := hc
          try simp only [enc] at hc
          refine ⟨t, ?_⟩
          simp (decide := true) -implicitDefEqProofs [runB_eq, u_next_expression, List.replicate, enc, sForV_eq, hn, forD_cons, forD_nil, needsD, va, vb, hc]
  | op o a b ia ib =>
    intro k st hk hs hv
    obtain ⟨k, rfl⟩ : ∃ j, k = j + 3 := ⟨k - 3, by omega⟩
    simp only [size] at hk hs
    have hn := need_ok (.op o a b) (k + 1) st
    simp only [enc, needsD] at hn
    have pa := dv_high a
    have ra := high_le a
    have va := val_ok a (k + 2) st (by omega)
    have pb := dv_high b
    have rb := high_le b
    have vb := val_ok b (k + 2) st (by omega)
    rw [den_nx, nextS_op]
    cases qa : isVal a with
    | false =>
      rw [qa] at va
      rw [if_neg (by simp)]
      have hc := ia (k + 2) st (by omega) (by omega) qa
      cases hx : nextS B a with
      | nx e' =>
        rw [hx] at hc
        show Does _ (.nx (.op o e' b)) st
        obtain ⟨t, hc⟩ := hc
        try simp only [enc] at hc
        refine ⟨t, ?_⟩
        simp (decide := true) -implicitDefEqProofs [runB_eq, u_next_expression, List.replicate, enc, sForV_eq, hn, forD_cons, forD_nil, needsD, va, hc]
      | stuck s =>
        rw [hx] at hc
        show Does _ (.stuck s) st
        obtain ⟨t, τ, hc⟩ := hc
        try simp only [enc] at hc
        refine ⟨t, ?_⟩
        simp (decide := true) -implicitDefEqProofs [runB_eq, u_next_expression, List.replicate, enc, sForV_eq, hn, forD_cons, forD_nil, needsD, va, hc]
      | over =>
        rw [hx] at hc
        show Does _ (.over) st
        obtain ⟨t, τ, hc⟩ := hc
        try simp only [enc] at hc
        refine ⟨t, ?_⟩
        simp (decide := true) -implicitDefEqProofs [runB_eq, u_next_expression, List.replicate, enc, sForV_eq, hn, forD_cons, forD_nil, needsD, va, hc]
    | true =>
      rw [qa] at va
      rw [if_pos rfl]
      cases qb : isVal b with
      | false =>
        rw [qb] at vb
        rw [if_neg (by simp)]
        have hc := ib (k + 2) st (by omega) (by omega) qb
        cases hx : nextS B b with
        | nx e' =>
          rw [hx] at hc
          show Does _ (.nx (.op o a e')) st
          obtain ⟨t, hc⟩ := hc
          try simp only [enc] at hc
          refine ⟨t, ?_⟩
          simp (decide := true) -implicitDefEqProofs [runB_eq, u_next_expression, List.replicate, enc, sForV_eq, hn, forD_cons, forD_nil, needsD, va, vb, hc]
        | stuck s =>
          rw [hx] at hc
          show Does _ (.stuck s) st
          obtain ⟨t, τ, hc⟩ := hc
          try simp only [enc] at hc
          refine ⟨t, ?_⟩
          simp (decide := true) -implicitDefEqProofs [runB_eq, u_next_expression, List.replicate, enc, sForV_eq, hn, forD_cons, forD_nil, needsD, va, vb, hc]
        | over =>
          rw [hx] at hc
          show Does _ (.over) st
          obtain ⟨t, τ, hc⟩ := hc
          try simp only [enc] at hc
          refine ⟨t, ?_⟩
          simp (decide := true) -implicitDefEqProofs [runB_eq, u_next_expression, List.replicate, enc, sForV_eq, hn, forD_cons, forD_nil, needsD, va, vb, hc]
      | true =>
        rw [qb] at vb
        rw [if_pos rfl]
        have hc := own_op (B := B) o a b k st
        cases hx : ownS B (.op o a b) with
        | nx e' =>
          rw [hx] at hc
          show Does _ (.nx e') st
          obtain ⟨t, hc⟩ := hc
          try simp only [enc] at hc
          refine ⟨t, ?_⟩
          simp (decide := true) -implicitDefEqProofs [runB_eq, u_next_expression, List.replicate, enc, sForV_eq, hn, forD_cons, forD_nil, needsD, va, vb, hc]
        | stuck s =>
          rw [hx] at hc
          show Does _ (.stuck s) st
          obtain ⟨t, τ, hc⟩ := hc
          try simp only [enc] at hc
          refine ⟨t, ?_⟩
          simp (decide := true) -implicitDefEqProofs [runB_eq, u_next_expression, List.replicate, enc, sForV_eq, hn, forD_cons, forD_nil, needsD, va, vb, hc]
        | over =>
          rw [hx] at hc
          show Does _ (.over) st
          obtain ⟨t, τ, hc⟩ := hc
          try simp only [enc] at hc
          refine ⟨t, ?_⟩
          simp (decide := true) -implicitDefEqProofs [runB_eq, u_next_expression, List.replicate, enc, sForV_eq, hn, forD_cons, forD_nil, needsD, va, vb, hc]
  | ext l a b ia ib =>
    intro k st hk hs hv
    obtain ⟨k, rfl⟩ : ∃ j, k = j + 3 := ⟨k - 3, by omega⟩
    simp only [size] at hk hs
    have hn := need_ok (.ext l a b) (k + 1) st
    simp only [enc, needsD] at hn
    have pa := dv_high a
    have ra := high_le a
    have va := val_ok a (k + 2) st (by omega)
    have pb := dv_high b
    have rb := high_le b
    have vb := val_ok b (k + 2) st (by omega)
    rw [den_nx, nextS_ext]
    cases qa : isVal a with
    | false =>
      rw [qa] at va
      rw [if_neg (by simp)]
      have hc := ia (k + 2) st (by omega) (by omega) qa
      cases hx : nextS B a with
      | nx e' =>
        rw [hx] at hc
        show Does _ (.nx (.ext l e' b)) st
        obtain ⟨t, hc⟩ := hc
        try simp only [enc] at hc
        refine ⟨t, ?_⟩
        simp (decide := true) -implicitDefEqProofs [runB_eq, u_next_expression, List.replicate, enc, sForV_eq, hn, forD_cons, forD_nil, needsD, va, hc]
      | stuck s =>
        rw [hx] at hc
        show Does _ (.stuck s) st
        obtain ⟨t, τ, hc⟩ := hc
        try simp only [enc] at hc
        refine ⟨t, ?_⟩
        simp (decide := true) -implicitDefEqProofs [runB_eq, u_next_expression, List.replicate, enc, sForV_eq, hn, forD_cons, forD_nil, needsD, va, hc]
      | over =>
        rw [hx] at hc
        show Does _ (.over) st
        obtain ⟨t, τ, hc⟩ := hc
        try simp only [enc] at hc
        refine ⟨t, ?_⟩
        simp (decide := true) -implicitDefEqProofs [runB_eq, u_next_expression, List.replicate, enc, sForV_eq, hn, forD_cons, forD_nil, needsD, va, hc]
    | true =>
      rw [qa] at va
      rw [if_pos rfl]
      cases qb : isVal b with
      | false =>
        rw [qb] at vb
        rw [if_neg (by simp)]
        have hc := ib (k + 2) st (by omega) (by omega) qb
        cases hx : nextS B b with
        | nx e' =>
          rw [hx] at hc
          show Does _ (.nx (.ext l a e')) st
          obtain ⟨t, hc⟩ := hc
          try simp only [enc] at hc
          refine ⟨t, ?_⟩
          simp (decide := true) -implicitDefEqProofs [runB_eq, u_next_expression, List.replicate, enc, sForV_eq, hn, forD_cons, forD_nil, needsD, va, vb, hc]
        | stuck s =>
          rw [hx] at hc
          show Does _ (.stuck s) st
          obtain ⟨t, τ, hc⟩ := hc
          try simp only [enc] at hc
          refine ⟨t, ?_⟩
          simp (decide := true) -implicitDefEqProofs [runB_eq, u_next_expression, List.replicate, enc, sForV_eq, hn, forD_cons, forD_nil, needsD, va, vb, hc]
        | over =>
          rw [hx] at hc
          show Does _ (.over) st
          obtain ⟨t, τ, hc⟩ := hc
          try simp only [enc] at hc
          refine ⟨t, ?_⟩
          simp (decide := true) -implicitDefEqProofs [runB_eq, u_next_expression, List.replicate, enc, sForV_eq, hn, forD_cons, forD_nil, needsD, va, vb, hc]
      | true =>
        rw [qb] at vb
        rw [if_pos rfl]
        have hc := own_ext (B := B) l a b (k + 1) st
        cases hx : ownS B (.ext l a b) with
        | nx e' =>
          rw [hx] at hc
          show Does _ (.nx e') st
          obtain ⟨t, hc⟩ := hc
          try simp only [enc] at hc
          refine ⟨t, ?_⟩
          simp (decide := true) -implicitDefEqProofs [runB_eq, u_next_expression, List.replicate, enc, sForV_eq, hn, forD_cons, forD_nil, needsD, va, vb, hc]
        | stuck s =>
          rw [hx] at hc
          show Does _ (.stuck s) st
          obtain ⟨t, τ, hc⟩ := hc
          try simp only [enc] at hc
          refine ⟨t, ?_⟩
          simp (decide := true) -implicitDefEqProofs [runB_eq, u_next_expression, List.replicate, enc, sForV_eq, hn, forD_cons, forD_nil, needsD, va, vb, hc]
        | over =>
          rw [hx] at hc
          show Does _ (.over) st
          obtain ⟨t, τ, hc⟩ := hc
          try simp only [enc] at hc
          refine ⟨t, ?_⟩
          simp (decide := true) -implicitDefEqProofs [runB_eq, u_next_expression, List.replicate, enc, sForV_eq, hn, forD_cons, forD_nil, needsD, va, vb, hc]
  | lt x a b ia ib =>
    intro k st hk hs hv
    obtain ⟨k, rfl⟩ : ∃ j, k = j + 3 := ⟨k - 3, by omega⟩
    simp only [size] at hk hs
    have hn := need_ok (.lt x a b) (k + 1) st
    simp only [enc, needsD] at hn
    have pa := dv_high a
    have ra := high_le a
    have va := val_ok a (k + 2) st (by omega)
    rw [den_nx, nextS_lt]
    cases qa : isVal a with
    | false =>
      rw [qa] at va
      rw [if_neg (by simp)]
      have hc := ia (k + 2) st (by omega) (by omega) qa
      cases hx : nextS B a with
      | nx e' =>
        rw [hx] at hc
        show Does _ (.nx (.lt x e' b)) st
        obtain ⟨t, hc⟩ := hc
        try simp only [enc] at hc
        refine ⟨t, ?_⟩
        simp (decide := true) -implicitDefEqProofs [runB_eq, u_next_expression, List.replicate, enc, sForV_eq, hn, forD_cons, forD_nil, needsD, va, hc]
      | stuck s =>
        rw [hx] at hc
        show Does _ (.stuck s) st
        obtain ⟨t, τ, hc⟩ := hc
        try simp only [enc] at hc
        refine ⟨t, ?_⟩
        simp (decide := true) -implicitDefEqProofs [runB_eq, u_next_expression, List.replicate, enc, sForV_eq, hn, forD_cons, forD_nil, needsD, va, hc]
      | over =>
        rw [hx] at hc
        show Does _ (.over) st
        obtain ⟨t, τ, hc⟩ := hc
        try simp only [enc] at hc
        refine ⟨t, ?_⟩
        simp (decide := true) -implicitDefEqProofs [runB_eq, u_next_expression, List.replicate, enc, sForV_eq, hn, forD_cons, forD_nil, needsD, va, hc]
    | true =>
      rw [qa] at va
      rw [if_pos rfl]
      have hc := own_lt (B := B) x a b (k + 1) (by have := high_le b; omega) st
      cases hx : ownS B (.lt x a b) with
      | nx e' =>
        rw [hx] at hc
        show Does _ (.nx e') st
        obtain ⟨t, hc⟩ := hc
        try simp only [enc] at hc
        refine ⟨t, ?_⟩
        simp (decide := true) -implicitDefEqProofs [runB_eq, u_next_expression, List.replicate, enc, sForV_eq, hn, forD_cons, forD_nil, needsD, va, hc]
      | stuck s =>
        rw [hx] at hc
        show Does _ (.stuck s) st
        obtain ⟨t, τ, hc⟩ := hc
        try simp only [enc] at hc
        refine ⟨t, ?_⟩
        simp (decide := true) -implicitDefEqProofs [runB_eq, u_next_expression, List.replicate, enc, sForV_eq, hn, forD_cons, forD_nil, needsD, va, hc]
      | over =>
        rw [hx] at hc
        show Does _ (.over) st
        obtain ⟨t, τ, hc⟩ := hc
        try simp only [enc] at hc
        refine ⟨t, ?_⟩
        simp (decide := true) -implicitDefEqProofs [runB_eq, u_next_expression, List.replicate, enc, sForV_eq, hn, forD_cons, forD_nil, needsD, va, hc]
  | ite c a b ic ia ib =>
    intro k st hk hs hv
    obtain ⟨k, rfl⟩ : ∃ j, k = j + 3 := ⟨k - 3, by omega⟩
    simp only [size] at hk hs
    have hn := need_ok (.ite c a b) (k + 1) st
    simp only [enc, needsD] at hn
    have pc := dv_high c
    have rc := high_le c
    have vc := val_ok c (k + 2) st (by omega)
    rw [den_nx, nextS_ite]
    cases qc : isVal c with
    | false =>
      rw [qc] at vc
      rw [if_neg (by simp)]
      have hc := ic (k + 2) st (by omega) (by omega) qc
      cases hx : nextS B c with
      | nx e' =>
        rw [hx] at hc
        show Does _ (.nx (.ite e' a b)) st
        obtain ⟨t, hc⟩ := hc
        try simp only [enc] at hc
        refine ⟨t, ?_⟩
        simp (decide := true) -implicitDefEqProofs [runB_eq, u_next_expression, List.replicate, enc, sForV_eq, hn, forD_cons, forD_nil, needsD, vc, hc]
      | stuck s =>
        rw [hx] at hc
        show Does _ (.stuck s) st
        obtain ⟨t, τ, hc⟩ := hc
        try simp only [enc] at hc
        refine ⟨t, ?_⟩
        simp (decide := true) -implicitDefEqProofs [runB_eq, u_next_expression, List.replicate, enc, sForV_eq, hn, forD_cons, forD_nil, needsD, vc, hc]
      | over =>
        rw [hx] at hc
        show Does _ (.over) st
        obtain ⟨t, τ, hc⟩ := hc
        try simp only [enc] at hc
        refine ⟨t, ?_⟩
        simp (decide := true) -implicitDefEqProofs [runB_eq, u_next_expression, List.replicate, enc, sForV_eq, hn, forD_cons, forD_nil, needsD, vc, hc]
    | true =>
      rw [qc] at vc
      rw [if_pos rfl]
      have hc := own_ite (B := B) c a b (k + 1) st
      cases hx : ownS B (.ite c a b) with
      | nx e' =>
        rw [hx] at hc
        show Does _ (.nx e') st
        obtain ⟨t, hc⟩ := hc
        try simp only [enc] at hc
        refine ⟨t, ?_⟩
        simp (decide := true) -implicitDefEqProofs [runB_eq, u_next_expression, List.replicate, enc, sForV_eq, hn, forD_cons, forD_nil, needsD, vc, hc]
      | stuck s =>
        rw [hx] at hc
        show Does _ (.stuck s) st
        obtain ⟨t, τ, hc⟩ := hc
        try simp only [enc] at hc
        refine ⟨t, ?_⟩
        simp (decide := true) -implicitDefEqProofs [runB_eq, u_next_expression, List.replicate, enc, sForV_eq, hn, forD_cons, forD_nil, needsD, vc, hc]
      | over =>
        rw [hx] at hc
        show Does _ (.over) st
        obtain ⟨t, τ, hc⟩ := hc
        try simp only [enc] at hc
        refine ⟨t, ?_⟩
        simp (decide := true) -implicitDefEqProofs [runB_eq, u_next_expression, List.replicate, enc, sForV_eq, hn, forD_cons, forD_nil, needsD, vc, hc]
  | sel l a ia =>
    intro k st hk hs hv
    obtain ⟨k, rfl⟩ : ∃ j, k = j + 3 := ⟨k - 3, by omega⟩
    simp only [size] at hk hs
    have hn := need_ok (.sel l a) (k + 1) st
    simp only [enc, needsD] at hn
    have pa := dv_high a
    have ra := high_le a
    have va := val_ok a (k + 2) st (by omega)
    rw [den_nx, nextS_sel]
    cases qa : isVal a with
    | false =>
      rw [qa] at va
      rw [if_neg (by simp)]
      have hc := ia (k + 2) st (by omega) (by omega) qa
      cases hx : nextS B a with
      | nx e' =>
        rw [hx] at hc
        show Does _ (.nx (.sel l e')) st
        obtain ⟨t, hc⟩ := hc
        try simp only [enc] at hc
        refine ⟨t, ?_⟩
        simp (decide := true) -implicitDefEqProofs [runB_eq, u_next_expression, List.replicate, enc, sForV_eq, hn, forD_cons, forD_nil, needsD, va, hc]
      | stuck s =>
        rw [hx] at hc
        show Does _ (.stuck s) st
        obtain ⟨t, τ, hc⟩ := hc
        try simp only [enc] at hc
        refine ⟨t, ?_⟩
        simp (decide := true) -implicitDefEqProofs [runB_eq, u_next_expression, List.replicate, enc, sForV_eq, hn, forD_cons, forD_nil, needsD, va, hc]
      | over =>
        rw [hx] at hc
        show Does _ (.over) st
        obtain ⟨t, τ, hc⟩ := hc
        try simp only [enc] at hc
        refine ⟨t, ?_⟩
        simp (decide := true) -implicitDefEqProofs [runB_eq, u_next_expression, List.replicate, enc, sForV_eq, hn, forD_cons, forD_nil, needsD, va, hc]
    | true =>
      rw [qa] at va
      rw [if_pos rfl]
      have hc := own_sel (B := B) l a k (by omega) (by omega) st
      cases hx : ownS B (.sel l a) with
      | nx e' =>
        rw [hx] at hc
        show Does _ (.nx e') st
        obtain ⟨t, hc⟩ := hc
        try simp only [enc] at hc
        refine ⟨t, ?_⟩
        simp (decide := true) -implicitDefEqProofs [runB_eq, u_next_expression, List.replicate, enc, sForV_eq, hn, forD_cons, forD_nil, needsD, va, hc]
      | stuck s =>
        rw [hx] at hc
        show Does _ (.stuck s) st
        obtain ⟨t, τ, hc⟩ := hc
        try simp only [enc] at hc
        refine ⟨t, ?_⟩
        simp (decide := true) -implicitDefEqProofs [runB_eq, u_next_expression, List.replicate, enc, sForV_eq, hn, forD_cons, forD_nil, needsD, va, hc]
      | over =>
        rw [hx] at hc
        show Does _ (.over) st
        obtain ⟨t, τ, hc⟩ := hc
        try simp only [enc] at hc
        refine ⟨t, ?_⟩
        simp (decide := true) -implicitDefEqProofs [runB_eq, u_next_expression, List.replicate, enc, sForV_eq, hn, forD_cons, forD_nil, needsD, va, hc]
  | drp l a ia =>
    intro k st hk hs hv
    obtain ⟨k, rfl⟩ : ∃ j, k = j + 3 := ⟨k - 3, by omega⟩
    simp only [size] at hk hs
    have hn := need_ok (.drp l a) (k + 1) st
    simp only [enc, needsD] at hn
    have pa := dv_high a
    have ra := high_le a
    have va := val_ok a (k + 2) st (by omega)
    rw [den_nx, nextS_drp]
    cases qa : isVal a with
    | false =>
      rw [qa] at va
      rw [if_neg (by simp)]
      have hc := ia (k + 2) st (by omega) (by omega) qa
      cases hx : nextS B a with
      | nx e' =>
        rw [hx] at hc
        show Does _ (.nx (.drp l e')) st
        obtain ⟨t, hc⟩ := hc
        try simp only [enc] at hc
        refine ⟨t, ?_⟩
        simp (decide := true) -implicitDefEqProofs [runB_eq, u_next_expression, List.replicate, enc, sForV_eq, hn, forD_cons, forD_nil, needsD, va, hc]
      | stuck s =>
        rw [hx] at hc
        show Does _ (.stuck s) st
        obtain ⟨t, τ, hc⟩ := hc
        try simp only [enc] at hc
        refine ⟨t, ?_⟩
        simp (decide := true) -implicitDefEqProofs [runB_eq, u_next_expression, List.replicate, enc, sForV_eq, hn, forD_cons, forD_nil, needsD, va, hc]
      | over =>
        rw [hx] at hc
        show Does _ (.over) st
        obtain ⟨t, τ, hc⟩ := hc
        try simp only [enc] at hc
        refine ⟨t, ?_⟩
        simp (decide := true) -implicitDefEqProofs [runB_eq, u_next_expression, List.replicate, enc, sForV_eq, hn, forD_cons, forD_nil, needsD, va, hc]
    | true =>
      rw [qa] at va
      rw [if_pos rfl]
      have hc := own_drp (B := B) l a k (by omega) (by omega) st
      cases hx : ownS B (.drp l a) with
      | nx e' =>
        rw [hx] at hc
        show Does _ (.nx e') st
        obtain ⟨t, hc⟩ := hc
        try simp only [enc] at hc
        refine ⟨t, ?_⟩
        simp (decide := true) -implicitDefEqProofs [runB_eq, u_next_expression, List.replicate, enc, sForV_eq, hn, forD_cons, forD_nil, needsD, va, hc]
      | stuck s =>
        rw [hx] at hc
        show Does _ (.stuck s) st
        obtain ⟨t, τ, hc⟩ := hc
        try simp only [enc] at hc
        refine ⟨t, ?_⟩
        simp (decide := true) -implicitDefEqProofs [runB_eq, u_next_expression, List.replicate, enc, sForV_eq, hn, forD_cons, forD_nil, needsD, va, hc]
      | over =>
        rw [hx] at hc
        show Does _ (.over) st
        obtain ⟨t, τ, hc⟩ := hc
        try simp only [enc] at hc
        refine ⟨t, ?_⟩
        simp (decide := true) -implicitDefEqProofs [runB_eq, u_next_expression, List.replicate, enc, sForV_eq, hn, forD_cons, forD_nil, needsD, va, hc]
  | name x =>
    intro k st hk hs hv
    obtain ⟨k, rfl⟩ : ∃ j, k = j + 3 := ⟨k - 3, by omega⟩
    have hn := need_ok (.name x) (k + 1) st
    simp only [enc, needsD] at hn
    rw [den_nx, nextS_name]
    have hc := own_name hB x (k + 1) st
    cases hx : ownS B (.name x) with
    | nx e' =>
      rw [hx] at hc
      show Does _ (.nx e') st
      obtain ⟨t, hc⟩ := hc
      try simp only [enc] at hc
      refine ⟨t, ?_⟩
      simp (decide := true) -implicitDefEqProofs [runB_eq, u_next_expression, List.replicate, enc, sForV_eq, hn, forD_cons, forD_nil, needsD, hc]
    | stuck s =>
      rw [hx] at hc
      show Does _ (.stuck s) st
      obtain ⟨t, τ, hc⟩ := hc
      try simp only [enc] at hc
      refine ⟨t, ?_⟩
      simp (decide := true) -implicitDefEqProofs [runB_eq, u_next_expression, List.replicate, enc, sForV_eq, hn, forD_cons, forD_nil, needsD, hc]
    | over =>
      rw [hx] at hc
      show Does _ (.over) st
      obtain ⟨t, τ, hc⟩ := hc
      try simp only [enc] at hc
      refine ⟨t, ?_⟩
      simp (decide := true) -implicitDefEqProofs [runB_eq, u_next_expression, List.replicate, enc, sForV_eq, hn, forD_cons, forD_nil, needsD, hc]
  | _ => intro k st hk hs hv; cases hv
end K16
set_option Elab.async false
set_option linter.all false
set_option maxHeartbeats 4000000
set_option maxRecDepth 100000
namespace K16
open PySem PySem.Spec PyProof.Rows L2 LamX DL DL.Ex
/-! ### the law's own: values -/
def vtag : Ex → Bool
  | .num _ => true | .tru _ => true | .emp => true | .fn _ _ => true | .rc _ _ _ => true
  | .ext _ _ _ => false | .name _ => false | .call _ _ => false | .lt _ _ _ => false | .ite _ _ _ => false | .op _ _ _ => false | .sel _ _ => false | .drp _ _ => false
abbrev lvT (F : Nat → Fn) : FB := bAnd (bOf (fOp opEq (fOp opIx (fV 0) (fC (.int 0))) (fC (.str "extend")))) (bTru (fCallN 1 (F 23) (aCons (fOp opIx (fV 0) (fC (.int 2))) aNil)))
abbrev lvU : FS := sSeq (sSet 0 (fOp opIx (fV 0) (fC (.int 3)))) (sIf (bAnd (bOf (fOp opNe (fOp opIx (fV 0) (fC (.int 0))) (fC (.str "extend")))) (bOf (fOp opNe (fOp opIx (fV 0) (fC (.int 0))) (fC (.str "empty"))))) (sRet (fC (.bl false))) sNil)
theorem rowH_tag (e : Ex) : isRowH e = true ↔ tag e = "extend" ∨ tag e = "empty" := by cases e <;> simp (decide := true) [isRowH, tag]
theorem lv_loop {F : Nat → Fn} {K : Nat} {st : Sto} (hF : ∀ a, high a ≤ K → size a ≤ 1000000 → F 23 [enc a] st = .ok (.bl (isVal a)) st) : ∀ (e : Ex) (n : Nat), high e ≤ K + 1 → size e ≤ n → size e ≤ 1000000 →
    (whileD (lvT F) lvU n [some (enc e)] st = .ok (.rt (.bl false)) st ∧ isVal e = false) ∨ ∃ e', whileD (lvT F) lvU n [some (enc e)] st = .ok (.nx [some (enc e')]) st ∧ isVal e = vtag e' := by
  intro e
  induction e with
  | ext l a b ia ib =>
    intro n hk hn hz
    obtain ⟨n, rfl⟩ : ∃ j, n = j + 1 := ⟨n - 1, by simp only [size] at hn; omega⟩
    simp only [high] at hk
    simp only [size] at hn hz
    have ha := hF a (by omega) (by omega)
    rw [whileD_succ]
    cases qa : isVal a with
    | false =>
      rw [qa] at ha
      refine .inr ⟨.ext l a b, ?_, by simp [isVal, qa, vtag]⟩
      simp (decide := true) -implicitDefEqProofs [enc, ha]
    | true =>
      rw [qa] at ha
      by_cases h : isRowH b = true
      · have hb := ib n (by omega) (by omega) (by omega)
        have ht := (rowH_tag b).mp h
        have e1 : isVal (.ext l a b) = isVal b := by simp [isVal, qa, h]
        rw [e1]
        have key : (lvT F [some (enc (.ext l a b))] st).bind (kWhile lvU (whileD (lvT F) lvU n) [some (enc (.ext l a b))]) = whileD (lvT F) lvU n [some (enc b)] st := by
          rcases ht with ht | ht
          · simp (decide := true) -implicitDefEqProofs [enc, ha, ix0, ht]
          · simp (decide := true) -implicitDefEqProofs [enc, ha, ix0, ht]
        rw [key]
        exact hb
      · have ht : tag b ≠ "extend" ∧ tag b ≠ "empty" := ⟨fun z => h ((rowH_tag b).mpr (.inl z)), fun z => h ((rowH_tag b).mpr (.inr z))⟩
        rw [Bool.not_eq_true] at h
        refine .inl ⟨?_, by simp [isVal, qa, h]⟩
        simp (decide := true) -implicitDefEqProofs [enc, ha, ix0, ht.1, ht.2]
  | name x =>
    intro n hk hn hz
    obtain ⟨n, rfl⟩ : ∃ j, n = j + 1 := ⟨n - 1, by simp only [size] at hn; omega⟩
    rw [whileD_succ]
    refine .inr ⟨.name x, ?_, rfl⟩
    simp (decide := true) -implicitDefEqProofs [enc]
  | num i =>
    intro n hk hn hz
    obtain ⟨n, rfl⟩ : ∃ j, n = j + 1 := ⟨n - 1, by simp only [size] at hn; omega⟩
    rw [whileD_succ]
    refine .inr ⟨.num i, ?_, rfl⟩
    simp (decide := true) -implicitDefEqProofs [enc]
  | tru t =>
    intro n hk hn hz
    obtain ⟨n, rfl⟩ : ∃ j, n = j + 1 := ⟨n - 1, by simp only [size] at hn; omega⟩
    rw [whileD_succ]
    refine .inr ⟨.tru t, ?_, rfl⟩
    simp (decide := true) -implicitDefEqProofs [enc]
  | emp =>
    intro n hk hn hz
    obtain ⟨n, rfl⟩ : ∃ j, n = j + 1 := ⟨n - 1, by simp only [size] at hn; omega⟩
    rw [whileD_succ]
    refine .inr ⟨.emp, ?_, rfl⟩
    simp (decide := true) -implicitDefEqProofs [enc]
  | fn x b ib =>
    intro n hk hn hz
    obtain ⟨n, rfl⟩ : ∃ j, n = j + 1 := ⟨n - 1, by simp only [size] at hn; omega⟩
    rw [whileD_succ]
    refine .inr ⟨.fn x b, ?_, rfl⟩
    simp (decide := true) -implicitDefEqProofs [enc]
  | rc f x b ib =>
    intro n hk hn hz
    obtain ⟨n, rfl⟩ : ∃ j, n = j + 1 := ⟨n - 1, by simp only [size] at hn; omega⟩
    rw [whileD_succ]
    refine .inr ⟨.rc f x b, ?_, rfl⟩
    simp (decide := true) -implicitDefEqProofs [enc]
  | call a b ia ib =>
    intro n hk hn hz
    obtain ⟨n, rfl⟩ : ∃ j, n = j + 1 := ⟨n - 1, by simp only [size] at hn; omega⟩
    rw [whileD_succ]
    refine .inr ⟨.call a b, ?_, rfl⟩
    simp (decide := true) -implicitDefEqProofs [enc]
  | lt x a b ia ib =>
    intro n hk hn hz
    obtain ⟨n, rfl⟩ : ∃ j, n = j + 1 := ⟨n - 1, by simp only [size] at hn; omega⟩
    rw [whileD_succ]
    refine .inr ⟨.lt x a b, ?_, rfl⟩
    simp (decide := true) -implicitDefEqProofs [enc]
  | ite a b c ia ib ic =>
    intro n hk hn hz
    obtain ⟨n, rfl⟩ : ∃ j, n = j + 1 := ⟨n - 1, by simp only [size] at hn; omega⟩
    rw [whileD_succ]
    refine .inr ⟨.ite a b c, ?_, rfl⟩
    simp (decide := true) -implicitDefEqProofs [enc]
  | op o a b ia ib =>
    intro n hk hn hz
    obtain ⟨n, rfl⟩ : ∃ j, n = j + 1 := ⟨n - 1, by simp only [size] at hn; omega⟩
    rw [whileD_succ]
    refine .inr ⟨.op o a b, ?_, rfl⟩
    simp (decide := true) -implicitDefEqProofs [enc]
  | sel l a ia =>
    intro n hk hn hz
    obtain ⟨n, rfl⟩ : ∃ j, n = j + 1 := ⟨n - 1, by simp only [size] at hn; omega⟩
    rw [whileD_succ]
    refine .inr ⟨.sel l a, ?_, rfl⟩
    simp (decide := true) -implicitDefEqProofs [enc]
  | drp l a ia =>
    intro n hk hn hz
    obtain ⟨n, rfl⟩ : ∃ j, n = j + 1 := ⟨n - 1, by simp only [size] at hn; omega⟩
    rw [whileD_succ]
    refine .inr ⟨.drp l a, ?_, rfl⟩
    simp (decide := true) -implicitDefEqProofs [enc]
theorem den_lv (k : Nat) (ds : List D) (st : Sto) : den (k + 1) 23 ds st = runB (u__law_is_value (den k) ini) 1 ds st := rfl
theorem lval_ok : ∀ (k : Nat) (e : Ex) (st : Sto), high e ≤ k → size e ≤ 1000000 → den k 23 [enc e] st = .ok (.bl (isVal e)) st := by
  intro k
  induction k with
  | zero => intro e st h; have := high_pos e; omega
  | succ k ih =>
    intro e st h hs
    rw [den_lv]
    have hl := lv_loop (F := den k) (K := k) (st := st) (fun a ha hz => ih a st ha hz) e forMost h (by unfold forMost; omega) hs
    rcases hl with ⟨h1, h2⟩ | ⟨e', h1, h2⟩
    · simp (decide := true) -implicitDefEqProofs [runB_eq, u__law_is_value, List.replicate, h1, h2]
    · simp (decide := true) -implicitDefEqProofs [runB_eq, u__law_is_value, List.replicate, h1, h2, ix0]
      cases e' <;> simp (decide := true) [tag, vtag]
/-! ### what is needed -/
theorem den_ln (k : Nat) (ds : List D) (st : Sto) : den (k + 1) 26 ds st = runB (u__law_needs (den k) ini) 2 ds st := rfl
theorem lneed_ok (e : Ex) (k : Nat) (st : Sto) : den (k + 1) 26 [enc e] st = .ok (.lv (needsD e)) st := by
  rw [den_ln]
  cases e <;> simp (decide := true) -implicitDefEqProofs [runB_eq, u__law_needs, List.replicate, enc, needsD]
/-! ### operations -/
theorem den_lo (k : Nat) (ds : List D) (st : Sto) : den (k + 1) 28 ds st = runB (u__law_op_step (den k) ini) 4 ds st := rfl
theorem lop_ok {o : Str} {a b : Ex} (k : Nat) (st : Sto) : Tells (den (k + 1) 28 [enc (.op o a b)] st) (opS o a b) st := by
  rw [den_lo]
  unfold opS
  refine ⟨[], ?_⟩
  cases ha : numOf a with
  | none => simp (decide := true) -implicitDefEqProofs [runB_eq, u__law_op_step, List.replicate, enc, encR, ix0, numOf_none ha]
  | some i =>
    cases numOf_some ha
    cases hb : numOf b with
    | none => simp (decide := true) -implicitDefEqProofs [runB_eq, u__law_op_step, List.replicate, enc, encR, ix0, numOf_none hb]
    | some j =>
      cases numOf_some hb
      show _ = R.ok (encR (opN o i j)) _
      unfold opN
      by_cases c1 : o = "<"
      · subst c1
        simp (decide := true) -implicitDefEqProofs [runB_eq, u__law_op_step, List.replicate, enc, encR]
      rw [if_neg c1]
      by_cases c2 : o = "=="
      · subst c2
        simp (decide := true) -implicitDefEqProofs [runB_eq, u__law_op_step, List.replicate, enc, encR]
      rw [if_neg c2]
      by_cases c3 : o = "+"
      · subst c3
        by_cases c4 : i + j < 0 ∨ i + j > 999999
        · rw [if_pos (by simpa [opV] using c4)]
          rcases c4 with c4 | c4
          · simp (decide := true) -implicitDefEqProofs [runB_eq, u__law_op_step, List.replicate, enc, encR, c4]
          · have c5 : ¬ (i + j < 0) := by omega
            simp (decide := true) -implicitDefEqProofs [runB_eq, u__law_op_step, List.replicate, enc, encR, c4, c5]
        · rw [if_neg (by simpa [opV] using c4)]
          have c5 : ¬ (i + j < 0) := by omega
          have c6 : ¬ (999999 < i + j) := by omega
          simp (decide := true) -implicitDefEqProofs [runB_eq, u__law_op_step, List.replicate, enc, encR, c5, c6, opV]
      · by_cases c4 : i - j < 0 ∨ i - j > 999999
        · rw [if_pos (by simpa [opV, c3] using c4)]
          rcases c4 with c4 | c4
          · simp (decide := true) -implicitDefEqProofs [runB_eq, u__law_op_step, List.replicate, enc, encR, c1, c2, c3, c4]
          · have c5 : ¬ (i - j < 0) := by omega
            simp (decide := true) -implicitDefEqProofs [runB_eq, u__law_op_step, List.replicate, enc, encR, c1, c2, c3, c4, c5]
        · rw [if_neg (by simpa [opV, c3] using c4)]
          have c5 : ¬ (i - j < 0) := by omega
          have c6 : ¬ (999999 < i - j) := by omega
          simp (decide := true) -implicitDefEqProofs [runB_eq, u__law_op_step, List.replicate, enc, encR, c1, c2, c3, c5, c6, opV]
/-! ### records -/
abbrev lrT : FB := bAnd (bOf (fOp opEq (fOp opIx (fV 2) (fC (.int 0))) (fC (.str "extend")))) (bOf (fOp opNe (fOp opIx (fV 2) (fC (.int 1))) (fOp opIx (fV 0) (fC (.int 1)))))
abbrev lrU : FS := sSeq (sExp (fMt oAppend (fV 1) (aCons (fTup (aCons (fOp opIx (fV 2) (fC (.int 1))) (aCons (fOp opIx (fV 2) (fC (.int 2))) aNil))) aNil))) (sSet 2 (fOp opIx (fV 2) (fC (.int 3))))
theorem lr_loop {st : Sto} {l w : Str} {r : D} {o3 o4 o5 : Option D} : ∀ (e : Ex) (acc : List (Str × Ex)) (n : Nat), size e ≤ n → acc.length + size e ≤ 1000000 →
    whileD lrT lrU n [some (.tup [.str w, .str l, r]), some (.obj st.length), some (enc e), o3, o4, o5] (st ++ [.lst (acc.map prX)]) = .ok (.nx [some (.tup [.str w, .str l, r]), some (.obj st.length), some (enc (rst l e)), o3, o4, o5]) (st ++ [.lst ((acc ++ ahd l e).map prX)]) := by
  intro e
  induction e with
  | ext m a b ia ib =>
    intro acc n hn hl
    obtain ⟨n, rfl⟩ : ∃ j, n = j + 1 := ⟨n - 1, by simp only [size] at hn; omega⟩
    simp only [size] at hn hl
    rw [whileD_succ]
    by_cases q : m = l
    · simp (decide := true) -implicitDefEqProofs [enc, rst, ahd, q]
    · have ih := ib (acc ++ [(m, a)]) n (by omega) (by rw [List.length_append, List.length_singleton]; omega)
      have hs : sizeLine = 16777216 := sizeLine_eq
      have ha := oAppend_last (st := st) (xs := acc.map prX) (by rw [List.length_map]; omega) (prX (m, a))
      have hk := get_last st (.lst (acc.map prX))
      have e1 : (acc ++ [(m, a)]).map prX = acc.map prX ++ [prX (m, a)] := by simp
      have e2 : acc ++ [(m, a)] ++ ahd l b = acc ++ (m, a) :: ahd l b := by simp
      rw [e1, e2] at ih
      simp (decide := true) -implicitDefEqProofs [enc, rst, ahd, q, ha, kMt1_eq hk, -List.map_append]
      exact ih
  | _ =>
    intro acc n hn hl
    obtain ⟨n, rfl⟩ : ∃ j, n = j + 1 := ⟨n - 1, by simp only [size] at hn; omega⟩
    rw [whileD_succ]
    simp (decide := true) -implicitDefEqProofs [enc, rst, ahd]
theorem den_lr (k : Nat) (ds : List D) (st : Sto) : den (k + 1) 29 ds st = runB (u__law_record_step (den k) ini) 6 ds st := rfl
theorem lr_sel {l : Str} {a : Ex} (hv : isVal a = true) (hs : size a ≤ 100000) (k : Nat) (st : Sto) : Tells (den (k + 1) 29 [enc (.sel l a)] st) (recS true l a) st := by
  rw [den_lr]
  unfold recS
  by_cases q : isRowH a = true
  · rw [if_pos (by rw [q, hv]; rfl)]
    have hw := lr_loop (st := st) (l := l) (w := "select") (r := enc a) (o3 := none) (o4 := none) (o5 := none) a [] forMost (by unfold forMost; omega) (by rw [List.length_nil]; omega)
    simp only [List.map_nil, List.nil_append] at hw
    have ht := (rowH_tag a).mp q
    have ht2 : ¬ (tag a ≠ "empty" ∧ tag a ≠ "extend") := by rcases ht with ht | ht <;> simp [ht]
    refine ⟨[.lst ((ahd l a).map prX)], ?_⟩
    cases qp : parts (rst l a) with
    | none =>
      have e := rst_val a q hv qp
      rw [e] at hw
      simp only [enc] at hw
      rcases ht with ht | ht <;> simp (decide := true) -implicitDefEqProofs [runB_eq, u__law_record_step, List.replicate, enc, encR, ix0, ht, hw]
    | some p =>
      obtain ⟨m, e⟩ := rst_parts qp
      rw [e] at hw
      obtain ⟨p4, p5, hr⟩ := wr_loop (st := st ++ [.lst ((ahd l a).map prX)]) (o0 := some (enc (.sel l a))) (o1 := some (.obj st.length)) (o2 := some (enc (.ext m p.1 p.2))) (ahd l a).reverse p.2 none none
      rw [wrapR_rev, List.map_reverse] at hr
      have hk := kRev_obj (get_last st (.lst ((ahd l a).map prX)))
      simp only [enc] at hw hr
      rcases ht with ht | ht <;> simp (decide := true) -implicitDefEqProofs [runB_eq, u__law_record_step, List.replicate, enc, encR, ix0, ht, hw, fRev_eq, sForV_eq, hk, hr]
  · rw [if_neg (by simp [q])]
    have ht : tag a ≠ "extend" ∧ tag a ≠ "empty" := ⟨fun z => q ((rowH_tag a).mpr (.inl z)), fun z => q ((rowH_tag a).mpr (.inr z))⟩
    refine ⟨[], ?_⟩
    simp (decide := true) -implicitDefEqProofs [runB_eq, u__law_record_step, List.replicate, enc, encR, ix0, ht.1, ht.2]
theorem lr_drp {l : Str} {a : Ex} (hv : isVal a = true) (hs : size a ≤ 100000) (k : Nat) (st : Sto) : Tells (den (k + 1) 29 [enc (.drp l a)] st) (recS false l a) st := by
  rw [den_lr]
  unfold recS
  by_cases q : isRowH a = true
  · rw [if_pos (by rw [q, hv]; rfl)]
    have hw := lr_loop (st := st) (l := l) (w := "drop") (r := enc a) (o3 := none) (o4 := none) (o5 := none) a [] forMost (by unfold forMost; omega) (by rw [List.length_nil]; omega)
    simp only [List.map_nil, List.nil_append] at hw
    have ht := (rowH_tag a).mp q
    have ht2 : ¬ (tag a ≠ "empty" ∧ tag a ≠ "extend") := by rcases ht with ht | ht <;> simp [ht]
    refine ⟨[.lst ((ahd l a).map prX)], ?_⟩
    cases qp : parts (rst l a) with
    | none =>
      have e := rst_val a q hv qp
      rw [e] at hw
      simp only [enc] at hw
      rcases ht with ht | ht <;> simp (decide := true) -implicitDefEqProofs [runB_eq, u__law_record_step, List.replicate, enc, encR, ix0, ht, hw]
    | some p =>
      obtain ⟨m, e⟩ := rst_parts qp
      rw [e] at hw
      obtain ⟨p4, p5, hr⟩ := wr_loop (st := st ++ [.lst ((ahd l a).map prX)]) (o0 := some (enc (.drp l a))) (o1 := some (.obj st.length)) (o2 := some (enc (.ext m p.1 p.2))) (ahd l a).reverse p.2 none none
      rw [wrapR_rev, List.map_reverse] at hr
      have hk := kRev_obj (get_last st (.lst ((ahd l a).map prX)))
      simp only [enc] at hw hr
      rcases ht with ht | ht <;> simp (decide := true) -implicitDefEqProofs [runB_eq, u__law_record_step, List.replicate, enc, encR, ix0, ht, hw, fRev_eq, sForV_eq, hk, hr]
  · rw [if_neg (by simp [q])]
    have ht : tag a ≠ "extend" ∧ tag a ≠ "empty" := ⟨fun z => q ((rowH_tag a).mpr (.inl z)), fun z => q ((rowH_tag a).mpr (.inr z))⟩
    refine ⟨[], ?_⟩
    simp (decide := true) -implicitDefEqProofs [runB_eq, u__law_record_step, List.replicate, enc, encR, ix0, ht.1, ht.2]
theorem lr_ext (l : Str) (a b : Ex) (k : Nat) (st : Sto) : Tells (den (k + 1) 29 [enc (.ext l a b)] st) (.stuck "not a record") st := by
  rw [den_lr]
  refine ⟨[], ?_⟩
  simp (decide := true) -implicitDefEqProofs [runB_eq, u__law_record_step, List.replicate, enc, encR]
end K16
set_option Elab.async false
set_option linter.all false
set_option maxHeartbeats 4000000
set_option maxRecDepth 100000
namespace K16
open PySem PySem.Spec PyProof.Rows L2 LamX DL DL.Ex
/-! ### names in a book -/
def selB (x : Str) : D → Option D
  | .tup [.str y, d] => if y = x then some d else none
  | _ => none
def hitsB (B : List (Str × Ex)) (x : Str) : List Ex := (B.filter fun p => decide (p.1 = x)).map (·.2)
theorem selB_map (x : Str) : ∀ B : List (Str × Ex), (B.map prX).filterMap (selB x) = (hitsB B x).map enc
  | [] => rfl
  | (y, e) :: B => by
    have ih := selB_map x B
    unfold hitsB at ih ⊢
    rw [List.map_cons, List.filterMap_cons, List.filter_cons]
    by_cases q : y = x
    · simp only [selB, if_pos q, q, decide_true, if_true, List.map_cons]
      rw [ih]
    · simp only [selB, if_neg q, q, decide_false, Bool.false_eq_true, if_false]
      exact ih
theorem hits_bk {B : List (Str × Ex)} (hB : BookOk B) (x : Str) : hitsB B x = (B.lookup x).toList := by
  rcases hB with rfl | ⟨e, rfl⟩ | ⟨e1, e2, rfl⟩
  · rfl
  · by_cases q : x = "bb"
    · subst q; rfl
    · have q2 : (x == ("bb" : Str)) = false := beq_eq_false_iff_ne.mpr q
      simp [hitsB, List.lookup_cons, q2, Ne.symm q]
  · by_cases q : x = "aa"
    · subst q; rfl
    · have q2 : (x == ("aa" : Str)) = false := beq_eq_false_iff_ne.mpr q
      by_cases p : x = "bb"
      · subst p; rfl
      · have p2 : (x == ("bb" : Str)) = false := beq_eq_false_iff_ne.mpr p
        simp [hitsB, List.lookup_cons, q2, p2, Ne.symm q, Ne.symm p]
theorem bk_len {B : List (Str × Ex)} (hB : BookOk B) : B.length ≤ 2 := by
  rcases hB with rfl | ⟨e, rfl⟩ | ⟨e1, e2, rfl⟩ <;> simp
theorem lcb_ok {B : List (Str × Ex)} (hB : BookOk B) (x : Str) {o1 o2 : Option D} (st : Sto) :
    lcD (gN 5) (bOf (fOp opEq (fOp opIx (fV 5) (fC (.int 0))) (fOp opIx (fV 0) (fC (.int 1))))) (fOp opIx (fV 5) (fC (.int 1))) [some (enc (.name x)), o1, o2, none, none, none] finLv (B.map prX) [] st = .ok (.lv ((hitsB B x).map enc)) st := by
  have hl := bk_len hB
  rw [lcD_map (selB x) (fun d hd => ?_) (by rw [sizeLine_eq, List.length_map, List.length_nil]; omega)]
  · rw [selB_map, List.nil_append]; rfl
  · obtain ⟨p, _, rfl⟩ := List.mem_map.mp hd
    by_cases q : p.1 = x
    · simp [lcOne, selB, q, enc]
    · simp [lcOne, selB, q, enc]
theorem eqM0 (st : Sto) : opEqM (.lv []) (.lv []) st = .ok (.bl true) st := by first | rfl | kernel_rfl
theorem eqM1 {e : Ex} (g : Good e) (st : Sto) : opEqM (.lv [enc e]) (.lv []) st = .ok (.bl false) st := by
  have h1 : toPyS st (.lv [enc e]) = some (.list [py e]) := by simp [toPyS, toPy, toPys, toPy_enc]
  have h2 : toPyS st (.lv []) = some (.list []) := rfl
  have c1 : PyData.canLay0 (.list [py e]) = true := by simp only [PyData.canLay0, PyData.canLayAll0, lay_py e g, Bool.and_true]
  have c2 : PyData.canLay0 (.list []) = true := by simp only [PyData.canLay0, PyData.canLayAll0]
  have d2 : PyData.depth (.list []) ≤ 64 := by simp only [PyData.depth, PyData.depthAll]; decide
  have ev : PyData.eqv (.list [py e]) (.list []) = false := by simp [PyData.eqv, PyData.eqvAll]
  unfold opEqM eqM
  rw [h1, h2]
  simp only [c1, c2, d2, and_self, if_true, ev, ofB]
/-! ### the law's step at the outermost node -/
theorem den_lw (k : Nat) (ds : List D) (st : Sto) : den (k + 1) 27 ds st = runB (u__law_own_step (den k) ini) 6 ds st := rfl
theorem lown_name {B : List (Str × Ex)} (hB : BookOk B) (hG : ∀ p ∈ B, Good p.2) (x : Str) (k : Nat) (st : Sto) : Tells (den (k + 1) 27 [enc (.name x), bkD B] st) (ownS B (.name x)) st := by
  have hc := lcb_ok hB x (o1 := some (bkD B)) (o2 := some (.str "name")) st
  rw [hits_bk hB] at hc
  rw [den_lw, ownS_name]
  refine ⟨[], ?_⟩
  cases q : B.lookup x with
  | none =>
    rw [q] at hc
    simp only [Option.toList_none, List.map_nil, enc] at hc
    have h0 := eqM0 st
    simp (decide := true) -implicitDefEqProofs [runB_eq, u__law_own_step, List.replicate, enc, encR, bkD, wipeT]
    simp (decide := true) -implicitDefEqProofs [bkD] at hc
    simp (decide := true) -implicitDefEqProofs [hc, h0]
  | some e =>
    rw [q] at hc
    simp only [Option.toList_some, List.map_cons, List.map_nil, enc] at hc
    have g : Good e := hG (x, e) (by
      rcases hB with rfl | ⟨e0, rfl⟩ | ⟨e1, e2, rfl⟩
      · cases q
      · rw [List.lookup_cons] at q
        split at q
        · rename_i z
          cases q
          rw [beq_iff_eq.mp z]
          exact List.mem_cons_self
        · cases q
      · rw [List.lookup_cons] at q
        split at q
        · rename_i z
          cases q
          rw [beq_iff_eq.mp z]
          exact List.mem_cons_self
        · rw [List.lookup_cons] at q
          split at q
          · rename_i z
            cases q
            rw [beq_iff_eq.mp z]
            exact List.mem_cons_of_mem _ List.mem_cons_self
          · cases q)
    have h1 := eqM1 g st
    simp (decide := true) -implicitDefEqProofs [runB_eq, u__law_own_step, List.replicate, enc, encR, bkD, wipeT]
    simp (decide := true) -implicitDefEqProofs [bkD] at hc
    simp (decide := true) -implicitDefEqProofs [hc, h1]
theorem lown_call {B : List (Str × Ex)} (a b : Ex) (k : Nat) (h : 2 * high a ≤ k) (st : Sto) : Tells (den (k + 1) 27 [enc (.call a b), bkD B] st) (ownS B (.call a b)) st := by
  rw [den_lw, ownS_call]
  refine ⟨[], ?_⟩
  cases a with
  | fn x c =>
    have h1 := sub_ok x b c k st (by simp only [high] at h; omega)
    simp (decide := true) -implicitDefEqProofs [runB_eq, u__law_own_step, List.replicate, enc, encR, callS, h1]
  | rc f x c =>
    simp only [high] at h
    by_cases q : f = x
    · have h1 := sub_ok x b c k st (by omega)
      simp (decide := true) -implicitDefEqProofs [runB_eq, u__law_own_step, List.replicate, enc, encR, callS, q, h1]
    · have h1 := sub_ok f (.rc f x c) c k st (by omega)
      have hp := high_put1 (n := f) (v := .rc f x c) c
      simp only [high] at hp
      have h2 := sub_ok x b (put f (.rc f x c) c) k st (by omega)
      simp only [enc] at h1
      simp (decide := true) -implicitDefEqProofs [runB_eq, u__law_own_step, List.replicate, enc, encR, callS, q, h1, h2]
  | _ => simp (decide := true) -implicitDefEqProofs [runB_eq, u__law_own_step, List.replicate, enc, encR, callS]
theorem lown_op {B : List (Str × Ex)} (o : Str) (a b : Ex) (k : Nat) (st : Sto) : Tells (den (k + 2) 27 [enc (.op o a b), bkD B] st) (ownS B (.op o a b)) st := by
  obtain ⟨t, hc⟩ := lop_ok (o := o) (a := a) (b := b) k st
  rw [den_lw, ownS_op]
  simp only [enc] at hc
  refine ⟨t, ?_⟩
  simp (decide := true) -implicitDefEqProofs [runB_eq, u__law_own_step, List.replicate, enc, hc]
theorem lown_lt {B : List (Str × Ex)} (x : Str) (a b : Ex) (k : Nat) (h : high b ≤ k) (st : Sto) : Tells (den (k + 1) 27 [enc (.lt x a b), bkD B] st) (ownS B (.lt x a b)) st := by
  have h1 := sub_ok x a b k st h
  rw [den_lw]
  refine ⟨[], ?_⟩
  simp (decide := true) -implicitDefEqProofs [runB_eq, u__law_own_step, List.replicate, enc, h1, ownS, encR]
theorem lown_ext {B : List (Str × Ex)} (x : Str) (a b : Ex) (k : Nat) (st : Sto) : Tells (den (k + 2) 27 [enc (.ext x a b), bkD B] st) (ownS B (.ext x a b)) st := by
  obtain ⟨t, hc⟩ := lr_ext x a b k st
  rw [den_lw]
  simp only [enc] at hc
  refine ⟨t, ?_⟩
  simp (decide := true) -implicitDefEqProofs [runB_eq, u__law_own_step, List.replicate, enc, hc, ownS]
theorem lown_ite {B : List (Str × Ex)} (c a b : Ex) (k : Nat) (st : Sto) : Tells (den (k + 1) 27 [enc (.ite c a b), bkD B] st) (ownS B (.ite c a b)) st := by
  rw [den_lw]
  refine ⟨[], ?_⟩
  cases c with
  | tru t => cases t <;> simp (decide := true) -implicitDefEqProofs [runB_eq, u__law_own_step, List.replicate, enc, ownS, encR]
  | _ => simp (decide := true) -implicitDefEqProofs [runB_eq, u__law_own_step, List.replicate, enc, ownS, encR]
theorem lown_sel {B : List (Str × Ex)} (l : Str) {a : Ex} (hv : isVal a = true) (hs : size a ≤ 100000) (k : Nat) (st : Sto) : Tells (den (k + 2) 27 [enc (.sel l a), bkD B] st) (ownS B (.sel l a)) st := by
  obtain ⟨t, hc⟩ := lr_sel (l := l) hv hs k st
  rw [den_lw, ownS_sel]
  simp only [enc] at hc
  refine ⟨t, ?_⟩
  simp (decide := true) -implicitDefEqProofs [runB_eq, u__law_own_step, List.replicate, enc, hc]
theorem lown_drp {B : List (Str × Ex)} (l : Str) {a : Ex} (hv : isVal a = true) (hs : size a ≤ 100000) (k : Nat) (st : Sto) : Tells (den (k + 2) 27 [enc (.drp l a), bkD B] st) (ownS B (.drp l a)) st := by
  obtain ⟨t, hc⟩ := lr_drp (l := l) hv hs k st
  rw [den_lw, ownS_drp]
  simp only [enc] at hc
  refine ⟨t, ?_⟩
  simp (decide := true) -implicitDefEqProofs [runB_eq, u__law_own_step, List.replicate, enc, hc]
/-! ### the law's step within -/
theorem den_li (k : Nat) (ds : List D) (st : Sto) : den (k + 1) 30 ds st = runB (u__law_step_in (den k) ini) 4 ds st := rfl
theorem in_ok {B : List (Str × Ex)} (hB : BookOk B) (hG : ∀ p ∈ B, Good p.2) : ∀ (e : Ex) (k : Nat) (st : Sto), 2 * size e + 10 ≤ k → size e ≤ 100000 → isVal e = false → Tells (den k 30 [enc e, bkD B] st) (nextS B e) st := by
  intro e
  induction e with
  | call a b ia ib =>
    intro k st hk hs hv
    obtain ⟨k, rfl⟩ : ∃ j, k = j + 3 := ⟨k - 3, by omega⟩
    simp only [size] at hk hs
    have hn := lneed_ok (.call a b) (k + 1) st
    simp only [enc, needsD] at hn
    have ra := high_le a
    have va := lval_ok (k + 2) a st (by omega) (by omega)
    have rb := high_le b
    have vb := lval_ok (k + 2) b st (by omega) (by omega)
    rw [den_li, nextS_call]
    cases qa : isVal a with
    | false =>
      rw [qa] at va
      rw [if_neg (by simp)]
      have hc := ia (k + 2) st (by omega) (by omega) qa
      cases hx : nextS B a with
      | nx e' =>
        rw [hx] at hc
        show Tells _ (.nx (.call e' b)) st
        obtain ⟨t, hc⟩ := hc
        try simp only [enc, encR] at hc
        refine ⟨t, ?_⟩
        simp (decide := true) -implicitDefEqProofs [runB_eq, u__law_step_in, List.replicate, enc, sForV_eq, hn, forD_cons, forD_nil, needsD, encR, va, hc]
      | stuck s =>
        rw [hx] at hc
        show Tells _ (.stuck s) st
        obtain ⟨t, hc⟩ := hc
        try simp only [enc, encR] at hc
        refine ⟨t, ?_⟩
        simp (decide := true) -implicitDefEqProofs [runB_eq, u__law_step_in, List.replicate, enc, sForV_eq, hn, forD_cons, forD_nil, needsD, encR, va, hc]
      | over =>
        rw [hx] at hc
        show Tells _ (.over) st
        obtain ⟨t, hc⟩ := hc
        try simp only [enc, encR] at hc
        refine ⟨t, ?_⟩
        simp (decide := true) -implicitDefEqProofs [runB_eq, u__law_step_in, List.replicate, enc, sForV_eq, hn, forD_cons, forD_nil, needsD, encR, va, hc]
    | true =>
      rw [qa] at va
      rw [if_pos rfl]
      cases qb : isVal b with
      | false =>
        rw [qb] at vb
        rw [if_neg (by simp)]
        have hc := ib (k + 2) st (by omega) (by omega) qb
        cases hx : nextS B b with
        | nx e' =>
          rw [hx] at hc
          show Tells _ (.nx (.call a e')) st
          obtain ⟨t, hc⟩ := hc
          try simp only [enc, encR] at hc
          refine ⟨t, ?_⟩
          simp (decide := true) -implicitDefEqProofs [runB_eq, u__law_step_in, List.replicate, enc, sForV_eq, hn, forD_cons, forD_nil, needsD, encR, va, vb, hc]
        | stuck s =>
          rw [hx] at hc
          show Tells _ (.stuck s) st
          obtain ⟨t, hc⟩ := hc
          try simp only [enc, encR] at hc
          refine ⟨t, ?_⟩
          simp (decide := true) -implicitDefEqProofs [runB_eq, u__law_step_in, List.replicate, enc, sForV_eq, hn, forD_cons, forD_nil, needsD, encR, va, vb, hc]
        | over =>
          rw [hx] at hc
          show Tells _ (.over) st
          obtain ⟨t, hc⟩ := hc
          try simp only [enc, encR] at hc
          refine ⟨t, ?_⟩
          simp (decide := true) -implicitDefEqProofs [runB_eq, u__law_step_in, List.replicate, enc, sForV_eq, hn, forD_cons, forD_nil, needsD, encR, va, vb, hc]
      | true =>
        rw [qb] at vb
        rw [if_pos rfl]
        have hc := lown_call (B := B) a b (k + 1) (by omega) st
        cases hx : ownS B (.call a b) with
        | nx e' =>
          rw [hx] at hc
          show Tells _ (.nx e') st
          obtain ⟨t, hc⟩ := hc
          try simp only [enc, encR] at hc
          refine ⟨t, ?_⟩
          simp (decide := true) -implicitDefEqProofs [runB_eq, u__law_step_in, List.replicate, enc, sForV_eq, hn, forD_cons, forD_nil, needsD, encR, va, vb, hc]
        | stuck s =>
          rw [hx] at hc
          show Tells _ (.stuck s) st
          obtain ⟨t, hc⟩ := hc
          try simp only [enc, encR] at hc
          refine ⟨t, ?_⟩
          simp (decide := true) -implicitDefEqProofs [runB_eq, u__law_step_in, List.replicate, enc, sForV_eq, hn, forD_cons, forD_nil, needsD, encR, va, vb, hc]
        | over =>
          rw [hx] at hc
          show Tells _ (.over) st
          obtain ⟨t, hc⟩ := hc
          try simp only [enc, encR] at hc
          refine ⟨t, ?_⟩
          simp (decide := true) -implicitDefEqProofs [runB_eq, u__law_step_in, List.replicate, enc, sForV_eq, hn, forD_cons, forD_nil, needsD, encR, va, vb, hc]
  | op o a b ia ib =>
    intro k st hk hs hv
    obtain ⟨k, rfl⟩ : ∃ j, k = j + 3 := ⟨k - 3, by omega⟩
    simp only [size] at hk hs
    have hn := lneed_ok (.op o a b) (k + 1) st
    simp only [enc, needsD] at hn
    have ra := high_le a
    have va := lval_ok (k + 2) a st (by omega) (by omega)
    have rb := high_le b
    have vb := lval_ok (k + 2) b st (by omega) (by omega)
    rw [den_li, nextS_op]
    cases qa : isVal a with
    | false =>
      rw [qa] at va
      rw [if_neg (by simp)]
      have hc := ia (k + 2) st (by omega) (by omega) qa
      cases hx : nextS B a with
      | nx e' =>
        rw [hx] at hc
        show Tells _ (.nx (.op o e' b)) st
        obtain ⟨t, hc⟩ := hc
        try simp only [enc, encR] at hc
        refine ⟨t, ?_⟩
        simp (decide := true) -implicitDefEqProofs [runB_eq, u__law_step_in, List.replicate, enc, sForV_eq, hn, forD_cons, forD_nil, needsD, encR, va, hc]
      | stuck s =>
        rw [hx] at hc
        show Tells _ (.stuck s) st
        obtain ⟨t, hc⟩ := hc
        try simp only [enc, encR] at hc
        refine ⟨t, ?_⟩
        simp (decide := true) -implicitDefEqProofs [runB_eq, u__law_step_in, List.replicate, enc, sForV_eq, hn, forD_cons, forD_nil, needsD, encR, va, hc]
      | over =>
        rw [hx] at hc
        show Tells _ (.over) st
        obtain ⟨t, hc⟩ := hc
        try simp only [enc, encR] at hc
        refine ⟨t, ?_⟩
        simp (decide := true) -implicitDefEqProofs [runB_eq, u__law_step_in, List.replicate, enc, sForV_eq, hn, forD_cons, forD_nil, needsD, encR, va, hc]
    | true =>
      rw [qa] at va
      rw [if_pos rfl]
      cases qb : isVal b with
      | false =>
        rw [qb] at vb
        rw [if_neg (by simp)]
        have hc := ib (k + 2) st (by omega) (by omega) qb
        cases hx : nextS B b with
        | nx e' =>
          rw [hx] at hc
          show Tells _ (.nx (.op o a e')) st
          obtain ⟨t, hc⟩ := hc
          try simp only [enc, encR] at hc
          refine ⟨t, ?_⟩
          simp (decide := true) -implicitDefEqProofs [runB_eq, u__law_step_in, List.replicate, enc, sForV_eq, hn, forD_cons, forD_nil, needsD, encR, va, vb, hc]
        | stuck s =>
          rw [hx] at hc
          show Tells _ (.stuck s) st
          obtain ⟨t, hc⟩ := hc
          try simp only [enc, encR] at hc
          refine ⟨t, ?_⟩
          simp (decide := true) -implicitDefEqProofs [runB_eq, u__law_step_in, List.replicate, enc, sForV_eq, hn, forD_cons, forD_nil, needsD, encR, va, vb, hc]
        | over =>
          rw [hx] at hc
          show Tells _ (.over) st
          obtain ⟨t, hc⟩ := hc
          try simp only [enc, encR] at hc
          refine ⟨t, ?_⟩
          simp (decide := true) -implicitDefEqProofs [runB_eq, u__law_step_in, List.replicate, enc, sForV_eq, hn, forD_cons, forD_nil, needsD, encR, va, vb, hc]
      | true =>
        rw [qb] at vb
        rw [if_pos rfl]
        have hc := lown_op (B := B) o a b k st
        cases hx : ownS B (.op o a b) with
        | nx e' =>
          rw [hx] at hc
          show Tells _ (.nx e') st
          obtain ⟨t, hc⟩ := hc
          try simp only [enc, encR] at hc
          refine ⟨t, ?_⟩
          simp (decide := true) -implicitDefEqProofs [runB_eq, u__law_step_in, List.replicate, enc, sForV_eq, hn, forD_cons, forD_nil, needsD, encR, va, vb, hc]
        | stuck s =>
          rw [hx] at hc
          show Tells _ (.stuck s) st
          obtain ⟨t, hc⟩ := hc
          try simp only [enc, encR] at hc
          refine ⟨t, ?_⟩
          simp (decide := true) -implicitDefEqProofs [runB_eq, u__law_step_in, List.replicate, enc, sForV_eq, hn, forD_cons, forD_nil, needsD, encR, va, vb, hc]
        | over =>
          rw [hx] at hc
          show Tells _ (.over) st
          obtain ⟨t, hc⟩ := hc
          try simp only [enc, encR] at hc
          refine ⟨t, ?_⟩
          simp (decide := true) -implicitDefEqProofs [runB_eq, u__law_step_in, List.replicate, enc, sForV_eq, hn, forD_cons, forD_nil, needsD, encR, va, vb, hc]
  | ext l a b ia ib =>
    intro k st hk hs hv
    obtain ⟨k, rfl⟩ : ∃ j, k = j + 3 := ⟨k - 3, by omega⟩
    simp only [size] at hk hs
    have hn := lneed_ok (.ext l a b) (k + 1) st
    simp only [enc, needsD] at hn
    have ra := high_le a
    have va := lval_ok (k + 2) a st (by omega) (by omega)
    have rb := high_le b
    have vb := lval_ok (k + 2) b st (by omega) (by omega)
    rw [den_li, nextS_ext]
    cases qa : isVal a with
    | false =>
      rw [qa] at va
      rw [if_neg (by simp)]
      have hc := ia (k + 2) st (by omega) (by omega) qa
      cases hx : nextS B a with
      | nx e' =>
        rw [hx] at hc
        show Tells _ (.nx (.ext l e' b)) st
        obtain ⟨t, hc⟩ := hc
        try simp only [enc, encR] at hc
        refine ⟨t, ?_⟩
        simp (decide := true) -implicitDefEqProofs [runB_eq, u__law_step_in, List.replicate, enc, sForV_eq, hn, forD_cons, forD_nil, needsD, encR, va, hc]
      | stuck s =>
        rw [hx] at hc
        show Tells _ (.stuck s) st
        obtain ⟨t, hc⟩ := hc
        try simp only [enc, encR] at hc
        refine ⟨t, ?_⟩
        simp (decide := true) -implicitDefEqProofs [runB_eq, u__law_step_in, List.replicate, enc, sForV_eq, hn, forD_cons, forD_nil, needsD, encR, va, hc]
      | over =>
        rw [hx] at hc
        show Tells _ (.over) st
        obtain ⟨t, hc⟩ := hc
        try simp only [enc, encR] at hc
        refine ⟨t, ?_⟩
        simp (decide := true) -implicitDefEqProofs [runB_eq, u__law_step_in, List.replicate, enc, sForV_eq, hn, forD_cons, forD_nil, needsD, encR, va, hc]
    | true =>
      rw [qa] at va
      rw [if_pos rfl]
      cases qb : isVal b with
      | false =>
        rw [qb] at vb
        rw [if_neg (by simp)]
        have hc := ib (k + 2) st (by omega) (by omega) qb
        cases hx : nextS B b with
        | nx e' =>
          rw [hx] at hc
          show Tells _ (.nx (.ext l a e')) st
          obtain ⟨t, hc⟩ := hc
          try simp only [enc, encR] at hc
          refine ⟨t, ?_⟩
          simp (decide := true) -implicitDefEqProofs [runB_eq, u__law_step_in, List.replicate, enc, sForV_eq, hn, forD_cons, forD_nil, needsD, encR, va, vb, hc]
        | stuck s =>
          rw [hx] at hc
          show Tells _ (.stuck s) st
          obtain ⟨t, hc⟩ := hc
          try simp only [enc, encR] at hc
          refine ⟨t, ?_⟩
          simp (decide := true) -implicitDefEqProofs [runB_eq, u__law_step_in, List.replicate, enc, sForV_eq, hn, forD_cons, forD_nil, needsD, encR, va, vb, hc]
        | over =>
          rw [hx] at hc
          show Tells _ (.over) st
          obtain ⟨t, hc⟩ := hc
          try simp only [enc, encR] at hc
          refine ⟨t, ?_⟩
          simp (decide := true) -implicitDefEqProofs [runB_eq, u__law_step_in, List.replicate, enc, sForV_eq, hn, forD_cons, forD_nil, needsD, encR, va, vb, hc]
      | true =>
        rw [qb] at vb
        rw [if_pos rfl]
        have hc := lown_ext (B := B) l a b k st
        cases hx : ownS B (.ext l a b) with
        | nx e' =>
          rw [hx] at hc
          show Tells _ (.nx e') st
          obtain ⟨t, hc⟩ := hc
          try simp only [enc, encR] at hc
          refine ⟨t, ?_⟩
          simp (decide := true) -implicitDefEqProofs [runB_eq, u__law_step_in, List.replicate, enc, sForV_eq, hn, forD_cons, forD_nil, needsD, encR, va, vb, hc]
        | stuck s =>
          rw [hx] at hc
          show Tells _ (.stuck s) st
          obtain ⟨t, hc⟩ := hc
          try simp only [enc, encR] at hc
          refine ⟨t, ?_⟩
          simp (decide := true) -implicitDefEqProofs [runB_eq, u__law_step_in, List.replicate, enc, sForV_eq, hn, forD_cons, forD_nil, needsD, encR, va, vb, hc]
        | over =>
          rw [hx] at hc
          show Tells _ (.over) st
          obtain ⟨t, hc⟩ := hc
          try simp only [enc, encR] at hc
          refine ⟨t, ?_⟩
          simp (decide := true) -implicitDefEqProofs [runB_eq, u__law_step_in, List.replicate, enc, sForV_eq, hn, forD_cons, forD_nil, needsD, encR, va, vb, hc]
  | lt x a b ia ib =>
    intro k st hk hs hv
    obtain ⟨k, rfl⟩ : ∃ j, k = j + 3 := ⟨k - 3, by omega⟩
    simp only [size] at hk hs
    have hn := lneed_ok (.lt x a b) (k + 1) st
    simp only [enc, needsD] at hn
    have ra := high_le a
    have va := lval_ok (k + 2) a st (by omega) (by omega)
    rw [den_li, nextS_lt]
    cases qa : isVal a with
    | false =>
      rw [qa] at va
      rw [if_neg (by simp)]
      have hc := ia (k + 2) st (by omega) (by omega) qa
      cases hx : nextS B a with
      | nx e' =>
        rw [hx] at hc
        show Tells _ (.nx (.lt x e' b)) st
        obtain ⟨t, hc⟩ := hc
        try simp only [enc, encR] at hc
        refine ⟨t, ?_⟩
        simp (decide := true) -implicitDefEqProofs [runB_eq, u__law_step_in, List.replicate, enc, sForV_eq, hn, forD_cons, forD_nil, needsD, encR, va, hc]
      | stuck s =>
        rw [hx] at hc
        show Tells _ (.stuck s) st
        obtain ⟨t, hc⟩ := hc
        try simp only [enc, encR] at hc
        refine ⟨t, ?_⟩
        simp (decide := true) -implicitDefEqProofs [runB_eq, u__law_step_in, List.replicate, enc, sForV_eq, hn, forD_cons, forD_nil, needsD, encR, va, hc]
      | over =>
        rw [hx] at hc
        show Tells _ (.over) st
        obtain ⟨t, hc⟩ := hc
        try simp only [enc, encR] at hc
        refine ⟨t, ?_⟩
        simp (decide := true) -implicitDefEqProofs [runB_eq, u__law_step_in, List.replicate, enc, sForV_eq, hn, forD_cons, forD_nil, needsD, encR, va, hc]
    | true =>
      rw [qa] at va
      rw [if_pos rfl]
      have hc := lown_lt (B := B) x a b (k + 1) (by have := high_le b; omega) st
      cases hx : ownS B (.lt x a b) with
      | nx e' =>
        rw [hx] at hc
        show Tells _ (.nx e') st
        obtain ⟨t, hc⟩ := hc
        try simp only [enc, encR] at hc
        refine ⟨t, ?_⟩
        simp (decide := true) -implicitDefEqProofs [runB_eq, u__law_step_in, List.replicate, enc, sForV_eq, hn, forD_cons, forD_nil, needsD, encR, va, hc]
      | stuck s =>
        rw [hx] at hc
        show Tells _ (.stuck s) st
        obtain ⟨t, hc⟩ := hc
        try simp only [enc, encR] at hc
        refine ⟨t, ?_⟩
        simp (decide := true) -implicitDefEqProofs [runB_eq, u__law_step_in, List.replicate, enc, sForV_eq, hn, forD_cons, forD_nil, needsD, encR, va, hc]
      | over =>
        rw [hx] at hc
        show Tells _ (.over) st
        obtain ⟨t, hc⟩ := hc
        try simp only [enc, encR] at hc
        refine ⟨t, ?_⟩
        simp (decide := true) -implicitDefEqProofs [runB_eq, u__law_step_in, List.replicate, enc, sForV_eq, hn, forD_cons, forD_nil, needsD, encR, va, hc]
  | ite c a b ic ia ib =>
    intro k st hk hs hv
    obtain ⟨k, rfl⟩ : ∃ j, k = j + 3 := ⟨k - 3, by omega⟩
    simp only [size] at hk hs
    have hn := lneed_ok (.ite c a b) (k + 1) st
    simp only [enc, needsD] at hn
    have rc := high_le c
    have vc := lval_ok (k + 2) c st (by omega) (by omega)
    rw [den_li, nextS_ite]
    cases qc : isVal c with
    | false =>
      rw [qc] at vc
      rw [if_neg (by simp)]
      have hc := ic (k + 2) st (by omega) (by omega) qc
      cases hx : nextS B c with
      | nx e' =>
        rw [hx] at hc
        show Tells _ (.nx (.ite e' a b)) st
        obtain ⟨t, hc⟩ := hc
        try simp only [enc, encR] at hc
        refine ⟨t, ?_⟩
        simp (decide := true) -implicitDefEqProofs [runB_eq, u__law_step_in, List.replicate, enc, sForV_eq, hn, forD_cons, forD_nil, needsD, encR, vc, hc]
      | stuck s =>
        rw [hx] at hc
        show Tells _ (.stuck s) st
        obtain ⟨t, hc⟩ := hc
        try simp only [enc, encR] at hc
        refine ⟨t, ?_⟩
        simp (decide := true) -implicitDefEqProofs [runB_eq, u__law_step_in, List.replicate, enc, sForV_eq, hn, forD_cons, forD_nil, needsD, encR, vc, hc]
      | over =>
        rw [hx] at hc
        show Tells _ (.over) st
        obtain ⟨t, hc⟩ := hc
        try simp only [enc, encR] at hc
        refine ⟨t, ?_⟩
        simp (decide := true) -implicitDefEqProofs [runB_eq, u__law_step_in, List.replicate, enc, sForV_eq, hn, forD_cons, forD_nil, needsD, encR, vc, hc]
    | true =>
      rw [qc] at vc
      rw [if_pos rfl]
      have hc := lown_ite (B := B) c a b (k + 1) st
      cases hx : ownS B (.ite c a b) with
      | nx e' =>
        rw [hx] at hc
        show Tells _ (.nx e') st
        obtain ⟨t, hc⟩ := hc
        try simp only [enc, encR] at hc
        refine ⟨t, ?_⟩
        simp (decide := true) -implicitDefEqProofs [runB_eq, u__law_step_in, List.replicate, enc, sForV_eq, hn, forD_cons, forD_nil, needsD, encR, vc, hc]
      | stuck s =>
        rw [hx] at hc
        show Tells _ (.stuck s) st
        obtain ⟨t, hc⟩ := hc
        try simp only [enc, encR] at hc
        refine ⟨t, ?_⟩
        simp (decide := true) -implicitDefEqProofs [runB_eq, u__law_step_in, List.replicate, enc, sForV_eq, hn, forD_cons, forD_nil, needsD, encR, vc, hc]
      | over =>
        rw [hx] at hc
        show Tells _ (.over) st
        obtain ⟨t, hc⟩ := hc
        try simp only [enc, encR] at hc
        refine ⟨t, ?_⟩
        simp (decide := true) -implicitDefEqProofs [runB_eq, u__law_step_in, List.replicate, enc, sForV_eq, hn, forD_cons, forD_nil, needsD, encR, vc, hc]
  | sel l a ia =>
    intro k st hk hs hv
    obtain ⟨k, rfl⟩ : ∃ j, k = j + 3 := ⟨k - 3, by omega⟩
    simp only [size] at hk hs
    have hn := lneed_ok (.sel l a) (k + 1) st
    simp only [enc, needsD] at hn
    have ra := high_le a
    have va := lval_ok (k + 2) a st (by omega) (by omega)
    rw [den_li, nextS_sel]
    cases qa : isVal a with
    | false =>
      rw [qa] at va
      rw [if_neg (by simp)]
      have hc := ia (k + 2) st (by omega) (by omega) qa
      cases hx : nextS B a with
      | nx e' =>
        rw [hx] at hc
        show Tells _ (.nx (.sel l e')) st
        obtain ⟨t, hc⟩ := hc
        try simp only [enc, encR] at hc
        refine ⟨t, ?_⟩
        simp (decide := true) -implicitDefEqProofs [runB_eq, u__law_step_in, List.replicate, enc, sForV_eq, hn, forD_cons, forD_nil, needsD, encR, va, hc]
      | stuck s =>
        rw [hx] at hc
        show Tells _ (.stuck s) st
        obtain ⟨t, hc⟩ := hc
        try simp only [enc, encR] at hc
        refine ⟨t, ?_⟩
        simp (decide := true) -implicitDefEqProofs [runB_eq, u__law_step_in, List.replicate, enc, sForV_eq, hn, forD_cons, forD_nil, needsD, encR, va, hc]
      | over =>
        rw [hx] at hc
        show Tells _ (.over) st
        obtain ⟨t, hc⟩ := hc
        try simp only [enc, encR] at hc
        refine ⟨t, ?_⟩
        simp (decide := true) -implicitDefEqProofs [runB_eq, u__law_step_in, List.replicate, enc, sForV_eq, hn, forD_cons, forD_nil, needsD, encR, va, hc]
    | true =>
      rw [qa] at va
      rw [if_pos rfl]
      have hc := lown_sel (B := B) l qa (by omega) k st
      cases hx : ownS B (.sel l a) with
      | nx e' =>
        rw [hx] at hc
        show Tells _ (.nx e') st
        obtain ⟨t, hc⟩ := hc
        try simp only [enc, encR] at hc
        refine ⟨t, ?_⟩
        simp (decide := true) -implicitDefEqProofs [runB_eq, u__law_step_in, List.replicate, enc, sForV_eq, hn, forD_cons, forD_nil, needsD, encR, va, hc]
      | stuck s =>
        rw [hx] at hc
        show Tells _ (.stuck s) st
        obtain ⟨t, hc⟩ := hc
        try simp only [enc, encR] at hc
        refine ⟨t, ?_⟩
        simp (decide := true) -implicitDefEqProofs [runB_eq, u__law_step_in, List.replicate, enc, sForV_eq, hn, forD_cons, forD_nil, needsD, encR, va, hc]
      | over =>
        rw [hx] at hc
        show Tells _ (.over) st
        obtain ⟨t, hc⟩ := hc
        try simp only [enc, encR] at hc
        refine ⟨t, ?_⟩
        simp (decide := true) -implicitDefEqProofs [runB_eq, u__law_step_in, List.replicate, enc, sForV_eq, hn, forD_cons, forD_nil, needsD, encR, va, hc]
  | drp l a ia =>
    intro k st hk hs hv
    obtain ⟨k, rfl⟩ : ∃ j, k = j + 3 := ⟨k - 3, by omega⟩
    simp only [size] at hk hs
    have hn := lneed_ok (.drp l a) (k + 1) st
    simp only [enc, needsD] at hn
    have ra := high_le a
    have va := lval_ok (k + 2) a st (by omega) (by omega)
    rw [den_li, nextS_drp]
    cases qa : isVal a with
    | false =>
      rw [qa] at va
      rw [if_neg (by simp)]
      have hc := ia (k + 2) st (by omega) (by omega) qa
      cases hx : nextS B a with
      | nx e' =>
        rw [hx] at hc
        show Tells _ (.nx (.drp l e')) st
        obtain ⟨t, hc⟩ := hc
        try simp only [enc, encR] at hc
        refine ⟨t, ?_⟩
        simp (decide := true) -implicitDefEqProofs [runB_eq, u__law_step_in, List.replicate, enc, sForV_eq, hn, forD_cons, forD_nil, needsD, encR, va, hc]
      | stuck s =>
        rw [hx] at hc
        show Tells _ (.stuck s) st
        obtain ⟨t, hc⟩ := hc
        try simp only [enc, encR] at hc
        refine ⟨t, ?_⟩
        simp (decide := true) -implicitDefEqProofs [runB_eq, u__law_step_in, List.replicate, enc, sForV_eq, hn, forD_cons, forD_nil, needsD, encR, va, hc]
      | over =>
        rw [hx] at hc
        show Tells _ (.over) st
        obtain ⟨t, hc⟩ := hc
        try simp only [enc, encR] at hc
        refine ⟨t, ?_⟩
        simp (decide := true) -implicitDefEqProofs [runB_eq, u__law_step_in, List.replicate, enc, sForV_eq, hn, forD_cons, forD_nil, needsD, encR, va, hc]
    | true =>
      rw [qa] at va
      rw [if_pos rfl]
      have hc := lown_drp (B := B) l qa (by omega) k st
      cases hx : ownS B (.drp l a) with
      | nx e' =>
        rw [hx] at hc
        show Tells _ (.nx e') st
        obtain ⟨t, hc⟩ := hc
        try simp only [enc, encR] at hc
        refine ⟨t, ?_⟩
        simp (decide := true) -implicitDefEqProofs [runB_eq, u__law_step_in, List.replicate, enc, sForV_eq, hn, forD_cons, forD_nil, needsD, encR, va, hc]
      | stuck s =>
        rw [hx] at hc
        show Tells _ (.stuck s) st
        obtain ⟨t, hc⟩ := hc
        try simp only [enc, encR] at hc
        refine ⟨t, ?_⟩
        simp (decide := true) -implicitDefEqProofs [runB_eq, u__law_step_in, List.replicate, enc, sForV_eq, hn, forD_cons, forD_nil, needsD, encR, va, hc]
      | over =>
        rw [hx] at hc
        show Tells _ (.over) st
        obtain ⟨t, hc⟩ := hc
        try simp only [enc, encR] at hc
        refine ⟨t, ?_⟩
        simp (decide := true) -implicitDefEqProofs [runB_eq, u__law_step_in, List.replicate, enc, sForV_eq, hn, forD_cons, forD_nil, needsD, encR, va, hc]
  | name x =>
    intro k st hk hs hv
    obtain ⟨k, rfl⟩ : ∃ j, k = j + 3 := ⟨k - 3, by omega⟩
    have hn := lneed_ok (.name x) (k + 1) st
    simp only [enc, needsD] at hn
    rw [den_li, nextS_name]
    have hc := lown_name hB hG x (k + 1) st
    cases hx : ownS B (.name x) with
    | nx e' =>
      rw [hx] at hc
      show Tells _ (.nx e') st
      obtain ⟨t, hc⟩ := hc
      try simp only [enc, encR] at hc
      refine ⟨t, ?_⟩
      simp (decide := true) -implicitDefEqProofs [runB_eq, u__law_step_in, List.replicate, enc, sForV_eq, hn, forD_cons, forD_nil, needsD, encR, hc]
    | stuck s =>
      rw [hx] at hc
      show Tells _ (.stuck s) st
      obtain ⟨t, hc⟩ := hc
      try simp only [enc, encR] at hc
      refine ⟨t, ?_⟩
      simp (decide := true) -implicitDefEqProofs [runB_eq, u__law_step_in, List.replicate, enc, sForV_eq, hn, forD_cons, forD_nil, needsD, encR, hc]
    | over =>
      rw [hx] at hc
      show Tells _ (.over) st
      obtain ⟨t, hc⟩ := hc
      try simp only [enc, encR] at hc
      refine ⟨t, ?_⟩
      simp (decide := true) -implicitDefEqProofs [runB_eq, u__law_step_in, List.replicate, enc, sForV_eq, hn, forD_cons, forD_nil, needsD, encR, hc]
  | _ => intro k st hk hs hv; cases hv
end K16
set_option Elab.async false
set_option linter.all false
set_option maxHeartbeats 4000000
set_option maxRecDepth 100000
namespace K16
open PySem PySem.Spec PyProof.Rows L2 LamX DL DL.Ex
/-! ### the nodes of the program -/
theorem oExtend_at {st : Sto} {g g2 : Nat} {xs zs : List D} (h : st[g]? = some (.lst xs)) (h2 : st[g2]? = some (.lst zs)) (hl : xs.length + zs.length ≤ sizeLine) : oExtend (.obj g) [.obj g2] st = .ok .non (st.set g (.lst (xs ++ zs))) := by
  simp only [oExtend, mlOf, DL.listOf, h, h2, if_pos hl]
theorem size_kids (e : Ex) : size e = 1 + ((kids e).map size).sum := by cases e <;> simp [size, kids] <;> omega
def NoOk (F : Nat → Fn) (c : Ex) : Prop := ∀ st : Sto, ∃ (ds : List D) (t : Sto), F 1 [enc c] st = .ok (.obj st.length) (st ++ .lst ds :: t) ∧ ds.length = size c
theorem no_loop {F : Nat → Fn} {row : Option D} {g : Nat} : ∀ (cs : List Ex) (acc : List D) (st : Sto) (o : Option D), (∀ c ∈ cs, NoOk F c) → st[g]? = some (.lst acc) → acc.length + (cs.map size).sum ≤ 1000000 →
    ∃ (acc' : List D) (t : Sto) (o' : Option D), forD (gN 2) (sExp (fMt oExtend (fV 1) (aCons (fCallN 1 (F 1) (aCons (fV 2) aNil)) aNil))) (cs.map enc) [row, some (.obj g), o] st = .ok (.nx [row, some (.obj g), o']) (st.set g (.lst acc') ++ t) ∧
      acc'.length = acc.length + (cs.map size).sum
  | [], acc, st, o, _, hg, _ => by
    refine ⟨acc, [], o, ?_, by simp⟩
    have e : st.set g (.lst acc) = st := DL.set_same hg
    rw [List.map_nil, forD_nil, e, List.append_nil]
  | c :: cs, acc, st, o, h, hg, hl => by
    obtain ⟨ds, t1, h1, h2⟩ := h c List.mem_cons_self st
    have lt : g < st.length := at_lt hg
    have g1 : (st ++ .lst ds :: t1)[g]? = some (.lst acc) := by rw [List.getElem?_append_left lt]; exact hg
    have g2 : (st ++ .lst ds :: t1)[st.length]? = some (.lst ds) := by rw [List.getElem?_append_right (Nat.le_refl _), Nat.sub_self]; rfl
    rw [List.map_cons, List.sum_cons] at hl
    have hz : sizeLine = 16777216 := sizeLine_eq
    have hx := oExtend_at g1 g2 (by rw [h2]; omega)
    have e1 : (st ++ .lst ds :: t1).set g (.lst (acc ++ ds)) = st.set g (.lst (acc ++ ds)) ++ .lst ds :: t1 := List.set_append_left _ _ lt
    rw [e1] at hx
    have lt2 : g < (st.set g (.lst (acc ++ ds))).length := by rw [List.length_set]; exact lt
    have g3 : (st.set g (.lst (acc ++ ds)) ++ .lst ds :: t1)[g]? = some (.lst (acc ++ ds)) := by rw [List.getElem?_append_left lt2, List.getElem?_set_self lt]
    obtain ⟨acc', t, o', h3, h4⟩ := no_loop cs (acc ++ ds) (st.set g (.lst (acc ++ ds)) ++ .lst ds :: t1) (some (enc c)) (fun c hc => h c (List.mem_cons_of_mem _ hc)) g3 (by rw [List.length_append, h2]; omega)
    refine ⟨acc', .lst ds :: t1 ++ t, o', ?_, by rw [h4, List.length_append, h2, List.map_cons, List.sum_cons]; omega⟩
    have e2 : (st.set g (.lst (acc ++ ds)) ++ .lst ds :: t1).set g (.lst acc') ++ t = st.set g (.lst acc') ++ (.lst ds :: t1 ++ t) := by
      rw [List.set_append_left _ _ lt2, List.set_set, List.append_assoc]
    rw [e2] at h3
    rw [List.map_cons, forD_cons]
    simp (decide := true) -implicitDefEqProofs [kMt1_eq hg, h1, hx]
    simpa using h3
theorem den_no (k : Nat) (ds : List D) (st : Sto) : den (k + 1) 1 ds st = runB (u_nodes (den k) ini) 3 ds st := rfl
theorem kids_high (e : Ex) : ∀ c ∈ kids e, high c + 1 ≤ high e ∧ size c + 1 ≤ size e := by
  intro c hc
  cases e <;> simp only [kids, List.mem_cons, List.mem_nil_iff, or_false] at hc <;> first | (cases hc; done) | (rcases hc with rfl | rfl | rfl <;> simp only [high, size] <;> omega) | (rcases hc with rfl | rfl <;> simp only [high, size] <;> omega) | (subst hc; simp only [high, size]; omega)
theorem no_ok : ∀ (k : Nat) (e : Ex), high e + 1 ≤ k → size e ≤ 900000 → NoOk (den k) e := by
  intro k
  induction k with
  | zero => intro e h; omega
  | succ k ih =>
    intro e h hs st
    obtain ⟨k, rfl⟩ : ∃ j, k = j + 1 := ⟨k - 1, by have := high_pos e; omega⟩
    have hc := chil_ok e k (st ++ [.lst [enc e]])
    have hk := kids_high e
    obtain ⟨acc', t, o', h1, h2⟩ := no_loop (F := den (k + 1)) (row := some (enc e)) (g := st.length) (kids e) [enc e] (st ++ [.lst [enc e]]) none (fun c hc => ih c (by have := hk c hc; omega) (by have := hk c hc; omega)) (get_last st _) (by
      have := size_kids e
      rw [List.length_singleton]; omega)
    rw [set_last] at h1
    refine ⟨acc', t, ?_, by rw [h2, List.length_singleton]; exact (size_kids e).symm⟩
    rw [den_no]
    simp (decide := true) -implicitDefEqProofs [runB_eq, u_nodes, List.replicate, sForV_eq, hc, h1]
/-! ### the law's count -/
theorem toPys_encs : ∀ es : List Ex, toPys (es.map enc) = some (es.map py)
  | [] => rfl
  | e :: es => by simp only [List.map_cons, toPys, toPy_enc, toPys_encs es]
theorem lay_pys : ∀ {es : List Ex}, (∀ e ∈ es, Good e) → PyData.canLayAll0 (es.map py) = true
  | [], _ => lay_nil
  | e :: es, h => lay_cons (lay_py e (h e List.mem_cons_self)) (lay_pys fun x hx => h x (List.mem_cons_of_mem _ hx))
theorem neM_obj {st : Sto} {g : Nat} {es : List Ex} (hg : st[g]? = some (.lst (es.map enc))) (hG : ∀ e ∈ es, Good e) : opNeM (.obj g) (.lv []) st = .ok (.bl (!es.isEmpty)) st := by
  have h1 : toPyS st (.obj g) = some (.list (es.map py)) := by simp only [toPyS, hg, toPys_encs, Option.map_some]
  have h2 : toPyS st (.lv []) = some (.list []) := rfl
  have c1 : PyData.canLay0 (.list (es.map py)) = true := by simp only [PyData.canLay0, lay_pys hG]
  have c2 : PyData.canLay0 (.list []) = true := by simp only [PyData.canLay0, PyData.canLayAll0]
  have d2 : PyData.depth (.list []) ≤ 64 := by simp only [PyData.depth, PyData.depthAll]; decide
  have ev : PyData.eqv (.list (es.map py)) (.list []) = es.isEmpty := by cases es <;> simp [PyData.eqv, PyData.eqvAll]
  unfold opNeM eqM
  rw [h1, h2]
  simp only [c1, c2, d2, and_self, if_true, ev, ofB, Option.map_some]
theorem oPop_at {st : Sto} {g : Nat} {xs : List D} {x : D} (h : st[g]? = some (.lst (xs ++ [x]))) : oPop (.obj g) [] st = .ok x (st.set g (.lst xs)) := by
  have e : (xs ++ [x])[(xs ++ [x]).length - 1]? = some x := by simp
  simp only [oPop, h, e, List.dropLast_concat]
theorem catO_at {st : Sto} {g : Nat} {xs es : List D} (h : st[g]? = some (.lst xs)) (hl : xs.length + es.length ≤ sizeLine) : opCatO (.obj g) (.lv es) st = .ok (.obj st.length) (st ++ [.lst (xs ++ es)]) := by
  simp only [opCatO, mlOf, DL.listOf, h, if_pos hl]
abbrev cuU (F : Nat → Fn) : FS := sIf (bOf (fOp opNeM (fV 2) (fLv aNil))) (sSeq (sSet 1 (fOp opAddA (fV 1) (fC (.int 1)))) (sSet 2 (fOp opCatO (fV 2) (fCallN 1 (F 22) (aCons (fMt oPop (fV 2) aNil) aNil))))) sNil
structure CuP (e : Ex) (st0 : Sto) (i : Nat) (τ : Ti) (st : Sto) : Prop where
  ex : ∃ (m : Nat) (todo : List Ex) (g : Nat) (o3 : Option D) (t : Sto), τ = [some (enc e), some (.int (m : Nat)), some (.obj g), o3] ∧ st = st0 ++ t ∧ st0.length ≤ g ∧ st[g]? = some (.lst (todo.map enc)) ∧ m + (todo.map size).sum = size e ∧ (todo = [] ∨ m = i) ∧ ∀ x ∈ todo, Good x
theorem sum_len : ∀ es : List Ex, es.length ≤ (es.map size).sum
  | [] => Nat.le_refl _
  | e :: es => by
    have := sum_len es
    have := size_pos e
    rw [List.length_cons, List.map_cons, List.sum_cons]
    omega
theorem good_kids {e : Ex} (g : Ex.Good e) : ∀ c ∈ kids e, Ex.Good c := by
  intro c hc
  cases e with
  | name x => simp only [kids, List.not_mem_nil] at hc
  | num i => simp only [kids, List.not_mem_nil] at hc
  | tru t => simp only [kids, List.not_mem_nil] at hc
  | emp => simp only [kids, List.not_mem_nil] at hc
  | fn x b =>
    simp only [kids, List.mem_cons, List.mem_nil_iff, or_false] at hc
    subst hc
    exact g.2
  | rc f x b =>
    simp only [kids, List.mem_cons, List.mem_nil_iff, or_false] at hc
    subst hc
    exact g.2.2
  | call a b =>
    simp only [kids, List.mem_cons, List.mem_nil_iff, or_false] at hc
    rcases hc with rfl | rfl
    · exact g.1
    · exact g.2
  | lt x a b =>
    simp only [kids, List.mem_cons, List.mem_nil_iff, or_false] at hc
    rcases hc with rfl | rfl
    · exact g.2.1
    · exact g.2.2
  | ite a b c =>
    simp only [kids, List.mem_cons, List.mem_nil_iff, or_false] at hc
    rcases hc with rfl | rfl | rfl
    · exact g.1
    · exact g.2.1
    · exact g.2.2
  | op o a b =>
    simp only [kids, List.mem_cons, List.mem_nil_iff, or_false] at hc
    rcases hc with rfl | rfl
    · exact g.2.1
    · exact g.2.2
  | ext l a b =>
    simp only [kids, List.mem_cons, List.mem_nil_iff, or_false] at hc
    rcases hc with rfl | rfl
    · exact g.2.1
    · exact g.2.2
  | sel l a =>
    simp only [kids, List.mem_cons, List.mem_nil_iff, or_false] at hc
    subst hc
    exact g.2
  | drp l a =>
    simp only [kids, List.mem_cons, List.mem_nil_iff, or_false] at hc
    subst hc
    exact g.2
theorem cu_turn {e : Ex} {st0 : Sto} {k i : Nat} (hz : size e ≤ 900000) {τ : Ti} {st : Sto} (h : CuP e st0 i τ st) (d : D) : ∃ τ2 st2, cuU (den (k + 1)) (τ.set 3 (some d)) st = .ok (.nx τ2) st2 ∧ CuP e st0 (i + 1) τ2 st2 := by
  obtain ⟨m, todo, g, o3, t, rfl, rfl, hgl, hg, hm, hi, hG⟩ := h.ex
  have hn := neM_obj hg hG
  rcases List.eq_nil_or_concat todo with rfl | ⟨xs, x, rfl⟩
  · refine ⟨[some (enc e), some (.int (m : Nat)), some (.obj g), some d], st0 ++ t, ?_, ⟨m, [], g, _, t, rfl, rfl, hgl, hg, hm, .inl rfl, by simp⟩⟩
    simp (decide := true) -implicitDefEqProofs [hn]
  · rw [List.concat_eq_append] at *
    have hsz : sizeLine = 16777216 := sizeLine_eq
    rw [List.map_append, List.map_cons, List.map_nil] at hg
    have hp := oPop_at hg
    have lt : g < (st0 ++ t).length := at_lt hg
    have e1 : (st0 ++ t).set g (.lst (xs.map enc)) = st0 ++ t.set (g - st0.length) (.lst (xs.map enc)) := List.set_append_right _ _ hgl
    have hl := lchi_ok x k ((st0 ++ t).set g (.lst (xs.map enc)))
    have g1 : ((st0 ++ t).set g (.lst (xs.map enc)))[g]? = some (.lst (xs.map enc)) := List.getElem?_set_self lt
    rw [List.map_append, List.sum_append, List.map_cons, List.map_nil, List.sum_cons, List.sum_nil] at hm
    have l1 := sum_len xs
    have l2 := sum_len (kids x)
    have l3 := size_kids x
    have hc := catO_at (es := (kids x).map enc) g1 (by rw [List.length_map, List.length_map]; omega)
    have ne : (!(xs ++ [x]).isEmpty) = true := by simp
    rw [ne] at hn
    refine ⟨[some (enc e), some (.int ((m + 1 : Nat) : Int)), some (.obj ((st0 ++ t).set g (.lst (xs.map enc))).length), some d], (st0 ++ t).set g (.lst (xs.map enc)) ++ [.lst (xs.map enc ++ (kids x).map enc)], ?_, ?_⟩
    · simp (decide := true) -implicitDefEqProofs [hn, kMt1_eq hg, hp, hl, hc, -List.length_set, -List.length_append]
    · refine ⟨m + 1, xs ++ kids x, _, _, t.set (g - st0.length) (.lst (xs.map enc)) ++ [.lst (xs.map enc ++ (kids x).map enc)], rfl, by rw [e1, List.append_assoc], ?_, ?_, ?_, .inr (by rcases hi with hi | hi; simp at hi; omega), ?_⟩
      · rw [List.length_set, List.length_append]; omega
      · rw [List.map_append]; exact get_last _ _
      · rw [List.map_append, List.sum_append]; omega
      · intro y hy
        rcases List.mem_append.mp hy with hy | hy
        · exact hG y (List.mem_append_left _ hy)
        · exact good_kids (hG x (List.mem_append_right _ List.mem_cons_self)) y hy
theorem den_cu (k : Nat) (ds : List D) (st : Sto) : den (k + 1) 25 ds st = runB (u__law_count (den k) ini) 4 ds st := rfl
theorem count_ok {e : Ex} (g : Good e) (hz : size e ≤ 900000) (k : Nat) (st : Sto) : ∃ (m : Nat) (t : Sto), den (k + 2) 25 [enc e] st = .ok (.int (m : Nat)) (st ++ t) ∧ (300 < m ↔ 300 < size e) := by
  have k2 : ∀ st : Sto, kRng1 (.int 20000) st = .ok (.imm (runD 0 20000)) st := fun st => kRng1_eq (j := 20000) (by decide) st
  obtain ⟨τ', st', h1, h2⟩ := forD_cnt (g := gN 3) (u := cuU (den (k + 1))) (P := CuP e st) 20000 (runD 0 20000) 0 [some (enc e), some (.int 0), some (.obj st.length), none] (st ++ [.lst [enc e]]) (by rw [runD_len]; omega)
    ⟨0, [e], st.length, none, [.lst [enc e]], rfl, rfl, Nat.le_refl _, get_last _ _, by simp, .inr rfl, by simpa using g⟩ (fun i d _ _ τ st1 hP => by
      obtain ⟨τ2, st2, h3, h4⟩ := cu_turn (k := k) hz hP d
      exact ⟨_, _, τ2, st2, gN_eq _ _ _ _, h3, h4⟩)
  rw [runD_len] at h2
  obtain ⟨m, todo, g', o3, t, rfl, rfl, _, _, hm, hi, _⟩ := h2.ex
  refine ⟨m, t, ?_, ?_⟩
  · rw [den_cu]
    simp (decide := true) -implicitDefEqProofs [runB_eq, u__law_count, List.replicate, k2]
    rw [h1]
    simp
  · rcases hi with rfl | hi
    · simp at hm; omega
    · omega
end K16
set_option Elab.async false
set_option linter.all false
set_option maxHeartbeats 4000000
set_option maxRecDepth 100000
namespace K16
open PySem PySem.Spec PyProof.Rows L2 LamX DL DL.Ex
/-! ### a step, told -/
def told (B : List (Str × Ex)) (e : Ex) : D := if isVal e = true then .tup [.str "value"] else if 300 < size e then .tup [.str "large"] else encR (nextS B e)
theorem den_st (k : Nat) (ds : List D) (st : Sto) : den (k + 1) 11 ds st = runB (u_step (den k) ini) 3 ds st := rfl
theorem den_sd (k : Nat) (ds : List D) (st : Sto) : den (k + 1) 31 ds st = runB (u__law_stepped (den k) ini) 2 ds st := rfl
theorem step_ok {B : List (Str × Ex)} (hB : BookOk B) {e : Ex} {k : Nat} (hd : dv e ≤ k) (hh : high e + 1 ≤ k) (hz : size e ≤ 100000) (hk : 615 ≤ k) (st : Sto) : ∃ t, den (k + 1) 11 [enc e, bkD B] st = .ok (told B e) (st ++ t) := by
  have hv := val_ok e k st hd
  rw [den_st]
  unfold told
  cases q : isVal e with
  | true =>
    rw [q] at hv
    refine ⟨[], ?_⟩
    simp (decide := true) -implicitDefEqProofs [runB_eq, u_step, List.replicate, hv]
  | false =>
    rw [q] at hv
    obtain ⟨ds, t, hn, hl⟩ := no_ok k e hh (by omega) st
    have hg : (st ++ .lst ds :: t)[st.length]? = some (.lst ds) := by rw [List.getElem?_append_right (Nat.le_refl _), Nat.sub_self]; rfl
    have hL := oLen_obj hg
    rw [hl] at hL
    by_cases h3 : 300 < size e
    · have h4 : (300 : Int) < (size e : Nat) := by omega
      refine ⟨.lst ds :: t, ?_⟩
      simp (decide := true) -implicitDefEqProofs [runB_eq, u_step, List.replicate, hv, hn, hL, h3, h4]
    · have h4 : ¬ ((300 : Int) < (size e : Nat)) := by omega
      have hx := next_ok hB e k (st ++ .lst ds :: t) (by omega) (by omega) q
      rw [if_neg (by simp), if_neg h3]
      cases w : nextS B e with
      | nx e' =>
        rw [w] at hx
        obtain ⟨t2, hx⟩ := hx
        refine ⟨.lst ds :: t ++ t2, ?_⟩
        simp (decide := true) -implicitDefEqProofs [runB_eq, u_step, List.replicate, hv, hn, hL, h4, sTry, hx, encR]
      | stuck s =>
        rw [w] at hx
        obtain ⟨t2, τ2, hx⟩ := hx
        refine ⟨.lst ds :: t ++ t2, ?_⟩
        simp (decide := true) -implicitDefEqProofs [runB_eq, u_step, List.replicate, hv, hn, hL, h4, sTry, hx, encR, hRun, clr, clrO, fX]
      | over =>
        rw [w] at hx
        obtain ⟨t2, τ2, hx⟩ := hx
        refine ⟨.lst ds :: t ++ t2, ?_⟩
        simp (decide := true) -implicitDefEqProofs [runB_eq, u_step, List.replicate, hv, hn, hL, h4, sTry, hx, encR, hRun, clr, clrO]
theorem stepped_ok {B : List (Str × Ex)} (hB : BookOk B) (hG : ∀ p ∈ B, Ex.Good p.2) {e : Ex} (g : Ex.Good e) {k : Nat} (hh : high e ≤ k) (hz : size e ≤ 100000) (hk : 615 ≤ k) (st : Sto) : ∃ t, den (k + 1) 31 [enc e, bkD B] st = .ok (told B e) (st ++ t) := by
  have hv := lval_ok k e st hh (by omega)
  rw [den_sd]
  unfold told
  cases q : isVal e with
  | true =>
    rw [q] at hv
    refine ⟨[], ?_⟩
    simp (decide := true) -implicitDefEqProofs [runB_eq, u__law_stepped, List.replicate, hv]
  | false =>
    rw [q] at hv
    obtain ⟨k, rfl⟩ : ∃ j, k = j + 2 := ⟨k - 2, by omega⟩
    obtain ⟨m, t, hc, hm⟩ := count_ok g (by omega) k st
    by_cases h3 : 300 < size e
    · have h4 : (300 : Int) < (m : Nat) := by have := hm.mpr h3; omega
      refine ⟨t, ?_⟩
      simp (decide := true) -implicitDefEqProofs [runB_eq, u__law_stepped, List.replicate, hv, hc, h3, h4]
    · have h4 : ¬ ((300 : Int) < (m : Nat)) := fun z => h3 (hm.mp (by omega))
      obtain ⟨t2, hx⟩ := in_ok hB hG e (k + 2) (st ++ t) (by omega) (by omega) q
      refine ⟨t ++ t2, ?_⟩
      rw [if_neg (by simp), if_neg h3]
      simp (decide := true) -implicitDefEqProofs [runB_eq, u__law_stepped, List.replicate, hv, hc, h4, hx]
/-! ### how great the next one is -/
theorem size_put1 {n : Str} {v : Ex} : ∀ e : Ex, size (put n v e) ≤ size e * size v := by
  have hv := size_pos v
  intro e
  induction e with
  | name x => simp only [put]; split <;> simp only [size, Nat.one_mul] <;> omega
  | num i => simp only [put, size, Nat.one_mul]; omega
  | tru i => simp only [put, size, Nat.one_mul]; omega
  | emp => simp only [put, size, Nat.one_mul]; omega
  | fn x b ib =>
    simp only [put]; split
    · exact Nat.le_mul_of_pos_right _ hv
    · simp only [size, Nat.add_mul, Nat.one_mul]; omega
  | rc f x b ib =>
    simp only [put]; split
    · exact Nat.le_mul_of_pos_right _ hv
    · simp only [size, Nat.add_mul, Nat.one_mul]; omega
  | lt x a b ia ib =>
    simp only [put]; split
    · have h := Nat.le_mul_of_pos_right (size b) hv
      simp only [size, Nat.add_mul, Nat.one_mul]; omega
    · simp only [size, Nat.add_mul, Nat.one_mul]; omega
  | call a b ia ib => simp only [put, size, Nat.add_mul, Nat.one_mul]; omega
  | ite a b c ia ib ic => simp only [put, size, Nat.add_mul, Nat.one_mul]; omega
  | op o a b ia ib => simp only [put, size, Nat.add_mul, Nat.one_mul]; omega
  | ext l a b ia ib => simp only [put, size, Nat.add_mul, Nat.one_mul]; omega
  | sel l a ia => simp only [put, size, Nat.add_mul, Nat.one_mul]; omega
  | drp l a ia => simp only [put, size, Nat.add_mul, Nat.one_mul]; omega
theorem size_put2 {f x : Str} {v r : Ex} (hr : put x v r = r) : ∀ b : Ex, size (put x v (put f r b)) ≤ size b * (size v + size r) := by
  have hv := size_pos v
  have hr1 := size_pos r
  have up : ∀ c : Ex, size (put x v c) ≤ size c * (size v + size r) := fun c => Nat.le_trans (size_put1 c) (Nat.mul_le_mul_left _ (by omega))
  have ur : ∀ c : Ex, size (put f r c) ≤ size c * (size v + size r) := fun c => Nat.le_trans (size_put1 c) (Nat.mul_le_mul_left _ (by omega))
  intro b
  induction b with
  | name y =>
    simp only [put]
    split
    · rw [hr]; simp only [size, Nat.one_mul]; omega
    · exact up _
  | num i => exact up _
  | tru i => exact up _
  | emp => exact up _
  | fn y c ic =>
    simp only [put]
    split
    · exact up _
    · simp only [put]
      split
      · have := ur c
        simp only [size, Nat.add_mul, Nat.one_mul]; omega
      · simp only [size, Nat.add_mul, Nat.one_mul]; omega
  | rc g y c ic =>
    simp only [put]
    split
    · exact up _
    · simp only [put]
      split
      · have := ur c
        simp only [size, Nat.add_mul, Nat.one_mul]; omega
      · simp only [size, Nat.add_mul, Nat.one_mul]; omega
  | lt y a c ia ic =>
    simp only [put]
    have h1 := ur c
    have h2 := up c
    have h3 := Nat.le_mul_of_pos_right (size c) (show 0 < size v + size r by omega)
    split <;> split <;> simp only [size, Nat.add_mul, Nat.one_mul] at * <;> omega
  | call a c ia ic => simp only [put, size, Nat.add_mul, Nat.one_mul]; omega
  | ite a c d ia ic id => simp only [put, size, Nat.add_mul, Nat.one_mul]; omega
  | op o a c ia ic => simp only [put, size, Nat.add_mul, Nat.one_mul]; omega
  | ext l a c ia ic => simp only [put, size, Nat.add_mul, Nat.one_mul]; omega
  | sel l a ia => simp only [put, size, Nat.add_mul, Nat.one_mul]; omega
  | drp l a ia => simp only [put, size, Nat.add_mul, Nat.one_mul]; omega
theorem dv_pos : ∀ e : Ex, 1 ≤ dv e := by intro e; cases e <;> simp only [dv] <;> omega
theorem dv_put {n : Str} {v : Ex} : ∀ e : Ex, dv (put n v e) + 1 ≤ dv e + dv v := by
  have hv := dv_pos v
  intro e
  induction e with
  | name x => simp only [put]; split <;> simp only [dv] <;> omega
  | fn x b ib => simp only [put]; split <;> simp only [dv] <;> omega
  | rc f x b ib => simp only [put]; split <;> simp only [dv] <;> omega
  | lt x a b ia ib => simp only [put]; split <;> simp only [dv] <;> omega
  | _ => simp only [put, dv]; omega
theorem good_put1 {n : Str} {v : Ex} (gv : Ex.Good v) : ∀ e : Ex, Ex.Good e → Ex.Good (put n v e) := by
  intro e
  induction e with
  | name x => intro g; simp only [put]; split; exact gv; exact g
  | num n => intro g; exact g
  | tru n => intro g; exact g
  | emp => intro g; exact g
  | fn x b ib => intro g; simp only [put]; split; exact g; exact ⟨g.1, ib g.2⟩
  | rc f x b ib => intro g; simp only [put]; split; exact g; exact ⟨g.1, g.2.1, ib g.2.2⟩
  | sel x b ib => intro g; exact ⟨g.1, ib g.2⟩
  | drp x b ib => intro g; exact ⟨g.1, ib g.2⟩
  | lt x a b ia ib => intro g; simp only [put]; split; exact ⟨g.1, ia g.2.1, g.2.2⟩; exact ⟨g.1, ia g.2.1, ib g.2.2⟩
  | call a b ia ib => intro g; exact ⟨ia g.1, ib g.2⟩
  | op x a b ia ib => intro g; exact ⟨g.1, ia g.2.1, ib g.2.2⟩
  | ext x a b ia ib => intro g; exact ⟨g.1, ia g.2.1, ib g.2.2⟩
  | ite a b c ia ib ic => intro g; exact ⟨ia g.1, ib g.2.1, ic g.2.2⟩
structure Nice (s : Nat) (e : Ex) : Prop where
  good : Ex.Good e
  size : Ex.size e ≤ s * s + 40
  high : Ex.high e ≤ s + max s 40
  dv : dv e ≤ max (2 * s) (s + 80)
theorem sqA (a b : Nat) : a * a + b + 1 ≤ (a + b + 1) * (a + b + 1) := by
  have h1 : a * a ≤ a * (a + b + 1) := Nat.mul_le_mul_left _ (by omega)
  have h2 : b + 1 ≤ (b + 1) * (a + b + 1) := Nat.le_mul_of_pos_right _ (by omega)
  have e : (a + b + 1) * (a + b + 1) = a * (a + b + 1) + (b + 1) * (a + b + 1) := by rw [← Nat.add_mul, Nat.add_assoc]
  omega
theorem nice_put {x : Str} {v b : Ex} {s : Nat} (gv : Ex.Good v) (gb : Ex.Good b) (h : Ex.size b + Ex.size v + 1 ≤ s) : Nice s (put x v b) := by
  have h1 := size_put1 (n := x) (v := v) b
  have h2 := high_put1 (n := x) (v := v) b
  have h3 := dv_put (n := x) (v := v) b
  have a1 := high_le b
  have a2 := high_le v
  have b1 := dv_high b
  have b2 := dv_high v
  have m : Ex.size b * Ex.size v ≤ s * s := Nat.mul_le_mul (by omega) (by omega)
  exact ⟨good_put1 gv b gb, by omega, by omega, by omega⟩
theorem nice_sub {e : Ex} {s : Nat} (g : Ex.Good e) (h : Ex.size e ≤ s) : Nice s e := by
  have a1 := high_le e
  have b1 := dv_high e
  have m : s ≤ s * s := by
    rcases Nat.eq_zero_or_pos s with z | z
    · omega
    · exact Nat.le_mul_of_pos_right _ z
  exact ⟨g, by omega, by omega, by omega⟩
theorem call_nice {a b e' : Ex} (ga : Ex.Good a) (gb : Ex.Good b) (h : callS a b = .nx e') : Nice (Ex.size (.call a b)) e' := by
  cases a with
  | fn x c =>
    cases h
    exact nice_put gb ga.2 (by simp only [Ex.size]; omega)
  | rc f x c =>
    simp only [callS] at h
    by_cases q : f = x
    · rw [if_pos q] at h
      cases h
      exact nice_put gb ga.2.2 (by simp only [Ex.size]; omega)
    · rw [if_neg q] at h
      cases h
      have hr : put x b (.rc f x c) = .rc f x c := by simp [put]
      have h1 := size_put2 (f := f) hr c
      have h2 := high_put1 (n := x) (v := b) (put f (.rc f x c) c)
      have h3 := high_put1 (n := f) (v := .rc f x c) c
      have h4 := dv_put (n := x) (v := b) (put f (.rc f x c) c)
      have h5 := dv_put (n := f) (v := .rc f x c) c
      have a1 := high_le c
      have a2 := high_le b
      have b1 := dv_high c
      have b2 := dv_high b
      simp only [Ex.size] at h1 ⊢
      simp only [Ex.high] at h3
      simp only [dv] at h5
      have m : Ex.size c * (Ex.size b + (Ex.size c + 1)) ≤ (Ex.size c + 1 + Ex.size b + 1) * (Ex.size c + 1 + Ex.size b + 1) := Nat.mul_le_mul (by omega) (by omega)
      exact ⟨good_put1 gb _ (good_put1 ga c ga.2.2), by omega, by omega, by omega⟩
  | _ => cases h
end K16
set_option Elab.async false
set_option linter.all false
set_option maxHeartbeats 4000000
set_option maxRecDepth 100000
namespace K16
open PySem PySem.Spec PyProof.Rows L2 LamX DL DL.Ex
structure BookG (B : List (Str × Ex)) : Prop where
  ok : BookOk B
  good : ∀ p ∈ B, Ex.Good p.2
  small : ∀ p ∈ B, Ex.size p.2 ≤ 40
theorem look_mem {B : List (Str × Ex)} {x : Str} {e : Ex} (h : B.lookup x = some e) : ∃ p ∈ B, p.2 = e := by
  induction B with
  | nil => cases h
  | cons q B ih =>
    obtain ⟨y, z⟩ := q
    rw [List.lookup_cons] at h
    split at h
    · cases h; exact ⟨_, List.mem_cons_self, rfl⟩
    · obtain ⟨p, hp, e⟩ := ih h
      exact ⟨p, List.mem_cons_of_mem _ hp, e⟩
theorem rst_nice {l : Str} : ∀ {e : Ex} {p : Ex × Ex}, Ex.Good e → parts (rst l e) = some p → (Ex.Good p.1 ∧ Ex.size p.1 ≤ Ex.size e) ∧ (Ex.Good (wrap (ahd l e) p.2) ∧ Ex.size (wrap (ahd l e) p.2) ≤ Ex.size e) := by
  intro e
  induction e with
  | ext m a b ia ib =>
    intro p g h
    simp only [rst] at h
    simp only [ahd]
    split at h
    · rename_i q
      cases h
      rw [if_pos q]
      simp only [wrap, Ex.size]
      exact ⟨⟨g.2.1, by omega⟩, g.2.2, by omega⟩
    · rename_i q
      obtain ⟨⟨h1, h2⟩, h3, h4⟩ := ib g.2.2 h
      rw [if_neg q]
      simp only [wrap, Ex.size]
      exact ⟨⟨h1, by omega⟩, ⟨g.1, g.2.1, h3⟩, by omega⟩
  | _ => intro p g h; cases h
theorem rec_nice {s : Bool} {l : Str} {a e' : Ex} {n : Nat} (g : Ex.Good a) (h : recS s l a = .nx e') (hn : Ex.size a ≤ n) : Nice n e' := by
  unfold recS at h
  split at h
  · cases q : parts (rst l a) with
    | none => rw [q] at h; cases h
    | some p =>
      rw [q] at h
      cases h
      obtain ⟨⟨h1, h2⟩, h3, h4⟩ := rst_nice g q
      cases s with
      | true => exact nice_sub h1 (Nat.le_trans h2 hn)
      | false => exact nice_sub h3 (Nat.le_trans h4 hn)
  · cases h
theorem op_nice {o : Str} {a b e' : Ex} {n : Nat} (h : opS o a b = .nx e') (hn : 1 ≤ n) : Nice n e' := by
  have key : ∀ {e : Ex}, Ex.Good e → Ex.size e = 1 → Nice n e := fun g z => nice_sub g (by omega)
  unfold opS at h
  split at h
  · rename_i i j _ _
    unfold opN at h
    split at h
    · cases h; exact key trivial rfl
    · split at h
      · cases h; exact key trivial rfl
      · split at h
        · cases h
        · rename_i z
          cases h
          refine key ?_ rfl
          simp only [not_or, Int.not_lt] at z
          show (opV o i j).natAbs < 10 ^ 12
          omega
  · cases h
theorem name_nice {B : List (Str × Ex)} (hB : BookG B) {x : Str} {e' : Ex} (h : ownS B (.name x) = .nx e') : Nice 1 e' := by
  rw [ownS_name] at h
  cases q : B.lookup x with
  | none => rw [q] at h; cases h
  | some e =>
    rw [q] at h
    cases h
    obtain ⟨p, hp, rfl⟩ := look_mem q
    have h1 := hB.good p hp
    have h2 := hB.small p hp
    have a1 := high_le p.2
    have b1 := dv_high p.2
    exact ⟨h1, by omega, by omega, by omega⟩
theorem ite_nice {B : List (Str × Ex)} {c a b e' : Ex} {n : Nat} (ga : Ex.Good a) (gb : Ex.Good b) (h : ownS B (.ite c a b) = .nx e') (hn : Ex.size a ≤ n ∧ Ex.size b ≤ n) : Nice n e' := by
  cases c with
  | tru t =>
    cases t with
    | true => cases h; exact nice_sub ga hn.1
    | false => cases h; exact nice_sub gb hn.2
  | _ => cases h
theorem next_nice {B : List (Str × Ex)} (hB : BookG B) : ∀ (e e' : Ex), Ex.Good e → nextS B e = .nx e' → Nice (Ex.size e) e' := by
  intro e
  induction e with
  | call a b ia ib =>
    intro e' g h
    rw [nextS_call] at h
    have ra := high_le a
    have da := dv_high a
    have za := size_pos a
    have rb := high_le b
    have db := dv_high b
    have zb := size_pos b
    split at h
    · rename_i qa
      split at h
      · rename_i qb
        exact call_nice g.1 g.2 h
      · cases w : nextS B b with
        | nx y =>
          rw [w] at h
          cases h
          have n := ib y g.2 w
          have n1 := n.size
          have n2 := n.high
          have n3 := n.dv
          have sq := sqA (Ex.size b) (Ex.size a)
          have eq : Ex.size a + Ex.size b + 1 = Ex.size b + (Ex.size a) + 1 := by omega
          refine ⟨⟨g.1, n.good⟩, ?_, ?_, ?_⟩
          · simp only [Ex.size]; rw [eq]; omega
          · simp only [Ex.size, Ex.high]; omega
          · simp only [Ex.size, dv]; omega
        | stuck s => rw [w] at h; cases h
        | over => rw [w] at h; cases h
    · cases w : nextS B a with
      | nx y =>
        rw [w] at h
        cases h
        have n := ia y g.1 w
        have n1 := n.size
        have n2 := n.high
        have n3 := n.dv
        have sq := sqA (Ex.size a) (Ex.size b)
        have eq : Ex.size a + Ex.size b + 1 = Ex.size a + (Ex.size b) + 1 := by omega
        refine ⟨⟨n.good, g.2⟩, ?_, ?_, ?_⟩
        · simp only [Ex.size]; rw [eq]; omega
        · simp only [Ex.size, Ex.high]; omega
        · simp only [Ex.size, dv]; omega
      | stuck s => rw [w] at h; cases h
      | over => rw [w] at h; cases h
  | op o a b ia ib =>
    intro e' g h
    rw [nextS_op] at h
    have ra := high_le a
    have da := dv_high a
    have za := size_pos a
    have rb := high_le b
    have db := dv_high b
    have zb := size_pos b
    split at h
    · rename_i qa
      split at h
      · rename_i qb
        exact op_nice h (by simp only [Ex.size]; omega)
      · cases w : nextS B b with
        | nx y =>
          rw [w] at h
          cases h
          have n := ib y g.2.2 w
          have n1 := n.size
          have n2 := n.high
          have n3 := n.dv
          have sq := sqA (Ex.size b) (Ex.size a)
          have eq : Ex.size a + Ex.size b + 1 = Ex.size b + (Ex.size a) + 1 := by omega
          refine ⟨⟨g.1, g.2.1, n.good⟩, ?_, ?_, ?_⟩
          · simp only [Ex.size]; rw [eq]; omega
          · simp only [Ex.size, Ex.high]; omega
          · simp only [Ex.size, dv]; omega
        | stuck s => rw [w] at h; cases h
        | over => rw [w] at h; cases h
    · cases w : nextS B a with
      | nx y =>
        rw [w] at h
        cases h
        have n := ia y g.2.1 w
        have n1 := n.size
        have n2 := n.high
        have n3 := n.dv
        have sq := sqA (Ex.size a) (Ex.size b)
        have eq : Ex.size a + Ex.size b + 1 = Ex.size a + (Ex.size b) + 1 := by omega
        refine ⟨⟨g.1, n.good, g.2.2⟩, ?_, ?_, ?_⟩
        · simp only [Ex.size]; rw [eq]; omega
        · simp only [Ex.size, Ex.high]; omega
        · simp only [Ex.size, dv]; omega
      | stuck s => rw [w] at h; cases h
      | over => rw [w] at h; cases h
  | ext l a b ia ib =>
    intro e' g h
    rw [nextS_ext] at h
    have ra := high_le a
    have da := dv_high a
    have za := size_pos a
    have rb := high_le b
    have db := dv_high b
    have zb := size_pos b
    split at h
    · rename_i qa
      split at h
      · rename_i qb
        cases h
      · cases w : nextS B b with
        | nx y =>
          rw [w] at h
          cases h
          have n := ib y g.2.2 w
          have n1 := n.size
          have n2 := n.high
          have n3 := n.dv
          have sq := sqA (Ex.size b) (Ex.size a)
          have eq : Ex.size a + Ex.size b + 1 = Ex.size b + (Ex.size a) + 1 := by omega
          refine ⟨⟨g.1, g.2.1, n.good⟩, ?_, ?_, ?_⟩
          · simp only [Ex.size]; rw [eq]; omega
          · simp only [Ex.size, Ex.high]; omega
          · simp only [Ex.size, dv]; omega
        | stuck s => rw [w] at h; cases h
        | over => rw [w] at h; cases h
    · cases w : nextS B a with
      | nx y =>
        rw [w] at h
        cases h
        have n := ia y g.2.1 w
        have n1 := n.size
        have n2 := n.high
        have n3 := n.dv
        have sq := sqA (Ex.size a) (Ex.size b)
        have eq : Ex.size a + Ex.size b + 1 = Ex.size a + (Ex.size b) + 1 := by omega
        refine ⟨⟨g.1, n.good, g.2.2⟩, ?_, ?_, ?_⟩
        · simp only [Ex.size]; rw [eq]; omega
        · simp only [Ex.size, Ex.high]; omega
        · simp only [Ex.size, dv]; omega
      | stuck s => rw [w] at h; cases h
      | over => rw [w] at h; cases h
  | lt x a b ia ib =>
    intro e' g h
    rw [nextS_lt] at h
    have ra := high_le a
    have da := dv_high a
    have za := size_pos a
    have rb := high_le b
    have db := dv_high b
    have zb := size_pos b
    split at h
    · rename_i qa
      cases h; exact nice_put g.2.1 g.2.2 (by simp only [Ex.size]; omega)
    · cases w : nextS B a with
      | nx y =>
        rw [w] at h
        cases h
        have n := ia y g.2.1 w
        have n1 := n.size
        have n2 := n.high
        have n3 := n.dv
        have sq := sqA (Ex.size a) (Ex.size b)
        have eq : Ex.size a + Ex.size b + 1 = Ex.size a + (Ex.size b) + 1 := by omega
        refine ⟨⟨g.1, n.good, g.2.2⟩, ?_, ?_, ?_⟩
        · simp only [Ex.size]; rw [eq]; omega
        · simp only [Ex.size, Ex.high]; omega
        · simp only [Ex.size, dv]; omega
      | stuck s => rw [w] at h; cases h
      | over => rw [w] at h; cases h
  | ite c a b ic ia ib =>
    intro e' g h
    rw [nextS_ite] at h
    have rc := high_le c
    have dc := dv_high c
    have zc := size_pos c
    have ra := high_le a
    have da := dv_high a
    have za := size_pos a
    have rb := high_le b
    have db := dv_high b
    have zb := size_pos b
    split at h
    · rename_i qc
      exact ite_nice g.2.1 g.2.2 h (by simp only [Ex.size]; omega)
    · cases w : nextS B c with
      | nx y =>
        rw [w] at h
        cases h
        have n := ic y g.1 w
        have n1 := n.size
        have n2 := n.high
        have n3 := n.dv
        have sq := sqA (Ex.size c) (Ex.size a + Ex.size b)
        have eq : Ex.size c + Ex.size a + Ex.size b + 1 = Ex.size c + (Ex.size a + Ex.size b) + 1 := by omega
        refine ⟨⟨n.good, g.2.1, g.2.2⟩, ?_, ?_, ?_⟩
        · simp only [Ex.size]; rw [eq]; omega
        · simp only [Ex.size, Ex.high]; omega
        · simp only [Ex.size, dv]; omega
      | stuck s => rw [w] at h; cases h
      | over => rw [w] at h; cases h
  | sel l a ia =>
    intro e' g h
    rw [nextS_sel] at h
    have ra := high_le a
    have da := dv_high a
    have za := size_pos a
    split at h
    · rename_i qa
      exact rec_nice g.2 h (by simp only [Ex.size]; omega)
    · cases w : nextS B a with
      | nx y =>
        rw [w] at h
        cases h
        have n := ia y g.2 w
        have n1 := n.size
        have n2 := n.high
        have n3 := n.dv
        have sq := sqA (Ex.size a) (0)
        have eq : Ex.size a + 1 = Ex.size a + (0) + 1 := by omega
        refine ⟨⟨g.1, n.good⟩, ?_, ?_, ?_⟩
        · simp only [Ex.size]; rw [eq]; omega
        · simp only [Ex.size, Ex.high]; omega
        · simp only [Ex.size, dv]; omega
      | stuck s => rw [w] at h; cases h
      | over => rw [w] at h; cases h
  | drp l a ia =>
    intro e' g h
    rw [nextS_drp] at h
    have ra := high_le a
    have da := dv_high a
    have za := size_pos a
    split at h
    · rename_i qa
      exact rec_nice g.2 h (by simp only [Ex.size]; omega)
    · cases w : nextS B a with
      | nx y =>
        rw [w] at h
        cases h
        have n := ia y g.2 w
        have n1 := n.size
        have n2 := n.high
        have n3 := n.dv
        have sq := sqA (Ex.size a) (0)
        have eq : Ex.size a + 1 = Ex.size a + (0) + 1 := by omega
        refine ⟨⟨g.1, n.good⟩, ?_, ?_, ?_⟩
        · simp only [Ex.size]; rw [eq]; omega
        · simp only [Ex.size, Ex.high]; omega
        · simp only [Ex.size, dv]; omega
      | stuck s => rw [w] at h; cases h
      | over => rw [w] at h; cases h
  | name x =>
    intro e' g h
    rw [nextS_name] at h
    exact name_nice hB h
  | _ => intro e' g h; cases h
/-- what a turn of the law may meet -/
structure Fit (e : Ex) : Prop where
  good : Ex.Good e
  size : Ex.size e ≤ 100000
  high : Ex.high e ≤ 600
  dv : dv e ≤ 600
theorem Nice.fit {s : Nat} {e : Ex} (n : Nice s e) (h : s ≤ 300) : Fit e := by
  have h1 := n.size
  have h2 := n.high
  have h3 := n.dv
  have m : s * s ≤ 300 * 300 := Nat.mul_le_mul h h
  exact ⟨n.good, by omega, by omega, by omega⟩
theorem fit_small {e : Ex} (g : Ex.Good e) (h : Ex.size e ≤ 300) : Fit e := (nice_sub g (Nat.le_refl _)).fit h
theorem Fit.next {B : List (Str × Ex)} (hB : BookG B) {e e' : Ex} (f : Fit e) (hs : ¬ 300 < Ex.size e) (h : nextS B e = .nx e') : Fit e' := (next_nice hB e e' f.good h).fit (by omega)
/-! ### repr of what is told -/
theorem rep_big {e : Ex} (f : Fit e) (st : Sto) : oRepr [enc e] st = .ok (.str (py e).shown) st := by
  obtain ⟨ds, q⟩ := enc_seq e
  have h := shown_py e f.good
  have hh := f.high
  have hs := f.size
  exact repr_big (fine_py e f.good) (toPyS_enc e st) (by rw [q]; rfl) (by omega) (by rw [sizeLine_eq]; omega)
theorem rep_next {e : Ex} (f : Fit e) (st : Sto) : oRepr [.tup [.str "next", enc e]] st = .ok (.str (PyData.shown (.tuple [.str "next", py e]))) st := by
  have h := shown_py e f.good
  have hh := f.high
  have hs := f.size
  have tp : toPyS st (.tup [.str "next", enc e]) = some (.tuple [.str "next", py e]) := by simp [toPyS, toPy, toPys, toPy_enc]
  have fn : Fine (.tuple [.str "next", py e]) (Ex.high e + 2) (16 + 1 + (128 * Ex.size e + 1 + 0)) := (FineAll.cons (Fine.str wT) (FineAll.cons (fine_py e f.good) FineAll.nil)).tup
  have tl := tup_len [.str "next", py e]
  have t1 : (PyData.shown (.str "next")).length = 6 := by decide +kernel
  simp only [PyData.shownAll, List.map_cons, List.map_nil, List.sum_cons, List.sum_nil, List.length_cons, List.length_nil, t1] at tl
  exact repr_big fn tp rfl (by omega) (by rw [sizeLine_eq]; omega)
def word (r : Str) : Prop := r = "not a function" ∨ r = "not a number" ∨ r = "not a record" ∨ r = "no such field" ∨ r = "unbound name" ∨ r = "not a truth"
theorem rep_stuck {r : Str} (h : wordS r) (st : Sto) : ∃ x, oRepr [.tup [.str "stuck", .str r]] st = .ok (.str x) st := by
  have fn : Fine (.tuple [.str "stuck", .str r]) 2 (16 + 1 + (16 + 1 + 0)) := (FineAll.cons (Fine.str wT) (FineAll.cons (Fine.str (h := 1) h) FineAll.nil)).tup
  exact ⟨_, fn.repr rfl rfl (by decide) (by decide)⟩
theorem rep_one {r : Str} (h : wordS r) (st : Sto) : ∃ x, oRepr [.tup [.str r]] st = .ok (.str x) st := by
  have fn : Fine (.tuple [.str r]) 2 (16 + 1 + 0) := (FineAll.cons (Fine.str (h := 1) h) FineAll.nil).tup
  exact ⟨_, fn.repr rfl rfl (by decide) (by decide)⟩
end K16
set_option Elab.async false
set_option linter.all false
set_option maxHeartbeats 4000000
set_option maxRecDepth 100000
namespace K16
open PySem PySem.Spec PyProof.Rows L2 LamX DL DL.Ex
/-! ### the words of a step that is stuck -/
theorem rec_word {b : Bool} {l : Str} {a : Ex} {s : Str} (h : recS b l a = .stuck s) : wordS s := by
  unfold recS at h
  split at h
  · cases q : parts (rst l a) with
    | none => rw [q] at h; cases h; exact wT
    | some p => rw [q] at h; cases h
  · cases h; exact wT
theorem own_word {B : List (Str × Ex)} : ∀ (e : Ex) (s : Str), ownS B e = .stuck s → wordS s := by
  intro e s h
  cases e with
  | name x =>
    rw [ownS_name] at h
    cases q : B.lookup x with
    | none => rw [q] at h; cases h; exact wT
    | some e => rw [q] at h; cases h
  | call a b =>
    rw [ownS_call] at h
    cases a <;> cases h <;> exact wT
  | op o a b =>
    rw [ownS_op] at h
    unfold opS at h
    split at h
    · unfold opN at h
      split at h
      · cases h
      · split at h
        · cases h
        · split at h <;> cases h
    · cases h; exact wT
  | ite c a b => cases c <;> cases h <;> exact wT
  | ext l a b => cases h; exact wT
  | sel l a => exact rec_word h
  | drp l a => exact rec_word h
  | _ => cases h
theorem ctx_stuck {f : Ex → Ex} {r : Res} {s : Str} (h : ctx f r = .stuck s) : r = .stuck s := by cases r <;> cases h; rfl
theorem stuck_word {B : List (Str × Ex)} : ∀ (e : Ex) (s : Str), nextS B e = .stuck s → wordS s := by
  intro e
  induction e with
  | call a b ia ib =>
    intro s h
    rw [nextS_call] at h
    split at h
    · split at h
      · exact own_word _ _ h
      · exact ib _ (ctx_stuck h)
    · exact ia _ (ctx_stuck h)
  | op o a b ia ib =>
    intro s h
    rw [nextS_op] at h
    split at h
    · split at h
      · exact own_word _ _ h
      · exact ib _ (ctx_stuck h)
    · exact ia _ (ctx_stuck h)
  | ext l a b ia ib =>
    intro s h
    rw [nextS_ext] at h
    split at h
    · split at h
      · exact own_word _ _ h
      · exact ib _ (ctx_stuck h)
    · exact ia _ (ctx_stuck h)
  | lt x a b ia ib =>
    intro s h
    rw [nextS_lt] at h
    split at h
    · exact own_word _ _ h
    · exact ia _ (ctx_stuck h)
  | ite c a b ic ia ib =>
    intro s h
    rw [nextS_ite] at h
    split at h
    · exact own_word _ _ h
    · exact ic _ (ctx_stuck h)
  | sel l a ia =>
    intro s h
    rw [nextS_sel] at h
    split at h
    · exact own_word _ _ h
    · exact ia _ (ctx_stuck h)
  | drp l a ia =>
    intro s h
    rw [nextS_drp] at h
    split at h
    · exact own_word _ _ h
    · exact ia _ (ctx_stuck h)
  | name x => intro s h; exact own_word _ _ h
  | _ => intro s h; cases h
theorem told_rep {B : List (Str × Ex)} (hB : BookG B) {e : Ex} (f : Fit e) (st : Sto) : ∃ x, oRepr [told B e] st = .ok (.str x) st := by
  unfold told
  split
  · exact rep_one wT st
  · split
    · exact rep_one wT st
    · rename_i hs
      cases w : nextS B e with
      | nx e' => exact ⟨_, rep_next (f.next hB hs w) st⟩
      | stuck s => exact rep_stuck (stuck_word e s w) st
      | over => exact rep_one wT st
/-! ### the law's nodes -/
def nds : Ex → List Ex
  | .name x => [.name x] | .num i => [.num i] | .tru t => [.tru t] | .emp => [.emp]
  | .fn x b => .fn x b :: nds b
  | .rc f x b => .rc f x b :: nds b
  | .call a b => .call a b :: (nds a ++ nds b)
  | .lt x a b => .lt x a b :: (nds a ++ nds b)
  | .ite a b c => .ite a b c :: (nds a ++ (nds b ++ nds c))
  | .op o a b => .op o a b :: (nds a ++ nds b)
  | .ext l a b => .ext l a b :: (nds a ++ nds b)
  | .sel l a => .sel l a :: nds a
  | .drp l a => .drp l a :: nds a
theorem nds_eq (e : Ex) : nds e = e :: (kids e).flatMap nds := by cases e <;> simp [nds, kids]
theorem nds_len : ∀ e : Ex, (nds e).length = Ex.size e := by
  intro e
  induction e <;> simp only [nds, Ex.size, List.length_cons, List.length_append, List.length_nil] <;> omega
theorem nds_mem : ∀ (k : Nat) (e : Ex), Ex.size e ≤ k → Ex.Good e → ∀ n ∈ nds e, Ex.Good n ∧ Ex.size n ≤ Ex.size e := by
  intro k
  induction k with
  | zero => intro e h; have := size_pos e; omega
  | succ k ih =>
    intro e h g n hn
    rw [nds_eq] at hn
    rcases List.mem_cons.mp hn with rfl | hn
    · exact ⟨g, Nat.le_refl _⟩
    · obtain ⟨c, hc, hn⟩ := List.mem_flatMap.mp hn
      have hk := kids_high e c hc
      obtain ⟨h1, h2⟩ := ih c (by omega) (good_kids g c hc) n hn
      exact ⟨h1, by omega⟩
/-! ### what the law draws -/
def scA : List (Str × Str) := [("aa", "fun"), ("bb", "number")]
def scB : List (Str × Str) := [("bb", "number")]
theorem scA_ok {p : Nat} (h : p ≤ 400) : ScOk scA p := ⟨by
  intro q hq
  simp only [scA, List.mem_cons, List.mem_nil_iff, or_false] at hq
  rcases hq with rfl | rfl <;> exact wS, by simp only [scA, List.length_cons, List.length_nil]; omega⟩
theorem scB_ok {p : Nat} (h : p ≤ 400) : ScOk scB p := ⟨by
  intro q hq
  simp only [scB, List.mem_cons, List.mem_nil_iff, or_false] at hq
  subst hq
  exact wS, by simp only [scB, List.length_cons, List.length_nil]; omega⟩
theorem scN_ok {p : Nat} (h : p ≤ 400) : ScOk [] p := ⟨(by intro q hq; cases hq), (by simp only [List.length_nil]; omega)⟩
theorem den_bk (k : Nat) (ds : List D) (st : Sto) : den (k + 1) 32 ds st = runB (u__law_book (den k) ini) 3 ds st := rfl
theorem book_ok {k b : Nat} (hk : 20 ≤ k) {st : Sto} (B : Box st b) : ∃ Bk st', den (k + 3) 32 [.obj b] st = .ok (bkD Bk) st' ∧ BookG Bk ∧ Box st' b := by
  have hf : HF (den (k + 2)) b 3 := fun_ok (gen_ok b 3 (k + 1) (by omega))
  obtain ⟨e1, l1, s1, h1, g1, p1, z1, I1⟩ := hf scA st.length 6 _ (by decide) (scA_ok (by decide)) (inv_new B 6)
  have B1 := I1.box
  obtain ⟨e2, l2, s2, h2, g2, p2, z2, I2⟩ := gen_ok b 1 (k + 2) (by omega) scB "number" s1.length 4 _ (by decide) (scB_ok (by decide)) (inv_new B1 4)
  have B2 := I2.box
  obtain ⟨r, s3, h3, a3, b3, k3⟩ := dr_ok B2 (k + 1) 3 (by decide)
  have q6 : pos 6 = 3 := rfl
  have q4 : pos 4 = 1 := rfl
  rw [q6] at p1 z1
  rw [q4] at p2 z2
  simp only [encSc, scA, scB, List.map_cons, List.map_nil] at h1 h2
  have c : r = 0 ∨ r = 1 ∨ r = 2 := by omega
  rw [den_bk]
  rcases c with rfl | rfl | rfl
  · refine ⟨[(("aa" : Str), e1), (("bb" : Str), e2)], s3, ?_, ⟨.inr (.inr ⟨e1, e2, rfl⟩), ?_, ?_⟩, k3.box⟩
    · have hs : opSlB (.ktup [.tup [.str "aa", enc e1], .tup [.str "bb", enc e2]]) (some 0) none s3 = .ok (.ktup [.tup [.str "aa", enc e1], .tup [.str "bb", enc e2]]) s3 := rfl
      simp (decide := true) -implicitDefEqProofs [runB_eq, u__law_book, List.replicate, h1, h2, h3, fSlB, fTupB, sizeLine_eq, hs, bkD]
    · intro p hp
      simp only [List.mem_cons, List.mem_nil_iff, or_false] at hp
      rcases hp with rfl | rfl
      · exact g1
      · exact g2
    · intro p hp
      simp only [List.mem_cons, List.mem_nil_iff, or_false] at hp
      rcases hp with rfl | rfl
      · show Ex.size e1 ≤ 40; omega
      · show Ex.size e2 ≤ 40; omega
  · refine ⟨[(("bb" : Str), e2)], s3, ?_, ⟨.inr (.inl ⟨e2, rfl⟩), ?_, ?_⟩, k3.box⟩
    · have hs : opSlB (.ktup [.tup [.str "aa", enc e1], .tup [.str "bb", enc e2]]) (some 1) none s3 = .ok (.ktup [.tup [.str "bb", enc e2]]) s3 := rfl
      simp (decide := true) -implicitDefEqProofs [runB_eq, u__law_book, List.replicate, h1, h2, h3, fSlB, fTupB, sizeLine_eq, hs, bkD]
    · intro p hp
      rw [List.mem_singleton] at hp
      subst hp
      exact g2
    · intro p hp
      rw [List.mem_singleton] at hp
      subst hp
      show Ex.size e2 ≤ 40; omega
  · refine ⟨[], s3, ?_, ⟨.inl rfl, by simp, by simp⟩, k3.box⟩
    have hs : opSlB (.ktup [.tup [.str "aa", enc e1], .tup [.str "bb", enc e2]]) (some 2) none s3 = .ok (.ktup []) s3 := rfl
    simp (decide := true) -implicitDefEqProofs [runB_eq, u__law_book, List.replicate, h1, h2, h3, fSlB, fTupB, sizeLine_eq, hs, bkD]
def moreE : Ex := .ext "z" (.name "n") (.ext "x" (.name "n") (.name "n"))
theorem den_gr (k : Nat) (ds : List D) (st : Sto) : den (k + 1) 34 ds st = runB (u__law_great (den k) ini) 7 ds st := rfl
structure GrP (b : Nat) (o0 o1 o2 o3 : Option D) (s0 : Sto) (i : Nat) (τ : Ti) (st : Sto) : Prop where
  ex : ∃ (e : Ex) (o6 : Option D), τ = [o0, o1, o2, o3, some (enc moreE), some (enc e), o6] ∧ st = s0 ∧ Ex.Good e ∧ Ex.size e ≤ 8 * i + 1
theorem great_ok {k b : Nat} {st : Sto} (B : Box st b) : ∃ e st', den (k + 2) 34 [.obj b] st = .ok (enc e) st' ∧ Ex.Good e ∧ Ex.size e ≤ 60 ∧ Box st' b := by
  obtain ⟨r, s1, h1, a1, b1, k1⟩ := dr_ok B k 5 (by decide)
  have gm : Ex.Good moreE := ⟨wS, wS, wS, wS, wS⟩
  rw [den_gr]
  have c : r = 0 ∨ r = 1 ∨ r = 2 ∨ r = 3 ∨ r = 4 := by omega
  rcases c with rfl | rfl | rfl | rfl | rfl
  · refine ⟨.call (.rc "f" "n" (.op "+" (.call (.name "f") (.name "n")) (.call (.name "f") (.name "n")))) (.num 0), s1, ?_, ⟨⟨wS, wS, wS, ⟨wS, wS⟩, wS, wS⟩, by show (0 : Int).natAbs < _; decide⟩, by decide, k1.box⟩
    simp (decide := true) -implicitDefEqProofs [runB_eq, u__law_great, List.replicate, h1, enc]
  · refine ⟨.call (.rc "f" "n" (.call (.name "f") moreE)) .emp, s1, ?_, ⟨⟨wS, wS, wS, gm⟩, trivial⟩, by decide, k1.box⟩
    simp (decide := true) -implicitDefEqProofs [runB_eq, u__law_great, List.replicate, h1, enc, moreE]
  · obtain ⟨q, s2, h2, a2, b2, k2⟩ := dr_ok k1.box k 3 (by decide)
    have hm : ∃ m : Nat, 4 + q = (m : Nat) ∧ m ≤ 6 := ⟨(4 + q).toNat, by omega, by omega⟩
    obtain ⟨m, hm, hm6⟩ := hm
    have kr : kRng1 (.int (4 + q)) s2 = .ok (.imm (runD 0 m)) s2 := by
      have cq : q = 0 ∨ q = 1 ∨ q = 2 := by omega
      rcases cq with rfl | rfl | rfl
      · obtain rfl : m = 4 := by omega
        exact kRng1_eq (j := 4) (by decide) s2
      · obtain rfl : m = 5 := by omega
        exact kRng1_eq (j := 5) (by decide) s2
      · obtain rfl : m = 6 := by omega
        exact kRng1_eq (j := 6) (by decide) s2
    obtain ⟨τ', st', h3, h4⟩ := forD_cnt (g := gN 6) (u := sSet 5 (fTup (aCons (fC (.str "call")) (aCons (fTup (aCons (fC (.str "fun")) (aCons (fC (.str "n")) (aCons (fV 4) aNil)))) (aCons (fV 5) aNil)))))
      (P := GrP b (some (.obj b)) (some (.int 2)) none (some (enc (.name "n"))) s2) m (runD 0 m) 0 [some (.obj b), some (.int 2), none, some (enc (.name "n")), some (enc moreE), some (enc .emp), none] s2 (by rw [runD_len]; omega)
      ⟨.emp, none, rfl, rfl, trivial, by decide⟩ (fun i d hi _ τ st1 hP => by
        obtain ⟨e, o6, rfl, rfl, g, z⟩ := hP.ex
        refine ⟨_, _, _, _, gN_eq _ _ _ _, ?_, ⟨.call (.fn "n" moreE) e, some d, rfl, rfl, ⟨⟨wS, gm⟩, g⟩, ?_⟩⟩
        · simp (decide := true) -implicitDefEqProofs [enc]
        · have : Ex.size moreE = 5 := rfl
          simp only [Ex.size]; omega)
    rw [runD_len] at h4
    obtain ⟨e, o6, rfl, rfl, g, z⟩ := h4.ex
    refine ⟨e, _, ?_, g, by omega, k2.box⟩
    simp only [enc, moreE] at h3
    simp (decide := true) -implicitDefEqProofs [runB_eq, u__law_great, List.replicate, h1, h2, kr]
    rw [h3]
    simp
  · obtain ⟨q, s2, h2, a2, b2, k2⟩ := dr_ok k1.box k 2 (by decide)
    obtain ⟨p, s3, h3, a3, b3, k3⟩ := dr_ok k2.box k 3 (by decide)
    refine ⟨.op "+" (.num (999998 + q)) (.num p), s3, ?_, ⟨wS, (by show (999998 + q).natAbs < _; omega), (by show p.natAbs < _; omega)⟩, (by simp [Ex.size]), k3.box⟩
    simp (decide := true) -implicitDefEqProofs [runB_eq, u__law_great, List.replicate, h1, h2, h3, enc]
  · obtain ⟨q, s2, h2, a2, b2, k2⟩ := dr_ok k1.box k 3 (by decide)
    obtain ⟨p, s3, h3, a3, b3, k3⟩ := dr_ok k2.box k 3 (by decide)
    refine ⟨.op "-" (.num q) (.num p), s3, ?_, ⟨wS, (by show q.natAbs < _; omega), (by show p.natAbs < _; omega)⟩, (by simp [Ex.size]), k3.box⟩
    simp (decide := true) -implicitDefEqProofs [runB_eq, u__law_great, List.replicate, h1, h2, h3, enc]
theorem den_ru (k : Nat) (ds : List D) (st : Sto) : den (k + 1) 35 ds st = runB (u__law_running (den k) ini) 4 ds st := rfl
theorem oLen_ktup (ds : List D) (st : Sto) : oLen [.ktup ds] st = .ok (.int (ds.length : Nat)) st := rfl
theorem run_ok {k b : Nat} (hk : 24 ≤ k) {Bk : List (Str × Ex)} (hB : BookOk Bk) {st : Sto} (B : Box st b) : ∃ e st', den (k + 2) 35 [.obj b, bkD Bk] st = .ok (enc e) st' ∧ Ex.Good e ∧ Ex.size e ≤ 60 ∧ Box st' b := by
  obtain ⟨r, s1, h1, a1, b1, k1⟩ := dr_ok B k 8 (by decide)
  obtain ⟨sc, hsc, hs⟩ : ∃ sc, ScOk sc 9 ∧ opSl (.lv [.tup [.str "aa", .str "fun"], .tup [.str "bb", .str "number"]]) (some (2 - (Bk.length : Nat))) none st = .ok (encSc sc) st := by
    rcases hB with rfl | ⟨e, rfl⟩ | ⟨e1, e2, rfl⟩
    · exact ⟨[], scN_ok (by decide), rfl⟩
    · exact ⟨scB, scB_ok (by decide), rfl⟩
    · exact ⟨scA, scA_ok (by decide), rfl⟩
  have hl : oLen [bkD Bk] st = .ok (.int (Bk.length : Nat)) st := by unfold bkD; rw [oLen_ktup, List.length_map]
  rw [den_ru]
  by_cases c0 : r = 0
  · subst c0
    obtain ⟨e, s2, h2, g, z, B2⟩ := great_ok (k := k - 1) k1.box
    rw [show k - 1 + 2 = k + 1 by omega] at h2
    refine ⟨e, s2, ?_, g, z, B2⟩
    simp (decide := true) -implicitDefEqProofs [runB_eq, u__law_running, List.replicate, hl, hs, h1, h2]
  by_cases c4 : r < 4
  · obtain ⟨e, s2, h2, g, z, B2⟩ := mix_ok hk hsc k1.box 5 (by decide)
    refine ⟨e, s2, ?_, g, by omega, B2⟩
    simp (decide := true) -implicitDefEqProofs [runB_eq, u__law_running, List.replicate, hl, hs, h1, h2, c0, c4]
  · obtain ⟨e, s2, h2, g, z, B2⟩ := top_x (k := k + 1) (by omega) hsc k1.box 12 (by decide)
    have hp : pos 12 = 9 := rfl
    rw [hp] at z
    refine ⟨e, s2, ?_, g, by omega, B2⟩
    simp (decide := true) -implicitDefEqProofs [runB_eq, u__law_running, List.replicate, hl, hs, h1, h2, c0, c4]
end K16
set_option Elab.async false
set_option linter.all false
set_option maxHeartbeats 4000000
set_option maxRecDepth 100000
namespace K16
open PySem PySem.Spec PyProof.Rows L2 LamX DL DL.Ex
theorem box_apps {b : Nat} : ∀ (t : List MO) {st : Sto}, Box st b → Box (st ++ t) b
  | [], st, B => by rw [List.append_nil]; exact B
  | m :: t, st, B => by rw [show st ++ m :: t = (st ++ [m]) ++ t by simp]; exact box_apps t (box_app B m)
def rW (x : Str) : Prop := wordS x ∧ (PyData.shown (.str x)).length ≤ 100
theorem wR {x : Str} (h : rW x := by exact ⟨⟨by decide, by decide⟩, by decide +kernel⟩) : rW x := h
/-- the word of what is told, and the expression behind it -/
def tw (B : List (Str × Ex)) (e : Ex) : Str × Option Ex := if isVal e = true then ("value", none) else if 300 < Ex.size e then ("large", none) else match nextS B e with
  | .nx e' => ("next", some e')
  | .stuck _ => ("stuck", none)
  | .over => ("overflow", none)
theorem tw_ix0 (B : List (Str × Ex)) (e : Ex) (st : Sto) : opIx (told B e) (.int 0) st = .ok (.str (tw B e).1) st := by
  unfold told tw
  by_cases c1 : isVal e = true
  · rw [if_pos c1, if_pos c1]; rfl
  rw [if_neg c1, if_neg c1]
  by_cases c2 : 300 < Ex.size e
  · rw [if_pos c2, if_pos c2]; rfl
  rw [if_neg c2, if_neg c2]
  cases nextS B e <;> rfl
theorem tw_some {B : List (Str × Ex)} {e e' : Ex} (h : (tw B e).2 = some e') : (tw B e).1 = "next" ∧ told B e = .tup [.str "next", enc e'] ∧ nextS B e = .nx e' ∧ ¬ 300 < Ex.size e := by
  unfold tw at h
  unfold tw told
  by_cases c1 : isVal e = true
  · rw [if_pos c1] at h; cases h
  rw [if_neg c1] at h
  rw [if_neg c1, if_neg c1]
  by_cases c2 : 300 < Ex.size e
  · rw [if_pos c2] at h; cases h
  rw [if_neg c2] at h
  rw [if_neg c2, if_neg c2]
  cases q : nextS B e with
  | nx e2 => rw [q] at h; cases h; exact ⟨rfl, rfl, rfl, c2⟩
  | stuck s => rw [q] at h; cases h
  | over => rw [q] at h; cases h
theorem tw_none {B : List (Str × Ex)} {e : Ex} (h : (tw B e).2 = none) : (tw B e).1 ≠ "next" ∧ rW (tw B e).1 := by
  unfold tw at h
  unfold tw
  by_cases c1 : isVal e = true
  · rw [if_pos c1]; exact ⟨by decide, wR⟩
  rw [if_neg c1] at h
  rw [if_neg c1]
  by_cases c2 : 300 < Ex.size e
  · rw [if_pos c2]; exact ⟨by decide, wR⟩
  rw [if_neg c2] at h
  rw [if_neg c2]
  cases q : nextS B e with
  | nx e2 => rw [q] at h; cases h
  | stuck s => exact (⟨by decide, wR⟩ : ("stuck" : Str) ≠ "next" ∧ rW "stuck")
  | over => exact (⟨by decide, wR⟩ : ("overflow" : Str) ≠ "next" ∧ rW "overflow")
/-- up to n steps: what it comes to, how many were made, the expression behind them -/
def runS (B : List (Str × Ex)) : Nat → Ex → Str × Nat × Ex
  | n, e => match (tw B e).2 with
    | none => ((tw B e).1, 0, e)
    | some e' => match n with
      | 0 => ("more", 0, e)
      | n + 1 => ((runS B n e').1, (runS B n e').2.1 + 1, (runS B n e').2.2)
theorem runS_none {B : List (Str × Ex)} {e : Ex} (h : (tw B e).2 = none) (n : Nat) : runS B n e = ((tw B e).1, 0, e) := by unfold runS; rw [h]
theorem runS_zero {B : List (Str × Ex)} {e e' : Ex} (h : (tw B e).2 = some e') : runS B 0 e = (("more" : Str), 0, e) := by unfold runS; rw [h]
theorem runS_succ {B : List (Str × Ex)} {e e' : Ex} (h : (tw B e).2 = some e') (n : Nat) : runS B (n + 1) e = ((runS B n e').1, (runS B n e').2.1 + 1, (runS B n e').2.2) := by rw [runS, h]
theorem runS_le {B : List (Str × Ex)} : ∀ (n : Nat) (e : Ex), (runS B n e).2.1 ≤ n := by
  intro n
  induction n with
  | zero =>
    intro e
    cases h : (tw B e).2 with
    | none => rw [runS_none h]; exact Nat.le_refl _
    | some e' => rw [runS_zero h]; exact Nat.le_refl _
  | succ n ih =>
    intro e
    cases h : (tw B e).2 with
    | none => rw [runS_none h]; exact Nat.zero_le _
    | some e' => rw [runS_succ h]; have := ih e'; show (runS B n e').2.1 + 1 ≤ n + 1; omega
theorem runS_fit {B : List (Str × Ex)} (hB : BookG B) : ∀ (n : Nat) (e : Ex), Fit e → Fit (runS B n e).2.2 ∧ rW (runS B n e).1 := by
  intro n
  induction n with
  | zero =>
    intro e f
    cases h : (tw B e).2 with
    | none => rw [runS_none h]; exact ⟨f, (tw_none h).2⟩
    | some e' => rw [runS_zero h]; exact (⟨f, wR⟩ : Fit e ∧ rW "more")
  | succ n ih =>
    intro e f
    cases h : (tw B e).2 with
    | none => rw [runS_none h]; exact ⟨f, (tw_none h).2⟩
    | some e' =>
      obtain ⟨_, _, h1, h2⟩ := tw_some h
      rw [runS_succ h]
      exact ih e' (f.next hB h2 h1)
theorem runS_cut {B : List (Str × Ex)} : ∀ (a n : Nat) (e : Ex), a ≤ n → runS B n e = ((runS B (n - (runS B a e).2.1) (runS B a e).2.2).1, (runS B a e).2.1 + (runS B (n - (runS B a e).2.1) (runS B a e).2.2).2.1, (runS B (n - (runS B a e).2.1) (runS B a e).2.2).2.2) := by
  intro a
  induction a with
  | zero =>
    intro n e _
    cases h : (tw B e).2 with
    | none => rw [runS_none h 0]; simp only [Nat.sub_zero]; rw [runS_none h n]; simp
    | some e' => rw [runS_zero h]; simp
  | succ a ih =>
    intro n e hn
    cases h : (tw B e).2 with
    | none => rw [runS_none h (a + 1)]; simp only [Nat.sub_zero]; rw [runS_none h n]; simp
    | some e' =>
      obtain ⟨n, rfl⟩ : ∃ j, n = j + 1 := ⟨n - 1, by omega⟩
      have i := ih n e' (by omega)
      rw [runS_succ h a, runS_succ h n]
      simp only [Nat.add_sub_add_right]
      rw [i]
      simp only [Prod.mk.injEq, true_and, and_true]
      omega
def encT (r : Str × Nat × Ex) : D := .tup [.str r.1, .int (r.2.1 : Nat), enc r.2.2]
theorem rep_run {w : Str} {m : Nat} {e : Ex} (hw : rW w) (hm : m ≤ 1000) (f : Fit e) (st : Sto) : ∃ x, oRepr [encT (w, m, e)] st = .ok (.str x) st := by
  have h := shown_py e f.good
  have hh := f.high
  have hs := f.size
  have tp : toPyS st (encT (w, m, e)) = some (.tuple [.str w, .int (m : Nat), py e]) := by simp [encT, toPyS, toPy, toPys, toPy_enc]
  have sm : shortI (m : Nat) := by unfold shortI; omega
  have fw : Fine (.str w) (Ex.high e + 1) 16 := Fine.str hw.1
  have fi : Fine (.int (m : Nat)) (Ex.high e + 1) 64 := Fine.int sm
  have fn : Fine (.tuple [.str w, .int (m : Nat), py e]) (Ex.high e + 2) (16 + 1 + (64 + 1 + (128 * Ex.size e + 1 + 0))) := (FineAll.cons fw (FineAll.cons fi (FineAll.cons (fine_py e f.good) FineAll.nil))).tup
  have tl := tup_len [.str w, .int (m : Nat), py e]
  have t1 := hw.2
  have t2 := int_len sm
  simp only [PyData.shownAll, List.map_cons, List.map_nil, List.sum_cons, List.sum_nil, List.length_cons, List.length_nil] at tl
  exact ⟨_, repr_big fn tp rfl (by omega) (by rw [sizeLine_eq]; omega)⟩
/-! ### the program -/
abbrev ruT : FB := bTru (fC (.bl true))
def ruU (F : Nat → Fn) : FS := (sSeq (sSet 4 (fCallN 2 (F 11) (aCons (fV 0) (aCons (fV 1) aNil))))
  (sSeq (sIf (bOf (fOp opNe (fOp opIx (fV 4) (fC (.int 0))) (fC (.str "next"))))
  (sRet (fTup (aCons (fOp opIx (fV 4) (fC (.int 0))) (aCons (fV 3) (aCons (fV 0) aNil)))))
  sNil)
  (sSeq (sIf (bOf (fOp opEq (fV 3) (fV 2)))
  (sRet (fTup (aCons (fC (.str "more")) (aCons (fV 3) (aCons (fV 0) aNil)))))
  sNil)
  (sSeq (sSet 0 (fOp opIx (fV 4) (fC (.int 1))))
  (sAug 3 (· + ·) (fC (.int 1)))))))
theorem ru_loop {B : List (Str × Ex)} (hB : BookG B) {k : Nat} (hk : 615 ≤ k) : ∀ (n : Nat) (e : Ex) (made N : Nat) (o4 : Option D) (st : Sto), Fit e → n + 1 ≤ N →
    ∃ t, whileD ruT (ruU (den (k + 1))) N [some (enc e), some (bkD B), some (.int ((made + n : Nat) : Int)), some (.int (made : Nat)), o4] st = .ok (.rt (.tup [.str (runS B n e).1, .int ((made + (runS B n e).2.1 : Nat) : Int), enc (runS B n e).2.2])) (st ++ t) := by
  intro n
  induction n with
  | zero =>
    intro e made N o4 st f hN
    obtain ⟨N, rfl⟩ : ∃ j, N = j + 1 := ⟨N - 1, by omega⟩
    have fd := f.dv
    have fh := f.high
    obtain ⟨t, h1⟩ := step_ok hB.ok (e := e) (k := k) (by omega) (by omega) f.size hk st
    have i0 := tw_ix0 B e (st ++ t)
    refine ⟨t, ?_⟩
    rw [whileD_succ]
    unfold ruU
    cases h : (tw B e).2 with
    | none =>
      obtain ⟨h2, _⟩ := tw_none h
      rw [runS_none h]
      simp (decide := true) -implicitDefEqProofs [h1, i0, h2]
    | some e' =>
      obtain ⟨h2, h3, _, _⟩ := tw_some h
      rw [h2] at i0
      rw [runS_zero h]
      simp (decide := true) -implicitDefEqProofs [h1, i0]
  | succ n ih =>
    intro e made N o4 st f hN
    obtain ⟨N, rfl⟩ : ∃ j, N = j + 1 := ⟨N - 1, by omega⟩
    have fd := f.dv
    have fh := f.high
    obtain ⟨t, h1⟩ := step_ok hB.ok (e := e) (k := k) (by omega) (by omega) f.size hk st
    have i0 := tw_ix0 B e (st ++ t)
    cases h : (tw B e).2 with
    | none =>
      obtain ⟨h2, _⟩ := tw_none h
      refine ⟨t, ?_⟩
      rw [whileD_succ]
      unfold ruU
      rw [runS_none h]
      simp (decide := true) -implicitDefEqProofs [h1, i0, h2]
    | some e' =>
      obtain ⟨h2, h3, h4, h5⟩ := tw_some h
      obtain ⟨t2, h6⟩ := ih e' (made + 1) N (some (told B e)) (st ++ t) (f.next hB h5 h4) (by omega)
      have i1 : opIx (told B e) (.int 1) (st ++ t) = .ok (enc e') (st ++ t) := by rw [h3]; rfl
      have ne : ((made : Nat) : Int) ≠ ((made + (n + 1) : Nat) : Int) := by omega
      have hb : ruU (den (k + 1)) [some (enc e), some (bkD B), some (.int ((made + (n + 1) : Nat) : Int)), some (.int (made : Nat)), o4] st = .ok (.nx [some (enc e'), some (bkD B), some (.int ((made + 1 + n : Nat) : Int)), some (.int ((made + 1 : Nat) : Int)), some (told B e)]) (st ++ t) := by
        rw [h2] at i0
        unfold ruU
        have ea : made + (n + 1) = made + 1 + n := by omega
        rw [ea] at ne ⊢
        have sa : sAug 3 (· + ·) (fC (.int 1)) [some (enc e'), some (bkD B), some (.int ((made + 1 + n : Nat) : Int)), some (.int (made : Nat)), some (told B e)] (st ++ t) = .ok (.nx [some (enc e'), some (bkD B), some (.int ((made + 1 + n : Nat) : Int)), some (.int ((made + 1 : Nat) : Int)), some (told B e)]) (st ++ t) := rfl
        simp (decide := true) -implicitDefEqProofs only [sSeq_eq, sSet_eq, fCallN_eq, aCons_eq, aNil_eq, fV_0, fV_1, fV_2, fV_3, fV_4, fC_eq, bind_ok]
        simp (decide := true) -implicitDefEqProofs [h1, i0, i1, ne, -Int.natCast_add]
        first | exact sa | simpa using sa
      refine ⟨t ++ t2, ?_⟩
      rw [whileD_succ, runS_succ h]
      rw [show ruT [some (enc e), some (bkD B), some (.int ((made + (n + 1) : Nat) : Int)), some (.int (made : Nat)), o4] st = .ok true st from rfl, bind_ok, kWhile_t, hb, bind_ok, kTurn2_nx, h6, List.append_assoc]
      have ez : made + 1 + (runS B n e').2.1 = made + ((runS B n e').2.1 + 1) := by omega
      rw [ez]
theorem den_rn (k : Nat) (ds : List D) (st : Sto) : den (k + 1) 12 ds st = runB (u_run (den k) ini) 5 ds st := rfl
theorem prun_ok {B : List (Str × Ex)} (hB : BookG B) {k : Nat} (hk : 615 ≤ k) {e : Ex} (f : Fit e) (n : Nat) (hn : n ≤ 1000) (st : Sto) : ∃ t, den (k + 2) 12 [enc e, bkD B, .int (n : Nat)] st = .ok (encT (runS B n e)) (st ++ t) := by
  obtain ⟨t, h⟩ := ru_loop hB hk n e 0 forMost none st f (by unfold forMost; omega)
  refine ⟨t, ?_⟩
  rw [Nat.zero_add, Nat.zero_add] at h
  unfold ruU at h
  rw [den_rn, runB_eq]
  unfold u_run
  show (sSeq _ _ [some (enc e), some (bkD B), some (.int (n : Nat)), none, none] st).bind kRun = _
  rw [sSeq_eq, show sSet 3 (fC (.int 0)) [some (enc e), some (bkD B), some (.int (n : Nat)), none, none] st = .ok (.nx [some (enc e), some (bkD B), some (.int (n : Nat)), some (.int ((0 : Nat) : Int)), none]) st from rfl, bind_ok, kSeq_nx, h]
  rfl
/-! ### the law's own -/
def lrnU (F : Nat → Fn) : FS := (sSeq (sSet 4 (fCallN 2 (F 31) (aCons (fV 0) (aCons (fV 1) aNil))))
  (sSeq (sIf (bOf (fOp opNe (fOp opIx (fV 4) (fC (.int 0))) (fC (.str "next"))))
  (sRet (fTup (aCons (fOp opIx (fV 4) (fC (.int 0))) (aCons (fV 3) (aCons (fV 0) aNil)))))
  sNil)
  (sSeq (sIf (bOf (fOp opEq (fV 3) (fV 2)))
  (sRet (fTup (aCons (fC (.str "more")) (aCons (fV 3) (aCons (fV 0) aNil)))))
  sNil)
  (sSet 0 (fOp opIx (fV 4) (fC (.int 1)))))))
theorem runD_cons (made n : Nat) : runD ((made : Nat) : Int) (n + 1) = .int (made : Nat) :: runD ((made + 1 : Nat) : Int) n := by
  unfold runD
  rw [List.range_succ_eq_map, List.map_cons, List.map_map]
  rw [List.cons.injEq]
  refine ⟨by simp, List.map_congr_left fun i _ => ?_⟩
  simp only [Function.comp]
  congr 1
  omega
theorem lr_loop2 {B : List (Str × Ex)} (hB : BookG B) {k : Nat} (hk : 615 ≤ k) : ∀ (n : Nat) (e : Ex) (made : Nat) (o3 o4 : Option D) (st : Sto), Fit e →
    ∃ t, forD (gN 3) (lrnU (den (k + 1))) (runD ((made : Nat) : Int) (n + 1)) [some (enc e), some (bkD B), some (.int ((made + n : Nat) : Int)), o3, o4] st = .ok (.rt (.tup [.str (runS B n e).1, .int ((made + (runS B n e).2.1 : Nat) : Int), enc (runS B n e).2.2])) (st ++ t) := by
  intro n
  induction n with
  | zero =>
    intro e made o3 o4 st f
    have fh := f.high
    obtain ⟨t, h1⟩ := stepped_ok hB.ok hB.good f.good (e := e) (k := k) (by omega) f.size hk st
    have i0 := tw_ix0 B e (st ++ t)
    refine ⟨t, ?_⟩
    rw [runD_cons, forD_cons]
    unfold lrnU
    cases h : (tw B e).2 with
    | none =>
      obtain ⟨h2, _⟩ := tw_none h
      rw [runS_none h]
      simp (decide := true) -implicitDefEqProofs [h1, i0, h2]
    | some e' =>
      obtain ⟨h2, h3, _, _⟩ := tw_some h
      rw [h2] at i0
      rw [runS_zero h]
      simp (decide := true) -implicitDefEqProofs [h1, i0]
  | succ n ih =>
    intro e made o3 o4 st f
    have fh := f.high
    obtain ⟨t, h1⟩ := stepped_ok hB.ok hB.good f.good (e := e) (k := k) (by omega) f.size hk st
    have i0 := tw_ix0 B e (st ++ t)
    cases h : (tw B e).2 with
    | none =>
      obtain ⟨h2, _⟩ := tw_none h
      refine ⟨t, ?_⟩
      rw [runD_cons, forD_cons]
      unfold lrnU
      rw [runS_none h]
      simp (decide := true) -implicitDefEqProofs [h1, i0, h2]
    | some e' =>
      obtain ⟨h2, h3, h4, h5⟩ := tw_some h
      obtain ⟨t2, h6⟩ := ih e' (made + 1) (some (.int (made : Nat))) (some (told B e)) (st ++ t) (f.next hB h5 h4)
      have i1 : opIx (told B e) (.int 1) (st ++ t) = .ok (enc e') (st ++ t) := by rw [h3]; rfl
      have ne : ((made : Nat) : Int) ≠ ((made + (n + 1) : Nat) : Int) := by omega
      have hb : lrnU (den (k + 1)) [some (enc e), some (bkD B), some (.int ((made + (n + 1) : Nat) : Int)), some (.int (made : Nat)), o4] st = .ok (.nx [some (enc e'), some (bkD B), some (.int ((made + (n + 1) : Nat) : Int)), some (.int (made : Nat)), some (told B e)]) (st ++ t) := by
        rw [h2] at i0
        unfold lrnU
        simp (decide := true) -implicitDefEqProofs [h1, i0, i1, ne, -Int.natCast_add]
      refine ⟨t ++ t2, ?_⟩
      rw [runD_cons, forD_cons, runS_succ h, gN_eq, bind_ok, kTurn1_eq]
      show (lrnU (den (k + 1)) [some (enc e), some (bkD B), some (.int ((made + (n + 1) : Nat) : Int)), some (.int (made : Nat)), o4] st).bind _ = _
      have ea : made + 1 + n = made + (n + 1) := by omega
      rw [ea] at h6
      rw [hb, bind_ok, kTurn2_nx, h6, List.append_assoc]
      have ez : made + 1 + (runS B n e').2.1 = made + ((runS B n e').2.1 + 1) := by omega
      rw [ez]
theorem den_lrn (k : Nat) (ds : List D) (st : Sto) : den (k + 1) 36 ds st = runB (u__law_run (den k) ini) 5 ds st := rfl
theorem lrun_ok {B : List (Str × Ex)} (hB : BookG B) {k : Nat} (hk : 615 ≤ k) {e : Ex} (f : Fit e) (n : Nat) (hn : n ≤ 1000) (st : Sto) : ∃ t, den (k + 2) 36 [enc e, bkD B, .int (n : Nat)] st = .ok (encT (runS B n e)) (st ++ t) := by
  obtain ⟨t, h⟩ := lr_loop2 hB hk n e 0 none none st f
  refine ⟨t, ?_⟩
  rw [Nat.zero_add, Nat.zero_add] at h
  unfold lrnU at h
  have hr : kRng1 (.int ((n : Nat) + 1)) st = .ok (.imm (runD ((0 : Nat) : Int) (n + 1))) st := by
    rw [kRng1_eq (by simp only [smallI]; simp; omega)]
    rfl
  rw [den_lrn, runB_eq]
  unfold u__law_run
  show (sSeq _ _ [some (enc e), some (bkD B), some (.int (n : Nat)), none, none] st).bind kRun = _
  rw [sSeq_eq, sFor_eq]
  have hi : iRng1D (fOp opAddA (fV 2) (fC (.int 1))) [some (enc e), some (bkD B), some (.int (n : Nat)), none, none] st = .ok (.imm (runD ((0 : Nat) : Int) (n + 1))) st := by
    simp -implicitDefEqProofs [hr]
  rw [hi, bind_ok]
  show ((forD _ _ _ _ _).bind _).bind kRun = _
  rw [h]
  rfl
end K16
set_option Elab.async false
set_option linter.all false
set_option maxHeartbeats 4000000
set_option maxRecDepth 100000
namespace K16
open PySem PySem.Spec PyProof.Rows L2 LamX DL DL.Ex
structure OuP (scr : D) (b : Nat) (τ : Ti) (st : Sto) : Prop where
  ex : ∃ o2 o3 o4 o5 o6 o7 o8 o9, τ = [some scr, some (.obj b), o2, o3, o4, o5, o6, o7, o8, o9]
  box : Box st b
def bdO (F : Nat → Fn) : FS := (sSeq (q_law_1 F ini) (sSeq (q_law_2 F ini) (sSeq (q_law_3 F ini) (sSeq (q_law_4 F ini) (sSeq (q_law_6 F ini) (sSeq (q_law_7 F ini) (sSeq (q_law_8 F ini) (sSeq (q_law_9 F ini) (q_law_11 F ini)))))))))
theorem most_ok {st : Sto} {b : Nat} (B : Box st b) (k : Nat) : ∃ (m : Nat) (st' : Sto), den (k + 2) 17 [.obj b, .lv [.int 0, .int 1, .int 2, .int 5, .int 12, .int 40]] st = .ok (.int (m : Nat)) st' ∧ m ≤ 40 ∧ Keep b st st' := by
  obtain ⟨d, st', h, hm, hk⟩ := pk_ok B k [.int 0, .int 1, .int 2, .int 5, .int 12, .int 40] (by decide)
  simp only [List.mem_cons, List.mem_nil_iff, or_false] at hm
  rcases hm with rfl | rfl | rfl | rfl | rfl | rfl
  · exact ⟨0, st', h, by decide, hk⟩
  · exact ⟨1, st', h, by decide, hk⟩
  · exact ⟨2, st', h, by decide, hk⟩
  · exact ⟨5, st', h, by decide, hk⟩
  · exact ⟨12, st', h, by decide, hk⟩
  · exact ⟨40, st', h, by decide, hk⟩
theorem outer_ok {scr : D} {b : Nat} (d : D) {τ : Ti} {st : Sto} (hP : OuP scr b τ st) : ∃ τ1 st1 τ2 st2, gN 2 d τ st = .ok τ1 st1 ∧ bdO (den 634) τ1 st1 = .ok (.nx τ2) st2 ∧ OuP scr b τ2 st2 := by
  obtain ⟨o2, o3, o4, o5, o6, o7, o8, o9, rfl⟩ := hP.ex
  obtain ⟨B, s1, h1, hB, B1⟩ := book_ok (k := 631) (by decide) hP.box
  obtain ⟨e, s2, h2, g, z, B2⟩ := run_ok (k := 632) (by decide) hB.ok B1
  obtain ⟨m, s3, h3, hm, k3⟩ := most_ok B2 632
  have f : Fit e := fit_small g (by omega)
  obtain ⟨t4, h4⟩ := lrun_ok hB (k := 632) (by decide) f m (by omega) s3
  obtain ⟨s4, e4⟩ : ∃ s, s = s3 ++ t4 := ⟨_, rfl⟩
  rw [← e4] at h4
  have B4 : Box s4 b := by rw [e4]; exact box_apps t4 k3.box
  obtain ⟨t5, h5⟩ := prun_ok hB (k := 632) (by decide) f m (by omega) s4
  obtain ⟨s5, e5⟩ : ∃ s, s = s4 ++ t5 := ⟨_, rfl⟩
  rw [← e5] at h5
  have B5 : Box s5 b := by rw [e5]; exact box_apps t5 B4
  have fm := runS_fit hB m e f
  have lm := runS_le (B := B) m e
  obtain ⟨x5, r5⟩ := rep_run (w := (runS B m e).1) (m := (runS B m e).2.1) (e := (runS B m e).2.2) fm.2 (by omega) fm.1 s5
  have h6 : den 634 14 [encT (runS B m e), encT (runS B m e)] s5 = .ok (.bl true) s5 := same_ok 633 r5 r5
  obtain ⟨a, s7, h7, a0, a1, k7⟩ := dr_ok B5 633 ((m : Nat) + 1) (by omega)
  obtain ⟨a, rfl⟩ : ∃ j : Nat, a = (j : Nat) := ⟨a.toNat, by omega⟩
  obtain ⟨t8, h8⟩ := prun_ok hB (k := 632) (by decide) f a (by omega) s7
  obtain ⟨s8, e8⟩ : ∃ s, s = s7 ++ t8 := ⟨_, rfl⟩
  rw [← e8] at h8
  have B8 : Box s8 b := by rw [e8]; exact box_apps t8 k7.box
  have fa := runS_fit hB a e f
  have la := runS_le (B := B) a e
  have cut := runS_cut (B := B) a m e (by omega)
  generalize runS B a e = r1 at h8 fa la cut
  obtain ⟨w1, c1, e1⟩ := r1
  try simp only at fa la cut
  obtain ⟨t9, h9⟩ := prun_ok hB (k := 632) (by decide) fa.1 (m - c1) (by omega) s8
  obtain ⟨s9, e9⟩ : ∃ s, s = s8 ++ t9 := ⟨_, rfl⟩
  rw [← e9] at h9
  have B9 : Box s9 b := by rw [e9]; exact box_apps t9 B8
  generalize runS B (m - c1) e1 = r2 at h9 cut
  obtain ⟨w2, c2, e2⟩ := r2
  try simp only at cut
  rw [cut] at h4 h5 h6 fm lm
  have fm2 := fm.2
  have fm1 := fm.1
  try simp only at fm2 fm1 lm
  obtain ⟨x9, r9⟩ := rep_run (w := w2) (m := c1 + c2) (e := e2) fm2 (by omega) fm1 s9
  have h10 : den 634 14 [encT (w2, c1 + c2, e2), encT (w2, c1 + c2, e2)] s9 = .ok (.bl true) s9 := same_ok 633 r9 r9
  refine ⟨_, _, [some scr, some (.obj b), some d, some (bkD B), some (enc e), some (.int (m : Nat)), some (encT (w2, c1 + c2, e2)), some (.int (a : Nat)), some (encT (w1, c1, e1)), some (encT (w2, c2, e2))], s9, gN_eq _ _ _ _, ?_, ⟨⟨_, _, _, _, _, _, _, _, rfl⟩, B9⟩⟩
  have a1 : q_law_1 (den 634) ini [some scr, some (.obj b), some d, o3, o4, o5, o6, o7, o8, o9] st = .ok (.nx [some scr, some (.obj b), some d, some (bkD B), o4, o5, o6, o7, o8, o9]) s1 := by
    unfold q_law_1
    simp -implicitDefEqProofs [h1]
  have a2 : q_law_2 (den 634) ini [some scr, some (.obj b), some d, some (bkD B), o4, o5, o6, o7, o8, o9] s1 = .ok (.nx [some scr, some (.obj b), some d, some (bkD B), some (enc e), o5, o6, o7, o8, o9]) s2 := by
    unfold q_law_2
    simp -implicitDefEqProofs [h2]
  have a3 : q_law_3 (den 634) ini [some scr, some (.obj b), some d, some (bkD B), some (enc e), o5, o6, o7, o8, o9] s2 = .ok (.nx [some scr, some (.obj b), some d, some (bkD B), some (enc e), some (.int (m : Nat)), o6, o7, o8, o9]) s3 := by
    unfold q_law_3
    simp -implicitDefEqProofs [h3]
  have a4 : q_law_4 (den 634) ini [some scr, some (.obj b), some d, some (bkD B), some (enc e), some (.int (m : Nat)), o6, o7, o8, o9] s3 = .ok (.nx [some scr, some (.obj b), some d, some (bkD B), some (enc e), some (.int (m : Nat)), some (encT (w2, c1 + c2, e2)), o7, o8, o9]) s4 := by
    unfold q_law_4
    simp -implicitDefEqProofs [h4]
  have a6 : q_law_6 (den 634) ini [some scr, some (.obj b), some d, some (bkD B), some (enc e), some (.int (m : Nat)), some (encT (w2, c1 + c2, e2)), o7, o8, o9] s4 = .ok (.nx [some scr, some (.obj b), some d, some (bkD B), some (enc e), some (.int (m : Nat)), some (encT (w2, c1 + c2, e2)), o7, o8, o9]) s5 := by
    unfold q_law_6
    simp -implicitDefEqProofs [h5, h6]
  have a7 : q_law_7 (den 634) ini [some scr, some (.obj b), some d, some (bkD B), some (enc e), some (.int (m : Nat)), some (encT (w2, c1 + c2, e2)), o7, o8, o9] s5 = .ok (.nx [some scr, some (.obj b), some d, some (bkD B), some (enc e), some (.int (m : Nat)), some (encT (w2, c1 + c2, e2)), some (.int (a : Nat)), o8, o9]) s7 := by
    unfold q_law_7
    simp -implicitDefEqProofs [h7]
  have a8 : q_law_8 (den 634) ini [some scr, some (.obj b), some d, some (bkD B), some (enc e), some (.int (m : Nat)), some (encT (w2, c1 + c2, e2)), some (.int (a : Nat)), o8, o9] s7 = .ok (.nx [some scr, some (.obj b), some d, some (bkD B), some (enc e), some (.int (m : Nat)), some (encT (w2, c1 + c2, e2)), some (.int (a : Nat)), some (encT (w1, c1, e1)), o9]) s8 := by
    unfold q_law_8
    simp -implicitDefEqProofs [h8]
  have i1 : opIx (encT (w1, c1, e1)) (.int 1) s8 = .ok (.int (c1 : Nat)) s8 := rfl
  have i2 : opIx (encT (w1, c1, e1)) (.int 2) s8 = .ok (enc e1) s8 := rfl
  have hsub : ((m : Nat) : Int) - ((c1 : Nat) : Int) = ((m - c1 : Nat) : Int) := by omega
  have a9 : q_law_9 (den 634) ini [some scr, some (.obj b), some d, some (bkD B), some (enc e), some (.int (m : Nat)), some (encT (w2, c1 + c2, e2)), some (.int (a : Nat)), some (encT (w1, c1, e1)), o9] s8 = .ok (.nx [some scr, some (.obj b), some d, some (bkD B), some (enc e), some (.int (m : Nat)), some (encT (w2, c1 + c2, e2)), some (.int (a : Nat)), some (encT (w1, c1, e1)), some (encT (w2, c2, e2))]) s9 := by
    unfold q_law_9
    simp -implicitDefEqProofs [i1, i2, hsub, h9]
  have i3 : opIx (encT (w1, c1, e1)) (.int 1) s9 = .ok (.int (c1 : Nat)) s9 := rfl
  have i4 : opIx (encT (w2, c2, e2)) (.int 0) s9 = .ok (.str w2) s9 := rfl
  have i5 : opIx (encT (w2, c2, e2)) (.int 1) s9 = .ok (.int (c2 : Nat)) s9 := rfl
  have i6 : opIx (encT (w2, c2, e2)) (.int 2) s9 = .ok (enc e2) s9 := rfl
  have et : D.tup [.str w2, .int ((c1 : Nat) + (c2 : Nat)), enc e2] = encT (w2, c1 + c2, e2) := by simp [encT]
  have a11 : q_law_11 (den 634) ini [some scr, some (.obj b), some d, some (bkD B), some (enc e), some (.int (m : Nat)), some (encT (w2, c1 + c2, e2)), some (.int (a : Nat)), some (encT (w1, c1, e1)), some (encT (w2, c2, e2))] s9 = .ok (.nx [some scr, some (.obj b), some d, some (bkD B), some (enc e), some (.int (m : Nat)), some (encT (w2, c1 + c2, e2)), some (.int (a : Nat)), some (encT (w1, c1, e1)), some (encT (w2, c2, e2))]) s9 := by
    unfold q_law_11
    simp -implicitDefEqProofs [i3, i4, i5, i6, et, h10]
  unfold bdO
  show sSeq _ _ [some scr, some (.obj b), some d, o3, o4, o5, o6, o7, o8, o9] st = _
  rw [sSeq_eq, a1, bind_ok, kSeq_nx, sSeq_eq, a2, bind_ok, kSeq_nx, sSeq_eq, a3, bind_ok, kSeq_nx, sSeq_eq, a4, bind_ok, kSeq_nx, sSeq_eq, a6, bind_ok, kSeq_nx, sSeq_eq, a7, bind_ok, kSeq_nx, sSeq_eq, a8, bind_ok, kSeq_nx, sSeq_eq, a9, bind_ok, kSeq_nx, a11]
theorem den_law (k : Nat) (ds : List D) (st : Sto) : den (k + 1) 37 ds st = runB (u_law (den k) ini) 10 ds st := rfl
theorem goal (ns : List Int) (hl : ns.length ≤ 63) (hz : ∀ z ∈ ns, Builtin.Int.intBits z ≤ 1048576) : ∃ st, den 635 37 [.kl (ns.map D.int)] [] = .ok (.bl true) st := by
  obtain ⟨acc, h1⟩ : ∃ acc : List Int, den 634 15 [.kl (ns.map D.int), .int 0, .int 50] [] = .ok (.obj 0) [.lst (acc.map D.int)] := dig_ok ns 632 []
  have B : Box [MO.lst (acc.map D.int), MO.lst [.obj 0, .int 0]] 1 := ⟨0, 0, acc, by decide, rfl, rfl⟩
  obtain ⟨τ', st', hf, hP⟩ := forD_inv (g := gN 2) (u := bdO (den 634)) (P := OuP (.kl (ns.map D.int)) 1) (runD 0 3) [some (.kl (ns.map D.int)), some (.obj 1), none, none, none, none, none, none, none, none] [MO.lst (acc.map D.int), MO.lst [.obj 0, .int 0]]
    ⟨⟨none, none, none, none, none, none, none, none, rfl⟩, B⟩ (by
      intro d hd τ st hP
      exact outer_ok d hP)
  have k4 : ∀ st : Sto, kRng1 (.int 3) st = .ok (.imm (runD 0 3)) st := fun st => kRng1_eq (j := 3) (by decide) st
  refine ⟨st', ?_⟩
  show den (634 + 1) 37 _ _ = _
  have a0 : q_law_0 (den 634) ini [some (.kl (ns.map D.int)), none, none, none, none, none, none, none, none, none] [] = .ok (.nx [some (.kl (ns.map D.int)), some (.obj 1), none, none, none, none, none, none, none, none]) [MO.lst (acc.map D.int), MO.lst [.obj 0, .int 0]] := by
    unfold q_law_0
    simp (decide := true) -implicitDefEqProofs [h1]
  have a17 : q_law_12 (den 634) ini [some (.kl (ns.map D.int)), some (.obj 1), none, none, none, none, none, none, none, none] [MO.lst (acc.map D.int), MO.lst [.obj 0, .int 0]] = .ok (.nx τ') st' := by
    unfold bdO at hf
    unfold q_law_12
    rw [sFor_eq]
    simp -implicitDefEqProofs [k4]
    exact hf
  rw [den_law, runB_eq]
  unfold u_law q_law_13
  show (sSeq (q_law_0 (den 634) ini) (sSeq (q_law_12 (den 634) ini) (sRet (fC (D.bl true)))) [some (.kl (ns.map D.int)), none, none, none, none, none, none, none, none, none] []).bind kRun = _
  rw [sSeq_eq, a0, bind_ok, kSeq_nx, sSeq_eq, a17, bind_ok, kSeq_nx]
  simp
end K16
open PySem PySem.W PySem.Calls PyProof.Rows
theorem PySem.Challenge.cw_rowtypes_k16_runs_told_holds : PySem.Challenge.rw_rowtypes_k16_runs_told.Holds := by
  w_on; o_law
  refine HandSHeadRun.head_any (r := OpenLaw.row PySem.Challenge.rw_rowtypes_k16_runs_told) (q := view (OpenLaw.row PySem.Challenge.rw_rowtypes_k16_runs_told).prog [46]) (H := K16.hk) (ob := K16.ob) (M := 20000) (loose := K16.loose) (d := HandSHeadRun.topDef (OpenLaw.row PySem.Challenge.rw_rowtypes_k16_runs_told).prog 46) (kwd := []) K16.ob_eq
    (by kernel_rfl) (fun s => by kernel_rfl) K16.run (by kernel_rfl) (by kernel_rfl) (by kernel_rfl) (by rfl) (by first | assumption | decide +kernel) (by decide +kernel) ⟨rfl, rfl, rfl, rfl, rfl, by decide +kernel⟩ ?hw ?hc
  case hw => w_witness2
  case hc =>
    refine DL.walk_G (l := PySem.Challenge.rw_rowtypes_k16_runs_told) (n := 63) (k := 638) (x := "_law_script") rfl (by decide) (by kernel_rfl) ⟨rfl, by decide, by decide⟩ fun w mg fa h Y G hmg0 => ?_
    exact K16.law_G K16.goal w mg fa h Y G (by
      have e : (HandSHeadRun.topDef (OpenLaw.row PySem.Challenge.rw_rowtypes_k16_runs_told).prog 46).name = ("law" : PySem.Str) := by kernel_rfl
      rw [← e]
      exact hmg0)
