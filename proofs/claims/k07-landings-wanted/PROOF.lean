import PyProof.Rows.All
import Wide.All
import OpenK.AllK
import Wide.FinOn
import KE.KStateDown
import Lean
import HandS.ForMost
import HandS.ForExc
import HandS.Defaults
import HandS.More
import HandS.Head0
import HandS.Head1
import HandS.Head2
import HandS.HeadEnd
import HandS.HeadHook1
import HandS.HeadHook2
import HandS.HeadHook3
import HandS.HeadHook4
import KE.KDictKeyed
import KE.KeyNested
import HandS.TupAny
import HandS.IsInst
import HandS.Lambda
import HandS.TupMul
import HandS.SetFor
import HandS.Text
import HandS.Conv
import HandS.Style
import HandS.ReCall
import KE.GoesEnum
import KE.GoesMore
import KE.GoesZip
import HandS.Iter
import KE.KRevSl
import PyProof.SliceStr2
import PyProof.DictRoadsH
import KE.KDictDisplayH
import HandS.Dict
import HandS.CallSlots
import HandS.MakeKwOnly
import HandS.Exc
import HandS.Zip
import HandS.Strs
import HandS.ExcInit
import HandS.ExcField
import HandS.ExcOwn
import HandS.TryOnly
import KE.KIsAll
import KE.KExcIs
import HandS.ExcIs
import HandS.HeadWalk
import HandS.SortInts
import KE.KSortKeySt
import HandS.SortKw
import HandS.Keys
import HandS.TupLen
import KE.SortKeyed
import KE.SortData
import PySem.Challenge.RW_crowdstairs_k07_landings_that_are_wanted
set_option Elab.async false
set_option linter.all false
set_option maxRecDepth 100000
set_option maxHeartbeats 4000000
/-! Fx1: data trees, the store, and how they lie in the abstract heap. -/
namespace Fx
open PySem PySem.Spec L2

/-- a value as data; ref n: the n-th object of the store -/
inductive D where
  | non | bl (b : Bool) | int (i : Int) | str (x : Str)
  | tup (xs : List D) | lst (xs : List D) | dct (ks vs : List D) | ref (n : Nat) | scr (xs : List D) | exn (a : Addr) (d : Option Addr) (c : Nat) (fs : List (Str × Int))
  deriving Inhabited

/-- an object that may change -/
inductive O where
  | lst (xs : List D) | dn (ks vs : List D) | dl (ks vs : List D) | dk (kvs : List (Key × D)) | ins (c : Nat) (fs : List (Str × D))
  deriving Inhabited

abbrev Sto := List O
/-- an exception of the text's own -/
structure Exc where
  c : Nat
  fs : List (Str × D)
inductive Out (α : Type) where
  | ok (a : α) (S : Sto)
  | exc (x : Exc) (S : Sto)
  | stuck
abbrev Sl := List (Option D)

/-- what all readings lean on -/
structure Gm where
  P : Program
  w : World
  K : PySem.W.Frag
  cl : Nat → Addr
  tb : List (Addr × Str)

mutual
def nk : D → Option NestedKey
  | .non => some .none
  | .int i => some (.num i)
  | .str x => some (.text x)
  | .tup ds => (nks ds).map NestedKey.tup
  | .bl _ => none
  | .lst _ => none
  | .dct _ _ => none
  | .ref _ => none
  | .scr _ => none
  | .exn .. => none
def nks : List D → Option (List NestedKey)
  | [] => some []
  | d :: ds => match nk d, nks ds with
    | some k, some ks => some (k :: ks)
    | _, _ => none
end

def KTup (K : PySem.W.Frag) (a : Addr) (vs : List V) : Prop :=
  ∃ (o : Obj) (its : Array Value) (n : Nat), K.lookup a = some o ∧ o.cls = .type "tuple" ∧ o.dict = none ∧ o.data = .seq its n ∧ its.size ≤ sizeLine ∧ Vals vs its.toList
def KLst (K : PySem.W.Frag) (a : Addr) (vs : List V) : Prop :=
  ∃ (o : Obj) (its : Array Value) (n : Nat), K.lookup a = some o ∧ o.cls = .type "list" ∧ o.dict = none ∧ o.data = .seq its n ∧ its.size ≤ sizeLine ∧ Vals vs its.toList
def TupAt (K : PySem.W.Frag) (ρ : List Addr) (H : Hp) (a : Addr) (vs : List V) : Prop := (∃ o, H a = some (.frz o (.tup vs)) ∧ o.dict = none ∧ a ∉ ρ) ∨ KTup K a vs
def LstAt (ρ η : List Addr) (H : Hp) (a : Addr) (vs : List V) : Prop := H a = some (.lst vs) ∧ a ∉ ρ ∧ a ∉ η
/-- a dict with tuples as keys: its entries -/
def dnO (G : Gm) (a : Addr) (xs : List (NestedKey × Addr × Value)) : Heap → Prop := fun h =>
  ∃ o es ep, h.get? a = some o ∧ o.ExactDict ∧ o.data = .dict es ep ∧ es.toList = xs.map (entryOfKey (nestedKind G.P G.w))

mutual
def RD (G : Gm) (ρ η : List Addr) (H : Hp) : D → V → Prop
  | .non, v => v = .non
  | .bl b, v => v = .bl b
  | .int i, v => v = .int i
  | .str x, v => v = .str x
  | .tup ds, v => ∃ a vs, v = .ref a ∧ TupAt G.K ρ H a vs ∧ vs.length ≤ sizeLine ∧ RDs G ρ η H ds vs
  | .lst ds, v => ∃ a vs, v = .ref a ∧ LstAt ρ η H a vs ∧ vs.length ≤ sizeLine ∧ RDs G ρ η H ds vs
  | .dct ks ds, v => ∃ a xs vs, v = .ref a ∧ (H a = some (.ext (dnO G a xs)) ∧ a ∉ ρ ∧ a ∉ η) ∧ (nks ks = some (xs.map (·.1)) ∧ (xs.map (·.1)).Nodup ∧ (∀ x ∈ xs, x.1.depth ≤ 8) ∧ (a == sysModules) = false ∧ xs.length ≤ sizeLine) ∧
      Vals vs (xs.map (·.2.2)) ∧ RDs G ρ η H ks (xs.map fun x => V.ref x.2.1) ∧ RDs G ρ η H ds vs
  | .ref n, v => ∃ a, ρ[n]? = some a ∧ v = .ref a
  | .exn a d c fs, v => v = .ref a ∧ ((fs = [] ∧ d = none) ∨ ∃ dd, d = some dd ∧ H dd = some (.xd (fs.map fun x => (x.1, V.int x.2))) ∧ dd ∉ ρ)
  | .scr ds, v => ∃ a vs, v = .ref a ∧ ((Rd H a (.lst vs) ∧ a ∉ ρ ∧ a ∉ η) ∨ KLst G.K a vs) ∧ vs.length ≤ sizeLine ∧ RDs G ρ η H ds vs
def RDs (G : Gm) (ρ η : List Addr) (H : Hp) : List D → List V → Prop
  | [], vs => vs = []
  | d :: ds, vs => ∃ v r, vs = v :: r ∧ RD G ρ η H d v ∧ RDs G ρ η H ds r
end

/-- the heap grows; what is not of the store stays -/
structure Ext (ρ : List Addr) (H : Hp) (ρ' : List Addr) (H' : Hp) : Prop where
  pre : ∃ t, ρ' = ρ ++ t
  st : ∀ a o, H a = some o → a ∉ ρ → (∀ ps, o ≠ .tbl ps) → H' a = some o ∧ a ∉ ρ'
  fz : ∀ a o u, H a = some (.frz o u) → H' a = some (.frz o u)
theorem Ext.refl (ρ : List Addr) (H : Hp) : Ext ρ H ρ H := ⟨⟨[], by simp⟩, fun _ _ h n _ => ⟨h, n⟩, fun _ _ _ h => h⟩
theorem Ext.trans {ρ ρ1 ρ2 : List Addr} {H H1 H2 : Hp} (a : Ext ρ H ρ1 H1) (b : Ext ρ1 H1 ρ2 H2) : Ext ρ H ρ2 H2 :=
  ⟨let ⟨t, e⟩ := a.pre; let ⟨u, f⟩ := b.pre; ⟨t ++ u, by rw [f, e, List.append_assoc]⟩, fun x o h n t => let ⟨h1, n1⟩ := a.st x o h n t; b.st x o h1 n1 t, fun x o u h => b.fz x o u (a.fz x o u h)⟩
/-- nothing there, or a table -/
def Nul (H : Hp) (p : Addr) : Prop := ∀ o, H p = some o → ∃ ps, o = .tbl ps
theorem Nul.of {H : Hp} {p : Addr} (h : H p = none) : Nul H p := fun o e => by rw [h] at e; cases e
theorem Ext.fresh {ρ ρ' : List Addr} {H H' : Hp} (e : Ext ρ H ρ' H') (hρ : ∀ a ∈ ρ, H' a ≠ none) {p : Addr} (h : H' p = none) : Nul H p := fun o q => by
  by_cases hp : p ∈ ρ
  · exact absurd h (hρ p hp)
  · cases o with
    | tbl ps => exact ⟨ps, rfl⟩
    | _ => have k := (e.st p _ q hp (fun ps z => by cases z)).1; rw [h] at k; cases k
theorem Ext.nul {ρ ρ' : List Addr} {H H' : Hp} (e : Ext ρ H ρ' H') (hρ : ∀ a ∈ ρ, ∃ o, H' a = some o ∧ ∀ ps, o ≠ .tbl ps) {p : Addr} (h : Nul H' p) : Nul H p := fun o q => by
  by_cases hp : p ∈ ρ
  · obtain ⟨u, e1, e2⟩ := hρ p hp
    obtain ⟨ps, z⟩ := h u e1
    exact absurd z (e2 ps)
  · by_cases t : ∃ ps, o = .tbl ps
    · exact t
    · exact absurd (h _ (e.st p o q hp (fun ps z => t ⟨ps, z⟩)).1) t
theorem Ext.of_same {ρ : List Addr} {H H' : Hp} (h : Same H H') : Ext ρ H ρ H' := ⟨⟨[], by simp⟩, fun a o e n _ => ⟨h a o e, n⟩, fun a o u e => h a _ e⟩
theorem Ext.at {ρ ρ' : List Addr} {H H' : Hp} (e : Ext ρ H ρ' H') {n : Nat} {a : Addr} (h : ρ[n]? = some a) : ρ'[n]? = some a := by
  obtain ⟨t, rfl⟩ := e.pre
  obtain ⟨hl, _⟩ := List.getElem?_eq_some_iff.mp h
  rw [List.getElem?_append_left hl]
  exact h

section
variable {G : Gm} {ρ η ρ' η' : List Addr} {H H' : Hp}
theorem rd_ext {a : Addr} {u : HO} (e : Ext ρ H ρ' H') (h : Rd H a u) (n : a ∉ ρ) (nt : ∀ ps, u ≠ .tbl ps := by exact fun _ z => nomatch z) : Rd H' a u ∧ a ∉ ρ' := by
  rcases h with h | ⟨o, h⟩
  · exact ⟨.inl (e.st a _ h n nt).1, (e.st a _ h n nt).2⟩
  · exact ⟨.inr ⟨o, (e.st a _ h n (fun _ z => nomatch z)).1⟩, (e.st a _ h n (fun _ z => nomatch z)).2⟩
theorem rd_some {a : Addr} {u : HO} (h : Rd H a u) : H a ≠ none := by
  rcases h with h | ⟨o, h⟩ <;> rw [h] <;> exact fun z => nomatch z
mutual
theorem RD.mono (e : Ext ρ H ρ' H') (hη : ∀ a, a ∈ η' → a ∈ η ∨ H a = none) : ∀ {d : D} {v : V}, RD G ρ η H d v → RD G ρ' η' H' d v
  | .non, v, h => by rw [RD] at h ⊢; exact h
  | .bl _, v, h => by rw [RD] at h ⊢; exact h
  | .int _, v, h => by rw [RD] at h ⊢; exact h
  | .str _, v, h => by rw [RD] at h ⊢; exact h
  | .tup ds, v, h => by
    rw [RD] at h ⊢
    obtain ⟨a, vs, e1, h1, hl, h2⟩ := h
    refine ⟨a, vs, e1, ?_, hl, RDs.mono e hη h2⟩
    rcases h1 with ⟨o, r, q, n⟩ | k
    · exact .inl ⟨o, (e.st a _ r n (fun _ z => nomatch z)).1, q, (e.st a _ r n (fun _ z => nomatch z)).2⟩
    · exact .inr k
  | .lst ds, v, h => by
    rw [RD] at h ⊢
    obtain ⟨a, vs, e1, ⟨r, n1, n2⟩, hl, h2⟩ := h
    obtain ⟨r', n'⟩ := e.st a _ r n1 (fun _ z => nomatch z)
    exact ⟨a, vs, e1, ⟨r', n', fun z => (hη a z).elim n2 (fun q => by rw [r] at q; cases q)⟩, hl, RDs.mono e hη h2⟩
  | .dct ks ds, v, h => by
    rw [RD] at h ⊢
    obtain ⟨a, xs, vs, e1, ⟨r, n1, n2⟩, q, hv, h2, h3⟩ := h
    obtain ⟨r', n'⟩ := e.st a _ r n1 (fun _ z => nomatch z)
    exact ⟨a, xs, vs, e1, ⟨r', n', fun z => (hη a z).elim n2 (fun q => by rw [r] at q; cases q)⟩, q, hv, RDs.mono e hη h2, RDs.mono e hη h3⟩
  | .ref n, v, h => by
    rw [RD] at h ⊢
    obtain ⟨a, h1, h2⟩ := h
    exact ⟨a, e.at h1, h2⟩
  | .exn a d c fs, v, h => by
    rw [RD] at h ⊢
    refine ⟨h.1, h.2.imp id fun ⟨dd, e1, e2, e3⟩ => ?_⟩
    obtain ⟨r', n'⟩ := e.st dd _ e2 e3 (fun _ z => nomatch z)
    exact ⟨dd, e1, r', n'⟩
  | .scr ds, v, h => by
    rw [RD] at h ⊢
    obtain ⟨a, vs, e1, q, hl, h2⟩ := h
    refine ⟨a, vs, e1, ?_, hl, RDs.mono e hη h2⟩
    rcases q with ⟨r, n1, n2⟩ | k
    · obtain ⟨r', n'⟩ := rd_ext e r n1
      exact .inl ⟨r', n', fun z => (hη a z).elim n2 (rd_some r)⟩
    · exact .inr k
theorem RDs.mono (e : Ext ρ H ρ' H') (hη : ∀ a, a ∈ η' → a ∈ η ∨ H a = none) : ∀ {ds : List D} {vs : List V}, RDs G ρ η H ds vs → RDs G ρ' η' H' ds vs
  | [], vs, h => by rw [RDs] at h ⊢; exact h
  | d :: ds, vs, h => by
    rw [RDs] at h ⊢
    obtain ⟨v, r, e1, h1, h2⟩ := h
    exact ⟨v, r, e1, RD.mono e hη h1, RDs.mono e hη h2⟩
end
theorem RD.ext {d : D} {v : V} (h : RD G ρ η H d v) (e : Ext ρ H ρ' H') : RD G ρ' η H' d v := RD.mono e (fun _ h => .inl h) h
theorem RDs.ext {d : List D} {v : List V} (h : RDs G ρ η H d v) (e : Ext ρ H ρ' H') : RDs G ρ' η H' d v := RDs.mono e (fun _ h => .inl h) h
theorem RDs.length : ∀ {ds : List D} {vs : List V}, RDs G ρ η H ds vs → vs.length = ds.length
  | [], vs, h => by rw [RDs] at h; rw [h]; rfl
  | d :: ds, vs, h => by
    rw [RDs] at h
    obtain ⟨v, r, e1, h1, h2⟩ := h
    rw [e1, List.length_cons, List.length_cons, RDs.length h2]
theorem RDs.get : ∀ {ds : List D} {vs : List V} {i : Nat} {d : D}, RDs G ρ η H ds vs → ds[i]? = some d → ∃ v, vs[i]? = some v ∧ RD G ρ η H d v
  | [], vs, i, d, h, e => by simp at e
  | d :: ds, vs, i, x, h, e => by
    rw [RDs] at h
    obtain ⟨v, r, e1, h1, h2⟩ := h
    subst e1
    cases i with
    | zero =>
      have z : d = x := by simpa using e
      subst z
      exact ⟨v, rfl, h1⟩
    | succ i =>
      obtain ⟨y, hy, q⟩ := RDs.get (i := i) h2 (by simpa using e)
      exact ⟨y, by simpa using hy, q⟩
theorem RDs.getV : ∀ {ds : List D} {vs : List V} {i : Nat} {v : V}, RDs G ρ η H ds vs → vs[i]? = some v → ∃ d, ds[i]? = some d ∧ RD G ρ η H d v
  | [], vs, i, d, h, e => by rw [RDs] at h; subst h; simp at e
  | d :: ds, vs, i, x, h, e => by
    rw [RDs] at h
    obtain ⟨v, r, e1, h1, h2⟩ := h
    subst e1
    cases i with
    | zero =>
      have z : v = x := by simpa using e
      subst z
      exact ⟨d, rfl, h1⟩
    | succ i =>
      obtain ⟨y, hy, q⟩ := RDs.getV (i := i) h2 (by simpa using e)
      exact ⟨y, by simpa using hy, q⟩
theorem RDs.nil : RDs G ρ η H [] [] := by rw [RDs]
theorem RDs.cons {d : D} {v : V} {ds : List D} {vs : List V} (h : RD G ρ η H d v) (r : RDs G ρ η H ds vs) : RDs G ρ η H (d :: ds) (v :: vs) := by
  rw [RDs]
  exact ⟨v, vs, rfl, h, r⟩
theorem RDs.append : ∀ {ds es : List D} {vs us : List V}, RDs G ρ η H ds vs → RDs G ρ η H es us → RDs G ρ η H (ds ++ es) (vs ++ us)
  | [], es, vs, us, h, k => by rw [RDs] at h; subst h; exact k
  | d :: ds, es, vs, us, h, k => by
    rw [RDs] at h
    obtain ⟨v, r, e1, h1, h2⟩ := h
    subst e1
    exact RDs.cons h1 (RDs.append h2 k)
theorem RDs.take : ∀ {ds : List D} {vs : List V} (n : Nat), RDs G ρ η H ds vs → RDs G ρ η H (ds.take n) (vs.take n)
  | _, _, 0, h => RDs.nil
  | [], vs, n + 1, h => by rw [RDs] at h; subst h; exact RDs.nil
  | d :: ds, vs, n + 1, h => by
    rw [RDs] at h
    obtain ⟨v, r, e1, h1, h2⟩ := h
    subst e1
    exact RDs.cons h1 (RDs.take n h2)
theorem RDs.drop : ∀ {ds : List D} {vs : List V} (n : Nat), RDs G ρ η H ds vs → RDs G ρ η H (ds.drop n) (vs.drop n)
  | _, _, 0, h => h
  | [], vs, n + 1, h => by rw [RDs] at h; subst h; exact RDs.nil
  | d :: ds, vs, n + 1, h => by
    rw [RDs] at h
    obtain ⟨v, r, e1, h1, h2⟩ := h
    subst e1
    exact RDs.drop n h2
theorem RDs.set {d : D} {v : V} (k : RD G ρ η H d v) : ∀ {ds : List D} {vs : List V} (i : Nat), RDs G ρ η H ds vs → RDs G ρ η H (ds.set i d) (vs.set i v)
  | [], vs, i, h => by rw [RDs] at h; subst h; exact RDs.nil
  | e :: ds, vs, i, h => by
    rw [RDs] at h
    obtain ⟨u, r, e1, h1, h2⟩ := h
    subst e1
    cases i with
    | zero => exact RDs.cons k h2
    | succ i => exact RDs.cons h1 (RDs.set k i h2)
theorem RDs.reverse : ∀ {ds : List D} {vs : List V}, RDs G ρ η H ds vs → RDs G ρ η H ds.reverse vs.reverse
  | [], vs, h => by rw [RDs] at h; subst h; exact RDs.nil
  | d :: ds, vs, h => by
    rw [RDs] at h
    obtain ⟨v, r, e1, h1, h2⟩ := h
    subst e1
    rw [List.reverse_cons, List.reverse_cons]
    exact RDs.append (RDs.reverse h2) (RDs.cons h1 RDs.nil)
theorem RDs.none_of {ds : List D} {vs : List V} {i : Nat} (h : RDs G ρ η H ds vs) (e : ds[i]? = none) : vs[i]? = none := by
  have h1 := h.length
  have h2 := List.getElem?_eq_none_iff.mp e
  exact List.getElem?_eq_none_iff.mpr (by omega)
end

/-! ### the store -/
def RO (G : Gm) (ρ η : List Addr) (H : Hp) (a : Addr) : O → Prop
  | .lst ds => ∃ vs, H a = some (.lst vs) ∧ vs.length ≤ sizeLine ∧ RDs G ρ η H ds vs
  | .dn ks ds => ∃ xs vs, H a = some (.ext (dnO G a xs)) ∧ (nks ks = some (xs.map (·.1)) ∧ (xs.map (·.1)).Nodup ∧ (∀ x ∈ xs, x.1.depth ≤ 8) ∧ (a == sysModules) = false ∧ xs.length ≤ sizeLine) ∧
      Vals vs (xs.map (·.2.2)) ∧ RDs G ρ η H ks (xs.map fun x => V.ref x.2.1) ∧ RDs G ρ η H ds vs
  | .dl ks ds => ∃ od xs vs, H a = some (.frz od (.ext (dnO G a xs))) ∧ (nks ks = some (xs.map (·.1)) ∧ (xs.map (·.1)).Nodup ∧ (∀ x ∈ xs, x.1.depth ≤ 8) ∧ (a == sysModules) = false ∧ xs.length ≤ sizeLine) ∧
      Vals vs (xs.map (·.2.2)) ∧ RDs G ρ η H ks (xs.map fun x => V.ref x.2.1) ∧ RDs G ρ η H ds vs
  | .dk kvs => ∃ l : List (Key × V), H a = some (.dK l) ∧ l.length ≤ sizeLine ∧ l.map (·.1) = kvs.map (·.1) ∧ RDs G ρ η H (kvs.map (·.2)) (l.map (·.2))
  | .ins c fs => ∃ dx l, H a = some (.ins (G.cl c) dx l) ∧ l.map (·.1) = fs.map (·.1) ∧ RDs G ρ η H (fs.map (·.2)) (l.map (·.2))
/-- what stands there is no table -/
def NoT (H : Hp) (a : Addr) : Prop := ∃ o, H a = some o ∧ ∀ ps, o ≠ .tbl ps
theorem NoT.ne {H : Hp} {a : Addr} (h : NoT H a) : H a ≠ none := by obtain ⟨o, e, _⟩ := h; rw [e]; exact fun z => nomatch z
theorem NoT.same {H H' : Hp} {a : Addr} (h : NoT H a) (k : Same H H') : NoT H' a := by obtain ⟨o, e, t⟩ := h; exact ⟨o, k a o e, t⟩
/-- a heap with one object -/
theorem heap_one (c : Addr) (o : Obj) (ho : ∀ a b s, o ≠ ⟨a, b, .freed, s⟩) : ∃ h : Heap, h.get? c = some o := by
  refine ⟨⟨Array.replicate (c + 1) o, {}⟩, ?_⟩
  unfold Heap.get?
  have : (Array.replicate (c + 1) o)[c]? = some o := by simp
  simp only [this]
  split
  · rename_i h
    injection h with h
    exact absurd h (ho _ _ _)
  · rfl
theorem code_dn {G : Gm} {a c : Addr} {q : Str} {xs : List (NestedKey × Addr × Value)} : LamX.CodeO c q ≠ .ext (dnO G a xs) := fun z => by
  unfold LamX.CodeO at z
  injection z with z
  by_cases hac : a = c
  · subst hac
    obtain ⟨h, hh⟩ := heap_one a ⟨.none, none, .fields #[.none, .str q default], #[]⟩ (fun a b s z => by cases z)
    have k : (fun h : Heap => ∃ (oc : Obj) (vs : Array Value) (t : Tok), h.get? a = some oc ∧ oc.data = .fields vs ∧ vs[1]? = some (.str q t)) h := ⟨_, _, _, hh, rfl, rfl⟩
    rw [z] at k
    obtain ⟨o, es, ep, h1, _, h3, _⟩ := k
    rw [hh] at h1
    cases h1
    cases h3
  · obtain ⟨h, hh⟩ := heap_one c ⟨.none, none, .fields #[.none, .str q default], #[]⟩ (fun a b s z => by cases z)
    have k : (fun h : Heap => ∃ (oc : Obj) (vs : Array Value) (t : Tok), h.get? c = some oc ∧ oc.data = .fields vs ∧ vs[1]? = some (.str q t)) ⟨Array.replicate (c + 1) ⟨.none, none, .fields #[.none, .str q default], #[]⟩, {}⟩ := by
      refine ⟨⟨.none, none, .fields #[.none, .str q default], #[]⟩, _, _, ?_, rfl, rfl⟩
      unfold Heap.get?
      have : (Array.replicate (c + 1) (⟨.none, none, .fields #[.none, .str q default], #[]⟩ : Obj))[c]? = some ⟨.none, none, .fields #[.none, .str q default], #[]⟩ := by simp
      simp only [this]
    rw [z] at k
    obtain ⟨o, es, ep, h1, _, h3, _⟩ := k
    unfold Heap.get? at h1
    cases hx : (Array.replicate (c + 1) (⟨.none, none, .fields #[.none, .str q default], #[]⟩ : Obj))[a]? with
    | none => simp only [hx] at h1; cases h1
    | some u =>
      have : u = ⟨.none, none, .fields #[.none, .str q default], #[]⟩ := by
        obtain ⟨hl, e⟩ := Array.getElem?_eq_some_iff.mp hx
        simpa using e.symm
      simp only [hx, this] at h1
      injection h1 with h1
      rw [← h1] at h3
      cases h3
theorem RO.noT {G : Gm} {ρ η : List Addr} {H : Hp} {a : Addr} {o : O} (h : RO G ρ η H a o) : NoT H a := by
  cases o with
  | lst ds => obtain ⟨_, e, _⟩ := h; exact ⟨_, e, fun _ z => nomatch z⟩
  | dn ks ds => obtain ⟨_, _, e, _⟩ := h; exact ⟨_, e, fun _ z => nomatch z⟩
  | dl ks ds => obtain ⟨_, _, _, e, _⟩ := h; exact ⟨_, e, fun _ z => nomatch z⟩
  | dk kvs => obtain ⟨_, e, _⟩ := h; exact ⟨_, e, fun _ z => nomatch z⟩
  | ins c fs => obtain ⟨_, _, e, _⟩ := h; exact ⟨_, e, fun _ z => nomatch z⟩
theorem RO.noC {G : Gm} {ρ η : List Addr} {H : Hp} {a c : Addr} {q : Str} {o : O} (h : RO G ρ η H a o) : H a ≠ some (LamX.CodeO c q) := by
  cases o with
  | lst ds => obtain ⟨_, e, _⟩ := h; rw [e]; exact fun z => by unfold LamX.CodeO at z; cases z
  | dn ks ds => obtain ⟨_, _, e, _⟩ := h; rw [e]; exact fun z => code_dn (Option.some.inj z).symm
  | dl ks ds => obtain ⟨_, _, _, e, _⟩ := h; rw [e]; exact fun z => by unfold LamX.CodeO at z; cases z
  | dk kvs => obtain ⟨_, e, _⟩ := h; rw [e]; exact fun z => by unfold LamX.CodeO at z; cases z
  | ins c fs => obtain ⟨_, _, e, _⟩ := h; rw [e]; exact fun z => by unfold LamX.CodeO at z; cases z
theorem RO.some {G : Gm} {ρ η : List Addr} {H : Hp} {a : Addr} {o : O} (h : RO G ρ η H a o) : H a ≠ none := by
  cases o with
  | lst ds => obtain ⟨_, e, _⟩ := h; rw [e]; exact fun z => nomatch z
  | dn ks ds => obtain ⟨_, _, e, _⟩ := h; rw [e]; exact fun z => nomatch z
  | dl ks ds => obtain ⟨_, _, _, e, _⟩ := h; rw [e]; exact fun z => nomatch z
  | dk kvs => obtain ⟨_, e, _⟩ := h; rw [e]; exact fun z => nomatch z
  | ins c fs => obtain ⟨_, _, e, _⟩ := h; rw [e]; exact fun z => nomatch z
theorem RO.mono {G : Gm} {ρ η ρ' η' : List Addr} {H H' : Hp} {a : Addr} {o : O} (h : RO G ρ η H a o) (e : Ext ρ H ρ' H') (hη : ∀ a, a ∈ η' → a ∈ η ∨ H a = none) (k : H' a = H a) : RO G ρ' η' H' a o := by
  cases o with
  | lst ds => obtain ⟨vs, q, z, r⟩ := h; exact ⟨vs, k.trans q, z, r.mono e hη⟩
  | dn ks ds => obtain ⟨xs, vs, q, z, u, r, t⟩ := h; exact ⟨xs, vs, k.trans q, z, u, r.mono e hη, t.mono e hη⟩
  | dl ks ds => obtain ⟨od, xs, vs, q, z, u, r, t⟩ := h; exact ⟨od, xs, vs, k.trans q, z, u, r.mono e hη, t.mono e hη⟩
  | dk kvs => obtain ⟨l, q, z, u, r⟩ := h; exact ⟨l, k.trans q, z, u, r.mono e hη⟩
  | ins c fs => obtain ⟨dx, l, q, u, r⟩ := h; exact ⟨dx, l, k.trans q, u, r.mono e hη⟩

structure RS (G : Gm) (ρ η : List Addr) (H : Hp) (S : Sto) : Prop where
  len : ρ.length = S.length
  nd : ρ.Nodup
  dis : ∀ a ∈ ρ, a ∉ η
  hid : ∀ a ∈ η, NoT H a
  ob : ∀ (n : Nat) a o, ρ[n]? = some a → S[n]? = some o → RO G ρ η H a o
  tab : LamX.Tabs G.tb H

section
variable {G : Gm} {ρ η ρ' η' : List Addr} {H H' : Hp} {S : Sto}
theorem RS.addr (r : RS G ρ η H S) {n : Nat} {o : O} (h : S[n]? = some o) : ∃ a, ρ[n]? = some a ∧ RO G ρ η H a o := by
  obtain ⟨hl, _⟩ := List.getElem?_eq_some_iff.mp h
  have hn : n < ρ.length := by rw [r.len]; exact hl
  exact ⟨ρ[n], List.getElem?_eq_getElem hn, r.ob n _ o (List.getElem?_eq_getElem hn) h⟩
theorem RS.somes (r : RS G ρ η H S) : ∀ a ∈ ρ, H a ≠ none := fun a ha => by
  obtain ⟨n, hn, e⟩ := List.mem_iff_getElem.mp ha
  have hs : n < S.length := by rw [← r.len]; exact hn
  exact (r.ob n a S[n] (by rw [List.getElem?_eq_getElem hn, e]) (List.getElem?_eq_getElem hs)).some
theorem RS.fresh (r : RS G ρ η H S) {p : Addr} (h : H p = none) : p ∉ ρ ∧ p ∉ η := ⟨fun z => r.somes p z h, fun z => (r.hid p z).ne h⟩
theorem RS.at_ (r : RS G ρ η H S) {a : Addr} (ha : a ∈ ρ) : ∃ o, RO G ρ η H a o := by
  obtain ⟨n, hn, e⟩ := List.mem_iff_getElem.mp ha
  have hs : n < S.length := by rw [← r.len]; exact hn
  exact ⟨_, r.ob n a S[n] (by rw [List.getElem?_eq_getElem hn, e]) (List.getElem?_eq_getElem hs)⟩
theorem RS.noT (r : RS G ρ η H S) : ∀ a ∈ ρ, NoT H a := fun a ha => let ⟨_, h⟩ := r.at_ ha; h.noT
theorem RS.noC (r : RS G ρ η H S) {a c : Addr} {q : Str} (ha : a ∈ ρ) : H a ≠ some (LamX.CodeO c q) := let ⟨_, h⟩ := r.at_ ha; h.noC
/-- the heap grows -/
theorem RS.same (r : RS G ρ η H S) (k : Same H H') : RS G ρ η H' S := by
  refine ⟨r.len, r.nd, r.dis, fun a ha => (r.hid a ha).same k, fun n a o h1 h2 => ?_, r.tab.ext k⟩
  · have q := r.ob n a o h1 h2
    refine q.mono (Ext.of_same k) (fun _ h => .inl h) ?_
    cases e : H a with
    | none => exact absurd e q.some
    | some u => exact k a u e
theorem RS.hide (r : RS G ρ η H S) {a : Addr} (h : H a = none) (k : Same H H') (h' : NoT H' a) : RS G ρ (a :: η) H' S := by
  have r1 := r.same k
  have nf := r.fresh h
  refine ⟨r.len, r.nd, fun b hb z => ?_, fun b hb => ?_, fun n b o h1 h2 => ?_, r.tab.ext k⟩
  · rcases List.mem_cons.mp z with e | e
    · exact nf.1 (e ▸ hb)
    · exact r.dis b hb e
  · rcases List.mem_cons.mp hb with e | e
    · rw [e]; exact h'
    · exact r1.hid b e
  · have q := r.ob n b o h1 h2
    refine q.mono (Ext.of_same k) (fun c hc => ?_) ?_
    · rcases List.mem_cons.mp hc with e | e
      · rw [e]; exact .inr h
      · exact .inl e
    · cases e : H b with
      | none => exact absurd e q.some
      | some u => exact k b u e
theorem RS.unhide {a : Addr} (r : RS G ρ (a :: η) H S) : RS G ρ η H S :=
  ⟨r.len, r.nd, fun b hb z => r.dis b hb (List.mem_cons_of_mem _ z), fun b hb => r.hid b (List.mem_cons_of_mem _ hb), fun n b o h1 h2 =>
    (r.ob n b o h1 h2).mono (Ext.refl ρ H) (fun c hc => .inl (List.mem_cons_of_mem _ hc)) rfl, r.tab⟩
theorem RD.unhide {a : Addr} {d : D} {v : V} (r : RD G ρ (a :: η) H d v) : RD G ρ η H d v := r.mono (Ext.refl ρ H) fun c hc => .inl (List.mem_cons_of_mem _ hc)
theorem RDs.unhide {a : Addr} {d : List D} {v : List V} (r : RDs G ρ (a :: η) H d v) : RDs G ρ η H d v := r.mono (Ext.refl ρ H) fun c hc => .inl (List.mem_cons_of_mem _ hc)
/-- a hidden list is taken into the store -/
theorem ext_adopt (r : RS G ρ η H S) (e : Ext ρ H ρ' H') {a : Addr} (h : Nul H a) : Ext ρ H (ρ' ++ [a]) H' :=
  ⟨let ⟨t, q⟩ := e.pre; ⟨t ++ [a], by rw [q, List.append_assoc]⟩, fun b o q n nt => by
    obtain ⟨h1, h2⟩ := e.st b o q n nt
    refine ⟨h1, fun z => ?_⟩
    rcases List.mem_append.mp z with z | z
    · exact h2 z
    · have : b = a := by simpa using z
      rw [this] at q
      obtain ⟨ps, rfl⟩ := h _ q
      exact nt ps rfl, e.fz⟩
mutual
theorem RD.adopt {a : Addr} (n1 : ∀ o vs, H a ≠ some (.frz o (.tup vs))) (n0 : ∀ l, H a ≠ some (.xd l)) : ∀ {d : D} {v : V}, RD G ρ (a :: η) H d v → RD G (ρ ++ [a]) η H d v
  | .non, v, h => by rw [RD] at h ⊢; exact h
  | .bl _, v, h => by rw [RD] at h ⊢; exact h
  | .int _, v, h => by rw [RD] at h ⊢; exact h
  | .str _, v, h => by rw [RD] at h ⊢; exact h
  | .tup ds, v, h => by
    rw [RD] at h ⊢
    obtain ⟨b, vs, e1, h1, hl, h2⟩ := h
    refine ⟨b, vs, e1, ?_, hl, RDs.adopt n1 n0 h2⟩
    rcases h1 with ⟨o, r, q, n⟩ | k
    · refine .inl ⟨o, r, q, fun z => ?_⟩
      rcases List.mem_append.mp z with z | z
      · exact n z
      · have : b = a := by simpa using z
        rw [this] at r
        exact n1 _ _ r
    · exact .inr k
  | .lst ds, v, h => by
    rw [RD] at h ⊢
    obtain ⟨b, vs, e1, ⟨r, n1', n2⟩, hl, h2⟩ := h
    refine ⟨b, vs, e1, ⟨r, fun z => ?_, fun z => n2 (List.mem_cons_of_mem _ z)⟩, hl, RDs.adopt n1 n0 h2⟩
    rcases List.mem_append.mp z with z | z
    · exact n1' z
    · exact n2 (by simp at z; simp [z])
  | .dct ks ds, v, h => by
    rw [RD] at h ⊢
    obtain ⟨b, xs, vs, e1, ⟨r, n1', n2⟩, q, hv, h2, h3⟩ := h
    refine ⟨b, xs, vs, e1, ⟨r, fun z => ?_, fun z => n2 (List.mem_cons_of_mem _ z)⟩, q, hv, RDs.adopt n1 n0 h2, RDs.adopt n1 n0 h3⟩
    rcases List.mem_append.mp z with z | z
    · exact n1' z
    · exact n2 (by simp at z; simp [z])
  | .ref n, v, h => by
    rw [RD] at h ⊢
    obtain ⟨b, h1, h2⟩ := h
    obtain ⟨hl, _⟩ := List.getElem?_eq_some_iff.mp h1
    exact ⟨b, by rw [List.getElem?_append_left hl]; exact h1, h2⟩
  | .exn b d c fs, v, h => by
    rw [RD] at h ⊢
    refine ⟨h.1, h.2.imp id fun ⟨dd, e1, e2, e3⟩ => ⟨dd, e1, e2, fun z => ?_⟩⟩
    rcases List.mem_append.mp z with z | z
    · exact e3 z
    · have : dd = a := by simpa using z
      rw [this] at e2
      exact n0 _ e2
  | .scr ds, v, h => by
    rw [RD] at h ⊢
    obtain ⟨b, vs, e1, q, hl, h2⟩ := h
    refine ⟨b, vs, e1, ?_, hl, RDs.adopt n1 n0 h2⟩
    rcases q with ⟨r, n1', n2⟩ | k
    · refine .inl ⟨r, fun z => ?_, fun z => n2 (List.mem_cons_of_mem _ z)⟩
      rcases List.mem_append.mp z with z | z
      · exact n1' z
      · exact n2 (by simp at z; simp [z])
    · exact .inr k
theorem RDs.adopt {a : Addr} (n1 : ∀ o vs, H a ≠ some (.frz o (.tup vs))) (n0 : ∀ l, H a ≠ some (.xd l)) : ∀ {ds : List D} {vs : List V}, RDs G ρ (a :: η) H ds vs → RDs G (ρ ++ [a]) η H ds vs
  | [], vs, h => by rw [RDs] at h ⊢; exact h
  | d :: ds, vs, h => by
    rw [RDs] at h ⊢
    obtain ⟨v, r, e1, h1, h2⟩ := h
    exact ⟨v, r, e1, RD.adopt n1 n0 h1, RDs.adopt n1 n0 h2⟩
end
theorem RO.adopt {a b : Addr} {o : O} (n1 : ∀ o vs, H a ≠ Option.some (HO.frz o (HO.tup vs))) (n0 : ∀ l, H a ≠ Option.some (HO.xd l)) (h : RO G ρ (a :: η) H b o) : RO G (ρ ++ [a]) η H b o := by
  cases o with
  | lst ds => obtain ⟨vs, q, z, r⟩ := h; exact ⟨vs, q, z, r.adopt n1 n0⟩
  | dn ks ds => obtain ⟨xs, vs, q, z, u, r, t⟩ := h; exact ⟨xs, vs, q, z, u, r.adopt n1 n0, t.adopt n1 n0⟩
  | dl ks ds => obtain ⟨od, xs, vs, q, z, u, r, t⟩ := h; exact ⟨od, xs, vs, q, z, u, r.adopt n1 n0, t.adopt n1 n0⟩
  | dk kvs => obtain ⟨l, q, z, u, r⟩ := h; exact ⟨l, q, z, u, r.adopt n1 n0⟩
  | ins c fs => obtain ⟨dx, l, q, u, r⟩ := h; exact ⟨dx, l, q, u, r.adopt n1 n0⟩
theorem RS.adopt {a : Addr} {o : O} (r : RS G ρ (a :: η) H S) (na : a ∉ η) (n1 : ∀ o vs, H a ≠ some (.frz o (.tup vs))) (n0 : ∀ l, H a ≠ some (.xd l)) (h : RO G (ρ ++ [a]) η H a o) : RS G (ρ ++ [a]) η H (S ++ [o]) := by
  have na' : a ∉ ρ := fun z => r.dis a z List.mem_cons_self
  refine ⟨by simp [r.len], ?_, fun b hb => ?_, fun b hb => r.hid b (List.mem_cons_of_mem _ hb), fun n b u h1 h2 => ?_, r.tab⟩
  · refine List.nodup_append.mpr ⟨r.nd, by simp, fun x hx y hy e => ?_⟩
    have : y = a := by simpa using hy
    exact na' (this ▸ e ▸ hx)
  · rcases List.mem_append.mp hb with z | z
    · exact fun q => r.dis b z (List.mem_cons_of_mem _ q)
    · have : b = a := by simpa using z
      rw [this]; exact na
  · by_cases hn : n < ρ.length
    · rw [List.getElem?_append_left hn] at h1
      rw [List.getElem?_append_left (by rw [← r.len]; exact hn)] at h2
      exact (r.ob n b u h1 h2).adopt n1 n0
    · have hn' : n = ρ.length := by
        obtain ⟨q, _⟩ := List.getElem?_eq_some_iff.mp h1
        simp at q
        omega
      subst hn'
      rw [List.getElem?_append_right (Nat.le_refl _)] at h1
      rw [r.len, List.getElem?_append_right (Nat.le_refl _)] at h2
      simp at h1 h2
      subst h1 h2
      exact h
theorem tabs_upd (r : RS G ρ η H S) {a : Addr} {u : HO} (ha : a ∈ ρ) : LamX.Tabs G.tb (upd H a u) := fun p hp => by
  obtain ⟨ps, h1, h2, h3⟩ := r.tab p hp
  have n1 : p.1 ≠ a := fun z => by
    obtain ⟨o, e1, e2⟩ := r.noT a ha
    rw [← z, h1] at e1
    exact e2 ps (Option.some.inj e1).symm
  refine ⟨ps, by rw [upd_ne n1]; exact h1, h2, fun pos cv hc => ?_⟩
  obtain ⟨c, e1, e2⟩ := h3 pos cv hc
  have n2 : c ≠ a := fun z => r.noC ha (z ▸ e2)
  exact ⟨c, e1, by rw [upd_ne n2]; exact e2⟩
/-- an object of the store is written -/
theorem RS.write (r : RS G ρ η H S) {n : Nat} {a : Addr} {u : HO} {o : O} (h : ρ[n]? = some a) (new : RO G ρ η (upd H a u) a o) (nz : ∀ o u, H a ≠ some (.frz o u)) : RS G ρ η (upd H a u) (S.set n o) ∧ Ext ρ H ρ (upd H a u) := by
  have ha : a ∈ ρ := List.mem_of_getElem? h
  have e : Ext ρ H ρ (upd H a u) := ⟨⟨[], by simp⟩, fun b w q nb _ => ⟨by rw [upd_ne (show b ≠ a from fun z => nb (z ▸ ha))]; exact q, nb⟩, fun b w y q => by rw [upd_ne (show b ≠ a from fun z => nz w y (z ▸ q))]; exact q⟩
  refine ⟨⟨by simp [r.len], r.nd, r.dis, fun b hb => ?_, fun m b w h1 h2 => ?_, tabs_upd r ha⟩, e⟩
  · have q : b ≠ a := fun z => r.dis a ha (z ▸ hb)
    obtain ⟨o, e1, e2⟩ := r.hid b hb
    exact ⟨o, by rw [upd_ne q]; exact e1, e2⟩
  · by_cases hm : m = n
    · subst hm
      rw [h] at h1
      have e1 : a = b := Option.some.inj h1
      subst e1
      have hl : m < S.length := by rw [← r.len]; exact (List.getElem?_eq_some_iff.mp h).1
      rw [List.getElem?_set_self hl] at h2
      have e2 : o = w := Option.some.inj h2
      subst e2
      exact new
    · rw [List.getElem?_set_ne (Ne.symm hm)] at h2
      have nb : b ≠ a := fun z => hm (by
        subst z
        obtain ⟨l1, x1⟩ := List.getElem?_eq_some_iff.mp h1
        obtain ⟨l2, x2⟩ := List.getElem?_eq_some_iff.mp h
        exact (List.getElem_inj r.nd).mp (x1.trans x2.symm))
      exact (r.ob m b w h1 h2).mono e (fun _ q => .inl q) (upd_ne nb)
end
end Fx

/-! Fx2: readings by deterministic functions; names, constants, blocks, loops, comprehensions. -/
namespace Fx
open PySem PySem.Spec L2

inductive OutS where
  | nx (σ : Sl) (S : Sto) | rt (d : D) (S : Sto) | bk (σ : Sl) (S : Sto) | ct (σ : Sl) (S : Sto) | exc (x : Exc) (σ : Sl) (S : Sto) | stuck

def Out.bind {α β : Type} (o : Out α) (f : α → Sto → Out β) : Out β := match o with
  | .ok a S => f a S
  | .exc x S => .exc x S
  | .stuck => .stuck
@[simp] theorem Out.bind_ok {α β : Type} (a : α) (S : Sto) (f : α → Sto → Out β) : (Out.ok a S).bind f = f a S := rfl
@[simp] theorem Out.bind_exc {α β : Type} (x : Exc) (S : Sto) (f : α → Sto → Out β) : (Out.exc x S : Out α).bind f = .exc x S := rfl
@[simp] theorem Out.bind_stuck {α β : Type} (f : α → Sto → Out β) : (Out.stuck : Out α).bind f = .stuck := rfl
/-- a statement goes on from an expression's end -/
def Out.bindS {α : Type} (o : Out α) (σ : Sl) (f : α → Sto → OutS) : OutS := match o with
  | .ok a S => f a S
  | .exc x S => .exc x σ S
  | .stuck => .stuck
@[simp] theorem Out.bindS_ok {α : Type} (a : α) (S : Sto) (σ : Sl) (f : α → Sto → OutS) : (Out.ok a S).bindS σ f = f a S := rfl
@[simp] theorem Out.bindS_exc {α : Type} (x : Exc) (S : Sto) (σ : Sl) (f : α → Sto → OutS) : (Out.exc x S : Out α).bindS σ f = .exc x σ S := rfl
@[simp] theorem Out.bindS_stuck {α : Type} (σ : Sl) (f : α → Sto → OutS) : (Out.stuck : Out α).bindS σ f = .stuck := rfl

abbrev FE := Sl → Sto → Out D
abbrev FL := Sl → Sto → Out (List D)
abbrev FT := Sl → Sto → Out Bool
abbrev FS := Sl → Sto → OutS
abbrev FG := D → Sl → Sto → Option (Sl × Sto)

/-- the slots -/
structure RSl (G : Gm) (ρ η : List Addr) (H : Hp) (σd : Sl) (σ : St) : Prop where
  len : σd.length = σ.length
  at_ : ∀ (i : Nat) (d : D), σd[i]? = some (some d) → ∃ v, σ[i]? = some (some v) ∧ RD G ρ η H d v
/-- the exception -/
def RX (G : Gm) (ρ η : List Addr) (H : Hp) (x : Exc) (C : Value) (dd : Option Addr) : Prop :=
  C = .ref (G.cl x.c) ∧ ((x.fs = [] ∧ dd = none) ∨ ∃ d l, dd = some d ∧ H d = some (.xd l) ∧ l.map (·.1) = x.fs.map (·.1) ∧ RDs G ρ η H (x.fs.map (·.2)) (l.map (·.2)))

section
variable {G : Gm} {ρ η ρ' η' : List Addr} {H H' : Hp} {S : Sto} {σd : Sl} {σ : St}
theorem RSl.mono (r : RSl G ρ η H σd σ) (e : Ext ρ H ρ' H') (hη : ∀ a, a ∈ η' → a ∈ η ∨ H a = none) : RSl G ρ' η' H' σd σ :=
  ⟨r.len, fun i d h => let ⟨v, h1, h2⟩ := r.at_ i d h; ⟨v, h1, h2.mono e hη⟩⟩
theorem RSl.ext (r : RSl G ρ η H σd σ) (e : Ext ρ H ρ' H') : RSl G ρ' η H' σd σ := r.mono e fun _ h => .inl h
theorem RSl.unhide {a : Addr} (r : RSl G ρ (a :: η) H σd σ) : RSl G ρ η H σd σ := r.mono (Ext.refl ρ H) fun c hc => .inl (List.mem_cons_of_mem _ hc)
theorem RSl.set (r : RSl G ρ η H σd σ) (i : Nat) {d : D} {v : V} (h : RD G ρ η H d v) : RSl G ρ η H (σd.set i (some d)) (σ.set i (some v)) := by
  refine ⟨by simp [r.len], fun j e h1 => ?_⟩
  by_cases hj : j = i
  · subst hj
    by_cases hl : j < σd.length
    · rw [List.getElem?_set_self hl] at h1
      have e1 : d = e := by simpa using h1
      subst e1
      exact ⟨v, by rw [List.getElem?_set_self (by rw [← r.len]; exact hl)], h⟩
    · rw [List.getElem?_eq_none (by simpa using hl)] at h1
      cases h1
  · rw [List.getElem?_set_ne (Ne.symm hj)] at h1 ⊢
    exact r.at_ j e h1
theorem RSl.forget (r : RSl G ρ η H σd σ) (i : Nat) : RSl G ρ η H (σd.set i none) (σ.set i none) := by
  refine ⟨by simp [r.len], fun j e h1 => ?_⟩
  by_cases hj : j = i
  · subst hj
    by_cases hl : j < σd.length
    · rw [List.getElem?_set_self hl] at h1
      cases h1
    · rw [List.getElem?_eq_none (by simpa using hl)] at h1
      cases h1
  · rw [List.getElem?_set_ne (Ne.symm hj)] at h1 ⊢
    exact r.at_ j e h1
end

/-! ### what is wanted behind -/
section
variable (G : Gm) (η : List Addr) (σ : St) (W : WX)
def PostX (ρ : List Addr) (H : Hp) (x : Exc) (S' : Sto) : Prop := ∀ ρ' H' C dd, Ext ρ H ρ' H' → RS G ρ' η H' S' → RX G ρ' η H' x C dd → W C dd σ H'
def Post {α : Type} (ρ : List Addr) (H : Hp) (o : Out α) (k : α → Sto → Prop) : Prop := match o with
  | .ok a S' => k a S'
  | .exc x S' => PostX G η σ W ρ H x S'
  | .stuck => False
/-- a value's end, a truth's, values' -/
def KE (ρ : List Addr) (H : Hp) (Q : VK) : D → Sto → Prop := fun d S' => ∀ ρ' H' v, Ext ρ H ρ' H' → RS G ρ' η H' S' → RD G ρ' η H' d v → Q v H'
def KT (ρ : List Addr) (H : Hp) (Q : Bool → Hp → Prop) : Bool → Sto → Prop := fun b S' => ∀ ρ' H', Ext ρ H ρ' H' → RS G ρ' η H' S' → Q b H'
def KA (ρ : List Addr) (H : Hp) (Q : List V → Hp → Prop) : List D → Sto → Prop := fun ds S' => ∀ ρ' H' vs, Ext ρ H ρ' H' → RS G ρ' η H' S' → RDs G ρ' η H' ds vs → Q vs H'
/-- a new list's: it is hidden -/
def KL (ρ : List Addr) (H : Hp) (Q : VK) : List D → Sto → Prop := fun ds S' => ∀ ρ' H' a vs, Ext ρ H ρ' H' → Nul H a → a ∉ η → RS G ρ' (a :: η) H' S' → H' a = some (.lst vs) → vs.length ≤ sizeLine → RDs G ρ' (a :: η) H' ds vs → Q (.ref a) H'
end
section
variable {G : Gm} {ρ η ρ1 : List Addr} {H H1 : Hp} {σ : St} {W : WX}
theorem PostX.shift {x : Exc} {S : Sto} (p : PostX G η σ W ρ H x S) (e : Ext ρ H ρ1 H1) : PostX G η σ W ρ1 H1 x S := fun ρ' H' C dd e' => p ρ' H' C dd (e.trans e')
theorem Post.shift {α : Type} {o : Out α} {k : α → Sto → Prop} (p : Post G η σ W ρ H o k) (e : Ext ρ H ρ1 H1) : Post G η σ W ρ1 H1 o k := by
  cases o with
  | ok a S => exact p
  | exc x S => exact PostX.shift p e
  | stuck => exact p
theorem Post.imp {α : Type} {o : Out α} {k k' : α → Sto → Prop} (p : Post G η σ W ρ H o k) (h : ∀ a S, k a S → k' a S) : Post G η σ W ρ H o k' := by
  cases o with
  | ok a S => exact h _ _ p
  | exc x S => exact p
  | stuck => exact p
theorem KE.shift {Q : VK} {d : D} {S : Sto} (k : KE G η ρ H Q d S) (e : Ext ρ H ρ1 H1) : KE G η ρ1 H1 Q d S := fun ρ' H' v e' => k ρ' H' v (e.trans e')
theorem KT.shift {Q : Bool → Hp → Prop} {d : Bool} {S : Sto} (k : KT G η ρ H Q d S) (e : Ext ρ H ρ1 H1) : KT G η ρ1 H1 Q d S := fun ρ' H' e' => k ρ' H' (e.trans e')
theorem KA.shift {Q : List V → Hp → Prop} {d : List D} {S : Sto} (k : KA G η ρ H Q d S) (e : Ext ρ H ρ1 H1) : KA G η ρ1 H1 Q d S := fun ρ' H' v e' => k ρ' H' v (e.trans e')
theorem Post.bind {α β : Type} {o : Out α} {g : α → Sto → Out β} {k : β → Sto → Prop} (p : Post G η σ W ρ H (o.bind g) k) : Post G η σ W ρ H o fun a S1 => Post G η σ W ρ H (g a S1) k := by
  cases o with
  | ok a S => exact p
  | exc x S => exact p
  | stuck => exact p
end

def LE (G : Gm) (W : WX) (f : FE) : TE := fun σ H Q => ∃ ρ η σd S, RSl G ρ η H σd σ ∧ RS G ρ η H S ∧ Post G η σ W ρ H (f σd S) (KE G η ρ H Q)
def LT (G : Gm) (W : WX) (f : FT) : TT := fun σ H Q => ∃ ρ η σd S, RSl G ρ η H σd σ ∧ RS G ρ η H S ∧ Post G η σ W ρ H (f σd S) (KT G η ρ H Q)
def LA (G : Gm) (W : WX) (f : FL) : TA := fun σ H Q => ∃ ρ η σd S, RSl G ρ η H σd σ ∧ RS G ρ η H S ∧ Post G η σ W ρ H (f σd S) (KA G η ρ H Q)
def LL (G : Gm) (W : WX) (f : FL) : TE := fun σ H Q => ∃ ρ η σd S, RSl G ρ η H σd σ ∧ RS G ρ η H S ∧ Post G η σ W ρ H (f σd S) (KL G η ρ H Q)

section
variable {G : Gm} {ρ η : List Addr} {H : Hp} {σ : St} {W : WX} {σd : Sl} {S : Sto} {β : Type}
/-- a part, then the rest -/
theorem LE.of {fa : FE} {g : D → Sto → Out β} {k : β → Sto → Prop} {Q' : VK} (rσ : RSl G ρ η H σd σ) (rs : RS G ρ η H S) (p : Post G η σ W ρ H ((fa σd S).bind g) k)
    (h : ∀ d S1 ρ1 H1 v, Ext ρ H ρ1 H1 → RSl G ρ1 η H1 σd σ → RS G ρ1 η H1 S1 → RD G ρ1 η H1 d v → Post G η σ W ρ1 H1 (g d S1) k → Q' v H1) : LE G W fa σ H Q' :=
  ⟨ρ, η, σd, S, rσ, rs, (p.bind).imp fun d S1 q ρ1 H1 v e r1 rd => h d S1 ρ1 H1 v e (rσ.ext e) r1 rd (q.shift e)⟩
theorem LT.of {fa : FT} {g : Bool → Sto → Out β} {k : β → Sto → Prop} {Q' : Bool → Hp → Prop} (rσ : RSl G ρ η H σd σ) (rs : RS G ρ η H S) (p : Post G η σ W ρ H ((fa σd S).bind g) k)
    (h : ∀ d S1 ρ1 H1, Ext ρ H ρ1 H1 → RSl G ρ1 η H1 σd σ → RS G ρ1 η H1 S1 → Post G η σ W ρ1 H1 (g d S1) k → Q' d H1) : LT G W fa σ H Q' :=
  ⟨ρ, η, σd, S, rσ, rs, (p.bind).imp fun d S1 q ρ1 H1 e r1 => h d S1 ρ1 H1 e (rσ.ext e) r1 (q.shift e)⟩
theorem LA.of {fa : FL} {g : List D → Sto → Out β} {k : β → Sto → Prop} {Q' : List V → Hp → Prop} (rσ : RSl G ρ η H σd σ) (rs : RS G ρ η H S) (p : Post G η σ W ρ H ((fa σd S).bind g) k)
    (h : ∀ d S1 ρ1 H1 v, Ext ρ H ρ1 H1 → RSl G ρ1 η H1 σd σ → RS G ρ1 η H1 S1 → RDs G ρ1 η H1 d v → Post G η σ W ρ1 H1 (g d S1) k → Q' v H1) : LA G W fa σ H Q' :=
  ⟨ρ, η, σd, S, rσ, rs, (p.bind).imp fun d S1 q ρ1 H1 v e r1 rd => h d S1 ρ1 H1 v e (rσ.ext e) r1 rd (q.shift e)⟩
end

/-! ### the judgements -/
class Fits (G : Gm) (X : Cx) : Prop where
  P : G.P = X.prog
  w : G.w = X.w
  K : G.K = X.K
structure JE (G : Gm) (X : Cx) (W : WX) (e : Expr) (f : FE) : Prop where
  pe : PE X e (LE G W f)
structure JT (G : Gm) (X : Cx) (W : WX) (e : Expr) (f : FT) : Prop where
  pt : PT X e (LT G W f)
structure JW (G : Gm) (X : Cx) (W : WX) (e : Expr) (f : FT) : Prop where
  pw : PW X e (LT G W f)
structure JA (G : Gm) (X : Cx) (W : WX) (es : List Expr) (f : FL) : Prop where
  pa : PA X es (LA G W f)
/-- an expression that makes a new list -/
structure JL (G : Gm) (X : Cx) (W : WX) (e : Expr) (f : FL) : Prop where
  pe : PE X e (LL G W f)
theorem PE.weak {X : Cx} {e : Expr} {t t' : TE} (p : PE X e t) (h : ∀ σ H Q, t' σ H Q → t σ H Q) : PE X e t' := ⟨fun pins s σ H Q I q => p.run pins s σ H Q I (h σ H Q q)⟩
theorem PT.weak {X : Cx} {e : Expr} {t t' : TT} (p : PT X e t) (h : ∀ σ H Q, t' σ H Q → t σ H Q) : PT X e t' := ⟨fun pins s σ H Q I q => p.run pins s σ H Q I (h σ H Q q)⟩
theorem PW.weak {X : Cx} {e : Expr} {t t' : TT} (p : PW X e t) (h : ∀ σ H Q, t' σ H Q → t σ H Q) : PW X e t' := ⟨fun wh pins s σ H Q I q => p.run wh pins s σ H Q I (h σ H Q q)⟩
theorem PA.weak {X : Cx} {e : List Expr} {t t' : TA} (p : PA X e t) (h : ∀ σ H Q, t' σ H Q → t σ H Q) : PA X e t' := ⟨fun pos pins s σ H Q I q => p.run pos pins s σ H Q I (h σ H Q q)⟩
theorem PS.weak {X : Cx} {e : Stmt} {t t' : TS} (p : PS X e t) (h : ∀ D σ H, t' D σ H → t D σ H) : PS X e t' := ⟨fun pins s σ H D I q => p.run pins s σ H D I (h D σ H q)⟩
theorem PSs.weak {X : Cx} {e : List Stmt} {t t' : TS} (p : PSs X e t) (h : ∀ D σ H, t' D σ H → t D σ H) : PSs X e t' := ⟨fun pins s σ H D I q => p.run pins s σ H D I (h D σ H q)⟩
theorem PG.weak {X : Cx} {e : Expr} {t t' : TG} (p : PG X e t) (h : ∀ v σ H Q, t' v σ H Q → t v σ H Q) : PG X e t' := ⟨fun pins s σ H v u Q I r q => p.run pins s σ H v u Q I r (h v σ H Q q)⟩

/-! ### names, constants -/
def fVar (i : Nat) : FE := fun σ S => match σ[i]? with
  | some (some d) => .ok d S
  | _ => .stuck
def fC (d : D) : FE := fun _ S => .ok d S
/-- all names of a scope's list are to be seen -/
def visB (sc : Scope) (x : Str) : Bool := match sc.names.lookup x with
  | some .local => true
  | some .cell => true
  | some .free => true
  | _ => false
theorem vis_of {sc : Scope} {x : Str} (h : visB sc x = true) : Vis sc x := by
  unfold visB at h
  split at h
  · exact .inl (by assumption)
  · exact .inr (.inl (by assumption))
  · exact .inr (.inr (by assumption))
  · cases h
section
variable {G : Gm} {X : Cx} {W : WX}
theorem je_var (i : Nat) {x : Str} {pos : Pos} (hN : X.N[i]? = some x := by rfl) (hv : visB X.env.scope x = true := by rfl) (hd : (x == ("__debug__" : Str)) = false := by rfl)
    (hcd : (x == ("__classdict__" : Str)) = false := by rfl) : JE G X W (.Name x pos) (fVar i) := by
  refine ⟨PE.weak (pe_var hN (vis_of hv) hd hcd) fun σ H Q h => ?_⟩
  obtain ⟨ρ, η, σd, S, rσ, rs, p⟩ := h
  unfold fVar at p
  split at p
  · rename_i d e
    obtain ⟨v, h1, h2⟩ := rσ.at_ i d e
    exact ⟨v, h1, p ρ H v (Ext.refl ρ H) rs h2⟩
  · exact p.elim
theorem je_c {e : Expr} {v : V} {d : D} (h : PE X e (tC v)) (hr : ∀ ρ η H, RD G ρ η H d v) : JE G X W e (fC d) := by
  refine ⟨PE.weak h fun σ H Q h => ?_⟩
  obtain ⟨ρ, η, σd, S, rσ, rs, p⟩ := h
  exact p ρ H v (Ext.refl ρ H) rs (hr ρ η H)
theorem je_int {i : Int} {j pos} : JE G X W (.Constant (.int i) j pos) (fC (.int i)) := je_c pe_int fun _ _ _ => by rw [RD]
theorem je_bl {b : Bool} {j pos} : JE G X W (.Constant (.bool b) j pos) (fC (.bl b)) := je_c pe_bl fun _ _ _ => by rw [RD]
theorem je_non {j pos} : JE G X W (.Constant .none j pos) (fC .non) := je_c pe_non fun _ _ _ => by rw [RD]
theorem je_str {x : Str} {j pos} : JE G X W (.Constant (.str x) j pos) (fC (.str x)) := je_c pe_str fun _ _ _ => by rw [RD]
/-- a constant of the module: an int, a text -/
theorem je_gint {x : Str} {i : Int} {pos : Pos} (hm : ∃ t, X.mg x = some (.int i t)) (hg : Gl X x := by rfl) (hd : (x == ("__debug__" : Str)) = false := by rfl) : JE G X W (.Name x pos) (fC (.int i)) := by
  obtain ⟨t, e⟩ := hm
  exact je_c (pe_glob (v := .int i) hg e ⟨t, rfl⟩ hd) fun _ _ _ => by rw [RD]
theorem je_gstr {x z : Str} {pos : Pos} (hm : ∃ t, X.mg x = some (.str z t)) (hg : Gl X x := by rfl) (hd : (x == ("__debug__" : Str)) = false := by rfl) : JE G X W (.Name x pos) (fC (.str z)) := by
  obtain ⟨t, e⟩ := hm
  exact je_c (pe_glob (v := .str z) hg e ⟨t, rfl⟩ hd) fun _ _ _ => by rw [RD]
end

/-! ### operators -/
/-- a rule by values has this answer -/
def Lnk (G : Gm) (r : R2) (op : D → D → Sto → Option D) : Prop := ∀ ρ η H S x y u v d (Q : VK), RS G ρ η H S → RD G ρ η H x u → RD G ρ η H y v → op x y S = some d →
  (∀ H' z, Same H H' → RD G ρ η H' d z → Q z H') → r u v H Q
def fBin (op : D → D → Sto → Option D) (fa fb : FE) : FE := fun σ S => (fa σ S).bind fun x S1 => (fb σ S1).bind fun y S2 => match op x y S2 with
  | some d => .ok d S2
  | none => .stuck
def Lnk1 (G : Gm) (r : V → Hp → VK → Prop) (op : D → Sto → Option D) : Prop := ∀ ρ η H S x u d (Q : VK), RS G ρ η H S → RD G ρ η H x u → op x S = some d →
  (∀ H' z, Same H H' → RD G ρ η H' d z → Q z H') → r u H Q
def fUn (op : D → Sto → Option D) (fa : FE) : FE := fun σ S => (fa σ S).bind fun x S1 => match op x S1 with
  | some d => .ok d S1
  | none => .stuck
def rOr (r r' : R2) : R2 := fun x y H Q => r x y H Q ∨ r' x y H Q
theorem OpR.or {X : Cx} {f : Value → Value → Sem Value} {r r' : R2} (h : OpR X f r) (h' : OpR X f r') : OpR X f (rOr r r') := fun pins s σ H x y v u Q I rx ry q =>
  q.elim (fun z => h pins s σ H x y v u Q I rx ry z) fun z => h' pins s σ H x y v u Q I rx ry z
section
variable {G : Gm} {X : Cx} {W : WX} {a b c : Expr} {fa fb fc : FE} {pos : Pos}
theorem opStep {ρ η : List Addr} {σ : St} {H : Hp} {S : Sto} {Q : VK} {o : Option D} (rs : RS G ρ η H S) (p : Post G η σ W ρ H (match o with | some d => (.ok d S : Out D) | none => .stuck) (KE G η ρ H Q)) :
    ∃ d, o = some d ∧ ∀ H' z, Same H H' → RD G ρ η H' d z → Q z H' := by
  cases o with
  | none => exact p.elim
  | some d => exact ⟨d, rfl, fun H' z k rd => p ρ H' z (Ext.of_same k) (rs.same k) rd⟩
theorem LE.bin {r : R2} {op : D → D → Sto → Option D} (l : Lnk G r op) : ∀ σ H Q, LE G W (fBin op fa fb) σ H Q → tOp r (LE G W fa) (LE G W fb) σ H Q := by
  rintro σ H Q ⟨ρ, η, σd, S, rσ, rs, p⟩
  refine LE.of rσ rs p fun x S1 ρ1 H1 u e1 rσ1 rs1 rx p1 => ?_
  refine LE.of rσ1 rs1 p1 fun y S2 ρ2 H2 v e2 rσ2 rs2 ry p2 => ?_
  have p3 := p2.imp (k' := KE G η ρ2 H2 Q) fun d S k => k.shift (e1.trans e2)
  obtain ⟨d, e, h⟩ := opStep rs2 p3
  exact l ρ2 η H2 S2 x y u v d Q rs2 (rx.ext e2) ry e h
theorem je_op {o : Operator} {r : R2} {op : D → D → Sto → Option D} (ho : OpR X (binaryOp o) r) (l : Lnk G r op) (ha : JE G X W a fa) (hb : JE G X W b fb) : JE G X W (.BinOp a o b pos) (fBin op fa fb) :=
  ⟨PE.weak (pe_op ho ha.pe hb.pe) (LE.bin l)⟩
theorem je_cmp {o : CmpOp} {r : R2} {op : D → D → Sto → Option D} (ho : OpR X (compareOp o) r) (l : Lnk G r op) (ha : JE G X W a fa) (hb : JE G X W b fb) (hm : behindInMarks o b = false := by first | exact nomark _ | rfl) :
    JE G X W (.Compare a [o] [b] pos) (fBin op fa fb) := ⟨PE.weak (pe_cmpR ho ha.pe hb.pe hm) (LE.bin l)⟩
theorem je_un {o : UnaryOp} {r : V → Hp → VK → Prop} {op : D → Sto → Option D} (ho : UnR X (unaryOp o) r) (l : Lnk1 G r op) (ha : JE G X W a fa) : JE G X W (.UnaryOp o a pos) (fUn op fa) := by
  refine ⟨PE.weak (pe_un ho ha.pe) ?_⟩
  rintro σ H Q ⟨ρ, η, σd, S, rσ, rs, p⟩
  refine LE.of rσ rs p fun x S1 ρ1 H1 u e1 rσ1 rs1 rx p1 => ?_
  have p3 := p1.imp (k' := KE G η ρ1 H1 Q) fun d S k => k.shift e1
  obtain ⟨d, e, h⟩ := opStep rs1 p3
  exact l ρ1 η H1 S1 x u d Q rs1 rx e h
/-- a < b < c -/
def fChain (op op' : D → D → Sto → Option D) (fa fb fc : FE) : FE := fun σ S => (fa σ S).bind fun x S1 => (fb σ S1).bind fun y S2 => match op x y S2 with
  | some (.bl true) => (fc σ S2).bind fun z S3 => (match op' y z S3 with
    | some d => .ok d S3
    | none => .stuck)
  | some (.bl false) => .ok (.bl false) S2
  | _ => .stuck

/-! ### tests, and, or, not -/
def fTest (f : FE) : FT := fun σ S => (f σ S).bind fun d S1 => match d with
  | .bl b => .ok b S1
  | _ => .stuck
theorem LE.test {f : FE} : ∀ σ H Q, LT G W (fTest f) σ H Q → tB (LE G W f) σ H Q := by
  rintro σ H Q ⟨ρ, η, σd, S, rσ, rs, p⟩
  refine LE.of rσ rs p fun x S1 ρ1 H1 u e1 rσ1 rs1 rx p1 => ?_
  cases x with
  | bl b =>
    rw [RD] at rx
    exact ⟨b, rx, p1 ρ1 H1 e1 rs1⟩
  | _ => exact p1.elim
theorem jt_val {e : Expr} {f : FE} (h : JE G X W e f) (he : ∀ whole, isTrue e X.env whole = (do let v ← whole; standAt e.pos; holding [v] (truthy v)) := by intro _; rfl) : JT G X W e (fTest f) :=
  ⟨PT.weak (pt_val h.pe he) LE.test⟩
theorem jt_cmp {o : CmpOp} {r : R2} {op : D → D → Sto → Option D} (ho : OpR X (compareOp o) r) (l : Lnk G r op) (ha : JE G X W a fa) (hb : JE G X W b fb) (hm : behindInMarks o b = false := by first | exact nomark _ | rfl) :
    JT G X W (.Compare a [o] [b] pos) (fTest (fBin op fa fb)) := by
  refine ⟨PT.weak (pt_cmpR ho ha.pe hb.pe hm) fun σ H Q h => ?_⟩
  have h2 : tB (LE G W (fBin op fa fb)) σ H Q := LE.test σ H Q h
  exact LE.bin l σ H _ h2
def fAndT (f g : FT) : FT := fun σ S => (f σ S).bind fun b S1 => match b with
  | true => g σ S1
  | false => .ok false S1
def fOrT (f g : FT) : FT := fun σ S => (f σ S).bind fun b S1 => match b with
  | true => .ok true S1
  | false => g σ S1
def fNotT (f : FT) : FT := fun σ S => (f σ S).bind fun b S1 => .ok (!b) S1
theorem LT.re {f : FT} {ρ ρ1 η : List Addr} {H H1 : Hp} {σ : St} {σd : Sl} {S : Sto} {Q : Bool → Hp → Prop} (e : Ext ρ H ρ1 H1) (rσ : RSl G ρ1 η H1 σd σ) (rs : RS G ρ1 η H1 S) (p : Post G η σ W ρ1 H1 (f σd S) (KT G η ρ H Q)) : LT G W f σ H1 Q :=
  ⟨ρ1, η, σd, S, rσ, rs, p.imp fun b S k => k.shift e⟩
theorem LE.re {f : FE} {ρ ρ1 η : List Addr} {H H1 : Hp} {σ : St} {σd : Sl} {S : Sto} {Q : VK} (e : Ext ρ H ρ1 H1) (rσ : RSl G ρ1 η H1 σd σ) (rs : RS G ρ1 η H1 S) (p : Post G η σ W ρ1 H1 (f σd S) (KE G η ρ H Q)) : LE G W f σ H1 Q :=
  ⟨ρ1, η, σd, S, rσ, rs, p.imp fun b S k => k.shift e⟩
variable {rest : List Expr} {f g : FT}
theorem jw_and1 (h : JT G X W a f) : JW G X W (.BoolOp .And [a] pos) f := ⟨pw_and1 h.pt⟩
theorem jw_or1 (h : JT G X W a f) : JW G X W (.BoolOp .Or [a] pos) f := ⟨pw_or1 h.pt⟩
theorem jw_and (h : JT G X W a f) (k : JW G X W (.BoolOp .And (b :: rest) pos) g) : JW G X W (.BoolOp .And (a :: b :: rest) pos) (fAndT f g) := by
  refine ⟨PW.weak (pw_and h.pt k.pw) ?_⟩
  rintro σ H Q ⟨ρ, η, σd, S, rσ, rs, p⟩
  refine LT.of rσ rs p fun c S1 ρ1 H1 e1 rσ1 rs1 p1 => ?_
  cases c with
  | true => exact LT.re e1 rσ1 rs1 p1
  | false => exact p1 ρ1 H1 e1 rs1
theorem jw_or (h : JT G X W a f) (k : JW G X W (.BoolOp .Or (b :: rest) pos) g) : JW G X W (.BoolOp .Or (a :: b :: rest) pos) (fOrT f g) := by
  refine ⟨PW.weak (pw_or h.pt k.pw) ?_⟩
  rintro σ H Q ⟨ρ, η, σd, S, rσ, rs, p⟩
  refine LT.of rσ rs p fun c S1 ρ1 H1 e1 rσ1 rs1 p1 => ?_
  cases c with
  | true => exact p1 ρ1 H1 e1 rs1
  | false => exact LT.re e1 rσ1 rs1 p1
theorem jt_w (h : JW G X W a f) : JT G X W a f := ⟨h.pw.pt⟩
theorem jt_not (h : JT G X W a f) : JT G X W (.UnaryOp .Not a pos) (fNotT f) := by
  refine ⟨PT.weak (pt_not h.pt) ?_⟩
  rintro σ H Q ⟨ρ, η, σd, S, rσ, rs, p⟩
  refine LT.of rσ rs p fun c S1 ρ1 H1 e1 rσ1 rs1 p1 => ?_
  exact p1 ρ1 H1 e1 rs1
def fAnd (f g : FE) : FE := fun σ S => (f σ S).bind fun d S1 => match d with
  | .bl true => g σ S1
  | .bl false => .ok (.bl false) S1
  | _ => .stuck
def fOr (f g : FE) : FE := fun σ S => (f σ S).bind fun d S1 => match d with
  | .bl true => .ok (.bl true) S1
  | .bl false => g σ S1
  | _ => .stuck
def fNot (f : FE) : FE := fun σ S => (f σ S).bind fun d S1 => match d with
  | .bl b => .ok (.bl (!b)) S1
  | _ => .stuck
theorem je_one {op} (h : JE G X W a fa) : JE G X W (.BoolOp op [a] pos) fa := ⟨pe_one h.pe⟩
theorem je_and (h : JE G X W a fa) (k : JE G X W (.BoolOp .And (b :: rest) pos) fb) : JE G X W (.BoolOp .And (a :: b :: rest) pos) (fAnd fa fb) := by
  refine ⟨PE.weak (pe_and h.pe k.pe) ?_⟩
  rintro σ H Q ⟨ρ, η, σd, S, rσ, rs, p⟩
  refine LE.of rσ rs p fun x S1 ρ1 H1 u e1 rσ1 rs1 rx p1 => ?_
  cases x with
  | bl c =>
    rw [RD] at rx
    refine ⟨c, rx, ?_⟩
    cases c with
    | true => exact LE.re e1 rσ1 rs1 p1
    | false => exact p1 ρ1 H1 (.bl false) e1 rs1 (by rw [RD])
  | _ => exact p1.elim
theorem je_or (h : JE G X W a fa) (k : JE G X W (.BoolOp .Or (b :: rest) pos) fb) : JE G X W (.BoolOp .Or (a :: b :: rest) pos) (fOr fa fb) := by
  refine ⟨PE.weak (pe_or h.pe k.pe) ?_⟩
  rintro σ H Q ⟨ρ, η, σd, S, rσ, rs, p⟩
  refine LE.of rσ rs p fun x S1 ρ1 H1 u e1 rσ1 rs1 rx p1 => ?_
  cases x with
  | bl c =>
    rw [RD] at rx
    refine ⟨c, rx, ?_⟩
    cases c with
    | true => exact p1 ρ1 H1 (.bl true) e1 rs1 (by rw [RD])
    | false => exact LE.re e1 rσ1 rs1 p1
  | _ => exact p1.elim
theorem je_not (h : JE G X W a fa) : JE G X W (.UnaryOp .Not a pos) (fNot fa) := by
  refine ⟨PE.weak (pe_not h.pe) ?_⟩
  rintro σ H Q ⟨ρ, η, σd, S, rσ, rs, p⟩
  refine LE.of rσ rs p fun x S1 ρ1 H1 u e1 rσ1 rs1 rx p1 => ?_
  cases x with
  | bl c =>
    rw [RD] at rx
    exact ⟨c, rx, p1 ρ1 H1 (.bl (!c)) e1 rs1 (by rw [RD])⟩
  | _ => exact p1.elim
def fIf (t : FT) (f g : FE) : FE := fun σ S => (t σ S).bind fun b S1 => match b with
  | true => f σ S1
  | false => g σ S1
theorem je_if {t : FT} (ht : JT G X W c t) (h : JE G X W a fa) (k : JE G X W b fb) : JE G X W (.IfExp c a b pos) (fIf t fa fb) := by
  refine ⟨PE.weak (pe_ifExp ht.pt h.pe k.pe) ?_⟩
  rintro σ H Q ⟨ρ, η, σd, S, rσ, rs, p⟩
  refine LT.of rσ rs p fun c S1 ρ1 H1 e1 rσ1 rs1 p1 => ?_
  cases c with
  | true => exact LE.re e1 rσ1 rs1 p1
  | false => exact LE.re e1 rσ1 rs1 p1

/-! ### arguments, tuples, lists -/
def fNil : FL := fun _ S => .ok [] S
def fCons (f : FE) (g : FL) : FL := fun σ S => (f σ S).bind fun d S1 => (g σ S1).bind fun ds S2 => .ok (d :: ds) S2
theorem ja_nil : JA G X W [] fNil := by
  refine ⟨PA.weak pa_nil ?_⟩
  rintro σ H Q ⟨ρ, η, σd, S, rσ, rs, p⟩
  exact p ρ H [] (Ext.refl ρ H) rs RDs.nil
theorem ja_cons {es : List Expr} {ga : FL} (h : JE G X W a fa) (k : JA G X W es ga) (hs : starEach (a :: es) X.env = (false, eval a X.env) :: starEach es X.env := by rfl) : JA G X W (a :: es) (fCons fa ga) := by
  refine ⟨PA.weak (pa_cons h.pe k.pa hs) ?_⟩
  rintro σ H Q ⟨ρ, η, σd, S, rσ, rs, p⟩
  refine LE.of rσ rs p fun x S1 ρ1 H1 u e1 rσ1 rs1 rx p1 => ?_
  refine LA.of rσ1 rs1 p1 fun xs S2 ρ2 H2 us e2 rσ2 rs2 rxs p2 => ?_
  exact p2 ρ2 H2 (u :: us) (e1.trans e2) rs2 (RDs.cons (rx.ext e2) rxs)
def tooMany (n : Nat) : Bool := decide (100000 < n)
def fTup (g : FL) : FE := fun σ S => (g σ S).bind fun ds S1 => if tooMany ds.length then .stuck else .ok (.tup ds) S1
theorem le_line {n : Nat} (h : tooMany n = false) : n ≤ sizeLine := by
  unfold tooMany at h
  have h1 : ¬ 100000 < n := of_decide_eq_false h
  exact Nat.le_trans (Nat.le_of_not_lt h1) (by decide)
/-- a new tuple: what it is is known -/
theorem Inv.tnew {X : Cx} {pins : List (Addr × Obj)} {σ : L2.St} {H : Hp} {s : Shared} {xs : List V} {its : List Value} {t' : Nat} (I : Inv X pins σ H s) (r : Vals xs its) (hz : xs.length ≤ sizeLine) :
    Inv X pins σ (upd H s.heap.objs.size (.frz { cls := .type "tuple", data := .seq its.toArray } (.tup xs))) { s with heap := s.heap.push { cls := .type "tuple", data := .seq its.toArray }, toks := t' } :=
  I.laid (fun _ _ q => Heap.get?_push_of_some _ q) (Nat.le_refl _) ⟨Heap.get?_push_size _ rfl, hz, its, r, ⟨_, Heap.get?_push_size _ rfl, rfl, _, rfl⟩⟩
/-- what is wanted of a new tuple -/
def wTup (H : Hp) (Q : VK) (xs : List V) : Prop := ∀ p o, H p = none → o.dict = none → Q (.ref p) (upd H p (.frz o (.tup xs)))
theorem wTup.at {X : Cx} {pins : List (Addr × Obj)} {σ : L2.St} {H : Hp} {s : Shared} {xs : List V} {its : List Value} {t' : Nat} {Q : VK} (k : wTup H Q xs) (I : Inv X pins σ H s) (r : Vals xs its) (hz : xs.length ≤ sizeLine) :
    EP X pins σ Q (.ref s.heap.objs.size) { s with heap := s.heap.push { cls := .type "tuple", data := .seq its.toArray }, toks := t' } :=
  ⟨.ref s.heap.objs.size, _, Inv.tnew I r hz, rfl, k _ _ (I.hok.fresh (Nat.le_refl _)) rfl⟩
theorem tup_new {G : Gm} {ρ η : List Addr} {H : Hp} {S : Sto} {xs : List D} {p : Addr} {o : Obj} {vs : List V} (rs : RS G ρ η H S) (hp : H p = none) (ho : o.dict = none) (hl : vs.length ≤ sizeLine) (r : RDs G ρ η H xs vs) :
    Same H (upd H p (.frz o (.tup vs))) ∧ RD G ρ η (upd H p (.frz o (.tup vs))) (.tup xs) (.ref p) := by
  have sm : Same H (upd H p (.frz o (.tup vs))) := fun b u e => by rw [upd_ne (ne_of_none e hp)]; exact e
  refine ⟨sm, ?_⟩
  rw [RD]
  exact ⟨p, vs, rfl, .inl ⟨o, upd_same, ho, (rs.fresh hp).1⟩, hl, r.ext (Ext.of_same sm)⟩
def tTupF (t : TA) : TE := fun σ H Q => t σ H fun xs H1 => xs.length ≤ sizeLine ∧ wTup H1 Q xs
theorem pe_tupF {es : List Expr} {x1} {t : TA} (h : PA X es t) : PE X (.Tuple es x1 pos) (tTupF t) := by
  refine ⟨fun pins s σ H Q I hq => wpAny_Tuple_spliced (thn (h.run pos pins s σ H _ I hq) fun us s1 hh => ?_)⟩
  obtain ⟨xs, H1, I1, r, z, q⟩ := hh
  exact ⟨by rw [← r.length]; exact z, wTup.at (t' := s1.toks) q I1 r z⟩
theorem je_tup {es : List Expr} {ga : FL} {x1} (h : JA G X W es ga) : JE G X W (.Tuple es x1 pos) (fTup ga) := by
  refine ⟨PE.weak (pe_tupF h.pa) ?_⟩
  rintro σ H Q ⟨ρ, η, σd, S, rσ, rs, p⟩
  refine LA.of rσ rs p fun xs S1 ρ1 H1 us e1 rσ1 rs1 rxs p1 => ?_
  cases ht : tooMany xs.length with
  | true =>
    rw [ht] at p1
    exact p1.elim
  | false =>
    rw [ht] at p1
    have hl : us.length ≤ sizeLine := by rw [rxs.length]; exact le_line ht
    refine ⟨hl, fun q o hq ho => ?_⟩
    obtain ⟨sm, rd⟩ := tup_new rs1 hq ho hl rxs
    exact p1 ρ1 _ (.ref q) (e1.trans (Ext.of_same sm)) (rs1.same sm) rd
def fDisp (g : FL) : FL := fun σ S => (g σ S).bind fun ds S1 => if tooMany ds.length then .stuck else .ok ds S1
/-- a new list, hidden -/
theorem newList {ρ η : List Addr} {H H1 : Hp} {S1 : Sto} {ρ1 : List Addr} {xs : List D} {us : List V} {q : Addr} {Q : VK} (rs : ∀ a ∈ ρ, H1 a ≠ none) (e1 : Ext ρ H ρ1 H1) (rs1 : RS G ρ1 η H1 S1) (rxs : RDs G ρ1 η H1 xs us) (hl : us.length ≤ sizeLine) (hq : H1 q = none)
    (p1 : KL G η ρ H Q xs S1) : Q (.ref q) (upd H1 q (.lst us)) := by
  have sm : Same H1 (upd H1 q (.lst us)) := fun b o e => by rw [upd_ne (ne_of_none e hq)]; exact e
  refine p1 ρ1 _ q us (e1.trans (Ext.of_same sm)) (e1.fresh rs hq) (rs1.fresh hq).2 (rs1.hide hq sm ⟨_, upd_same, fun _ z => nomatch z⟩) upd_same hl ?_
  exact rxs.mono (Ext.of_same sm) fun c hc => (List.mem_cons.mp hc).elim (fun z => .inr (z ▸ hq)) .inl
theorem Ext.mem {ρ ρ1 : List Addr} {H H1 : Hp} (e : Ext ρ H ρ1 H1) {a : Addr} (h : a ∈ ρ) : a ∈ ρ1 := by
  obtain ⟨t, rfl⟩ := e.pre
  exact List.mem_append_left _ h
theorem jl_lst {es : List Expr} {ga : FL} (h : JA G X W es ga) : JL G X W (.List es pos) (fDisp ga) := by
  refine ⟨PE.weak (pe_lst h.pa) ?_⟩
  rintro σ H Q ⟨ρ, η, σd, S, rσ, rs, p⟩
  refine LA.of rσ rs p fun xs S1 ρ1 H1 us e1 rσ1 rs1 rxs p1 => ?_
  cases ht : tooMany xs.length with
  | true =>
    rw [ht] at p1
    exact p1.elim
  | false =>
    rw [ht] at p1
    have hl : us.length ≤ sizeLine := by rw [rxs.length]; exact le_line ht
    exact ⟨hl, fun q hq => newList (fun a ha => rs1.somes a (e1.mem ha)) e1 rs1 rxs hl hq p1⟩
/-- it is never written -/
def fLst (g : FL) : FE := fun σ S => (g σ S).bind fun ds S1 => .ok (.lst ds) S1
theorem frz_sem {f : FL} : ∀ σ H Q, LE G W (fLst f) σ H Q → LL G W f σ H Q := by
  rintro σ H Q ⟨ρ, η, σd, S, rσ, rs, p⟩
  refine ⟨ρ, η, σd, S, rσ, rs, p.bind.imp fun ds S1 k ρ1 H1 q us e1 hq nq rs1 hq1 hl rxs => ?_⟩
  refine k ρ1 H1 (.ref q) e1 rs1.unhide ?_
  rw [RD]
  exact ⟨q, us, rfl, ⟨hq1, fun z => rs1.dis q z List.mem_cons_self, nq⟩, hl, rxs.unhide⟩
theorem je_frz {f : FL} (h : JL G X W a f) : JE G X W a (fLst f) := ⟨PE.weak h.pe frz_sem⟩
/-- it is of the store from now on -/
def fNew (g : FL) : FE := fun σ S => (g σ S).bind fun ds S1 => .ok (.ref S1.length) (S1 ++ [.lst ds])
theorem new_sem {f : FL} : ∀ σ H Q, LE G W (fNew f) σ H Q → LL G W f σ H Q := by
  rintro σ H Q ⟨ρ, η, σd, S, rσ, rs, p⟩
  refine ⟨ρ, η, σd, S, rσ, rs, p.bind.imp fun ds S1 k ρ1 H1 q us e1 hq nq rs1 hq1 hl rxs => ?_⟩
  have nt : ∀ o vs, H1 q ≠ some (.frz o (.tup vs)) := fun o vs z => by
    rw [hq1] at z
    cases z
  have n0 : ∀ l, H1 q ≠ some (.xd l) := fun l z => by
    rw [hq1] at z
    cases z
  refine k (ρ1 ++ [q]) H1 (.ref q) (ext_adopt rs e1 hq) (rs1.adopt nq nt n0 ⟨us, hq1, hl, rxs.adopt nt n0⟩) ?_
  rw [RD]
  exact ⟨q, by rw [← rs1.len, List.getElem?_append_right (Nat.le_refl _)]; simp, rfl⟩
theorem je_new {f : FL} (h : JL G X W a f) : JE G X W a (fNew f) := ⟨PE.weak h.pe new_sem⟩
end
end Fx

/-! Fx3: statements, targets, loops, comprehensions. -/
namespace Fx
open PySem PySem.Spec L2

/-! ### equality of data -/
mutual
def D.beq : D → D → Bool
  | .non, .non => true
  | .bl a, .bl b => a == b
  | .int i, .int j => decide (i = j)
  | .str x, .str y => decide (x = y)
  | .tup xs, .tup ys => D.beqs xs ys
  | .lst xs, .lst ys => D.beqs xs ys
  | .scr xs, .scr ys => D.beqs xs ys
  | .exn a b c d, .exn e f g h => decide (a = e) && (decide (b = f) && (decide (c = g) && decide (d = h)))
  | .dct a b, .dct c d => D.beqs a c && D.beqs b d
  | .ref n, .ref m => decide (n = m)
  | _, _ => false
def D.beqs : List D → List D → Bool
  | [], [] => true
  | x :: xs, y :: ys => D.beq x y && D.beqs xs ys
  | _, _ => false
end
mutual
theorem D.beq_self : ∀ d : D, D.beq d d = true
  | .non => rfl
  | .bl b => by cases b <;> rfl
  | .int i => by simp [D.beq]
  | .str x => by simp [D.beq]
  | .tup xs => by rw [D.beq]; exact D.beqs_self xs
  | .lst xs => by rw [D.beq]; exact D.beqs_self xs
  | .scr xs => by rw [D.beq]; exact D.beqs_self xs
  | .exn a b c d => by simp [D.beq]
  | .dct a b => by rw [D.beq, D.beqs_self a, D.beqs_self b]; rfl
  | .ref n => by simp [D.beq]
theorem D.beqs_self : ∀ ds : List D, D.beqs ds ds = true
  | [] => rfl
  | d :: ds => by rw [D.beqs, D.beq_self d, D.beqs_self ds]; rfl
end
mutual
theorem D.beq_eq : ∀ {a b : D}, D.beq a b = true → a = b
  | .non, b, h => by cases b <;> first | rfl | (simp [D.beq] at h)
  | .bl x, b, h => by cases b <;> simp [D.beq] at h; rw [h]
  | .int x, b, h => by cases b <;> simp [D.beq] at h; rw [h]
  | .str x, b, h => by cases b <;> simp [D.beq] at h; rw [h]
  | .tup x, b, h => by cases b <;> simp [D.beq] at h; rw [D.beqs_eq h]
  | .lst x, b, h => by cases b <;> simp [D.beq] at h; rw [D.beqs_eq h]
  | .scr x, b, h => by cases b <;> simp [D.beq] at h; rw [D.beqs_eq h]
  | .exn a b c d, e, h => by cases e <;> simp [D.beq] at h; obtain ⟨rfl, rfl, rfl, rfl⟩ := h; rfl
  | .dct x y, b, h => by cases b <;> simp [D.beq] at h; rw [D.beqs_eq h.1, D.beqs_eq h.2]
  | .ref x, b, h => by cases b <;> simp [D.beq] at h; rw [h]
theorem D.beqs_eq : ∀ {a b : List D}, D.beqs a b = true → a = b
  | [], b, h => by cases b <;> first | rfl | (simp [D.beqs] at h)
  | x :: xs, b, h => by
    cases b with
    | nil => simp [D.beqs] at h
    | cons y ys =>
      simp only [D.beqs, Bool.and_eq_true] at h
      rw [D.beq_eq h.1, D.beqs_eq h.2]
end
instance : DecidableEq D := fun a b => if h : D.beq a b = true then .isTrue (D.beq_eq h) else .isFalse fun e => h (e ▸ D.beq_self a)

/-! ### statements -/
section
variable (G : Gm) (η : List Addr) (W : WX)
def PostS (ρ : List Addr) (H : Hp) (o : OutS) (E : Ends) : Prop := match o with
  | .nx σd S' => ∀ ρ' H' σ', Ext ρ H ρ' H' → RSl G ρ' η H' σd σ' → RS G ρ' η H' S' → E.nx σ' H'
  | .bk σd S' => ∀ ρ' H' σ', Ext ρ H ρ' H' → RSl G ρ' η H' σd σ' → RS G ρ' η H' S' → E.bk σ' H'
  | .ct σd S' => ∀ ρ' H' σ', Ext ρ H ρ' H' → RSl G ρ' η H' σd σ' → RS G ρ' η H' S' → E.ct σ' H'
  | .rt d S' => ∀ ρ' H' v, Ext ρ H ρ' H' → RS G ρ' η H' S' → RD G ρ' η H' d v → E.rt v H'
  | .exc x σd S' => ∀ ρ' H' σ' C dd, Ext ρ H ρ' H' → RSl G ρ' η H' σd σ' → RS G ρ' η H' S' → RX G ρ' η H' x C dd → W C dd σ' H'
  | .stuck => False
/-- a target's end -/
def PostG (ρ : List Addr) (H : Hp) (o : Option (Sl × Sto)) (Q : L2.St → Hp → Prop) : Prop := match o with
  | some (σd, S') => ∀ ρ' H' σ', Ext ρ H ρ' H' → RSl G ρ' η H' σd σ' → RS G ρ' η H' S' → Q σ' H'
  | none => False
end
def LS (G : Gm) (W : WX) (g : FS) : TS := fun E σ H => ∃ ρ η σd S, RSl G ρ η H σd σ ∧ RS G ρ η H S ∧ PostS G η W ρ H (g σd S) E
def LG (G : Gm) (g : FG) : TG := fun v σ H Q => ∃ ρ η σd S d, RSl G ρ η H σd σ ∧ RS G ρ η H S ∧ RD G ρ η H d v ∧ PostG G η ρ H (g d σd S) Q
structure JS (G : Gm) (X : Cx) (W : WX) (st : Stmt) (g : FS) : Prop where
  ps : PS X st (LS G W g)
structure JSs (G : Gm) (X : Cx) (W : WX) (st : List Stmt) (g : FS) : Prop where
  ps : PSs X st (LS G W g)
structure JG (G : Gm) (X : Cx) (e : Expr) (g : FG) : Prop where
  pg : PG X e (LG G g)

section
variable {G : Gm} {ρ η ρ1 : List Addr} {H H1 : Hp} {σ : L2.St} {W : WX} {E : Ends}
theorem PostS.shift {o : OutS} (p : PostS G η W ρ H o E) (e : Ext ρ H ρ1 H1) : PostS G η W ρ1 H1 o E := by
  cases o with
  | nx σd S => exact fun ρ' H' σ' e' => p ρ' H' σ' (e.trans e')
  | bk σd S => exact fun ρ' H' σ' e' => p ρ' H' σ' (e.trans e')
  | ct σd S => exact fun ρ' H' σ' e' => p ρ' H' σ' (e.trans e')
  | rt d S => exact fun ρ' H' v e' => p ρ' H' v (e.trans e')
  | exc x σd S => exact fun ρ' H' σ' C dd e' => p ρ' H' σ' C dd (e.trans e')
  | stuck => exact p
theorem PostG.shift {o : Option (Sl × Sto)} {Q : L2.St → Hp → Prop} (p : PostG G η ρ H o Q) (e : Ext ρ H ρ1 H1) : PostG G η ρ1 H1 o Q := by
  cases o with
  | some x => exact fun ρ' H' σ' e' => p ρ' H' σ' (e.trans e')
  | none => exact p
variable {σd : Sl} {S : Sto}
theorem PostS.bind {α : Type} {o : Out α} {g : α → Sto → OutS} (rσ : RSl G ρ η H σd σ) (p : PostS G η W ρ H (o.bindS σd g) E) : Post G η σ W ρ H o fun a S1 => PostS G η W ρ H (g a S1) E := by
  cases o with
  | ok a S => exact p
  | exc x S => exact fun ρ' H' C dd e rs rx => p ρ' H' σ C dd e (rσ.ext e) rs rx
  | stuck => exact p
theorem LE.ofS {fa : FE} {g : D → Sto → OutS} {Q' : VK} (rσ : RSl G ρ η H σd σ) (rs : RS G ρ η H S) (p : PostS G η W ρ H ((fa σd S).bindS σd g) E)
    (h : ∀ d S1 ρ1 H1 v, Ext ρ H ρ1 H1 → RSl G ρ1 η H1 σd σ → RS G ρ1 η H1 S1 → RD G ρ1 η H1 d v → PostS G η W ρ1 H1 (g d S1) E → Q' v H1) : LE G W fa σ H Q' :=
  ⟨ρ, η, σd, S, rσ, rs, (p.bind rσ).imp fun d S1 q ρ1 H1 v e r1 rd => h d S1 ρ1 H1 v e (rσ.ext e) r1 rd (q.shift e)⟩
theorem LT.ofS {fa : FT} {g : Bool → Sto → OutS} {Q' : Bool → Hp → Prop} (rσ : RSl G ρ η H σd σ) (rs : RS G ρ η H S) (p : PostS G η W ρ H ((fa σd S).bindS σd g) E)
    (h : ∀ d S1 ρ1 H1, Ext ρ H ρ1 H1 → RSl G ρ1 η H1 σd σ → RS G ρ1 η H1 S1 → PostS G η W ρ1 H1 (g d S1) E → Q' d H1) : LT G W fa σ H Q' :=
  ⟨ρ, η, σd, S, rσ, rs, (p.bind rσ).imp fun d S1 q ρ1 H1 e r1 => h d S1 ρ1 H1 e (rσ.ext e) r1 (q.shift e)⟩
theorem LA.ofS {fa : FL} {g : List D → Sto → OutS} {Q' : List V → Hp → Prop} (rσ : RSl G ρ η H σd σ) (rs : RS G ρ η H S) (p : PostS G η W ρ H ((fa σd S).bindS σd g) E)
    (h : ∀ d S1 ρ1 H1 v, Ext ρ H ρ1 H1 → RSl G ρ1 η H1 σd σ → RS G ρ1 η H1 S1 → RDs G ρ1 η H1 d v → PostS G η W ρ1 H1 (g d S1) E → Q' v H1) : LA G W fa σ H Q' :=
  ⟨ρ, η, σd, S, rσ, rs, (p.bind rσ).imp fun d S1 q ρ1 H1 v e r1 rd => h d S1 ρ1 H1 v e (rσ.ext e) r1 rd (q.shift e)⟩
end

def sNil : FS := fun σ S => .nx σ S
def sSeq (g h : FS) : FS := fun σ S => match g σ S with
  | .nx σ' S' => h σ' S'
  | .rt d S' => .rt d S'
  | .bk σ' S' => .bk σ' S'
  | .ct σ' S' => .ct σ' S'
  | .exc x σ' S' => .exc x σ' S'
  | .stuck => .stuck
def sExpr (f : FE) : FS := fun σ S => (f σ S).bindS σ fun _ S1 => .nx σ S1
def sRet (f : FE) : FS := fun σ S => (f σ S).bindS σ fun d S1 => .rt d S1
def sRetN : FS := fun _ S => .rt .non S
def sBreak : FS := fun σ S => .bk σ S
def sCont : FS := fun σ S => .ct σ S
def sNever : FS := fun _ _ => .stuck
def sIf (t : FT) (g h : FS) : FS := fun σ S => (t σ S).bindS σ fun b S1 => match b with
  | true => g σ S1
  | false => h σ S1
def sAsg (g : FG) (f : FE) : FS := fun σ S => (f σ S).bindS σ fun d S1 => match g d σ S1 with
  | some (σ', S') => .nx σ' S'
  | none => .stuck
def gNm (i : Nat) : FG := fun d σ S => some (σ.set i (some d), S)

section
variable {G : Gm} {X : Cx} {W : WX} {st : Stmt} {sts a b : List Stmt} {g h : FS} {e : Expr} {f : FE} {pos : Pos}
theorem jss_nil : JSs G X W [] sNil := by
  refine ⟨PSs.weak pss_nil ?_⟩
  rintro E σ H ⟨ρ, η, σd, S, rσ, rs, p⟩
  exact p ρ H σ (Ext.refl ρ H) rσ rs
theorem seq_post {ρ η : List Addr} {H : Hp} {o : OutS} {h : FS} {E : Ends} (p : PostS G η W ρ H (match o with
    | .nx σ' S' => h σ' S'
    | .rt d S' => .rt d S'
    | .bk σ' S' => .bk σ' S'
    | .ct σ' S' => .ct σ' S'
    | .exc x σ' S' => .exc x σ' S'
    | .stuck => .stuck) E) : PostS G η W ρ H o { E with nx := LS G W h E } := by
  cases o with
  | nx σd S => exact fun ρ' H' σ' e rσ rs => ⟨ρ', η, σd, S, rσ, rs, PostS.shift p e⟩
  | bk σd S => exact p
  | ct σd S => exact p
  | rt d S => exact p
  | exc x σd S => exact p
  | stuck => exact p
theorem jss_cons (h1 : JS G X W st g) (h2 : JSs G X W sts h) : JSs G X W (st :: sts) (sSeq g h) := by
  refine ⟨PSs.weak (pss_cons h1.ps h2.ps) ?_⟩
  rintro E σ H ⟨ρ, η, σd, S, rσ, rs, p⟩
  exact ⟨ρ, η, σd, S, rσ, rs, seq_post p⟩
theorem jss_one (h1 : JS G X W st g) : JSs G X W [st] g := ⟨pss_one h1.ps⟩
theorem js_expr (he : JE G X W e f) (hs : swapsWith e none pos.line X.env = pure false := by rfl) : JS G X W (.Expr e pos) (sExpr f) := by
  refine ⟨PS.weak (ps_expr he.pe hs) ?_⟩
  rintro E σ H ⟨ρ, η, σd, S, rσ, rs, p⟩
  exact LE.ofS rσ rs p fun d S1 ρ1 H1 v e rσ1 rs1 rd p1 => p1 ρ1 H1 σ (Ext.refl ρ1 H1) rσ1 rs1
theorem js_ret (he : JE G X W e f) : JS G X W (.Return (some e) pos) (sRet f) := by
  refine ⟨PS.weak (ps_ret he.pe) ?_⟩
  rintro E σ H ⟨ρ, η, σd, S, rσ, rs, p⟩
  exact LE.ofS rσ rs p fun d S1 ρ1 H1 v e rσ1 rs1 rd p1 => p1 ρ1 H1 v (Ext.refl ρ1 H1) rs1 rd
theorem js_retN : JS G X W (.Return none pos) sRetN := by
  refine ⟨PS.weak ps_retN ?_⟩
  rintro E σ H ⟨ρ, η, σd, S, rσ, rs, p⟩
  exact p ρ H .non (Ext.refl ρ H) rs (by rw [RD])
theorem js_break : JS G X W (.Break pos) sBreak := by
  refine ⟨PS.weak ps_break ?_⟩
  rintro E σ H ⟨ρ, η, σd, S, rσ, rs, p⟩
  exact p ρ H σ (Ext.refl ρ H) rσ rs
theorem js_pass : JS G X W (.Pass pos) sNil := by
  refine ⟨PS.weak ps_pass ?_⟩
  rintro E σ H ⟨ρ, η, σd, S, rσ, rs, p⟩
  exact p ρ H σ (Ext.refl ρ H) rσ rs
theorem js_never : JS G X W st sNever := by
  refine ⟨PS.weak ps_never ?_⟩
  rintro E σ H ⟨ρ, η, σd, S, rσ, rs, p⟩
  exact p.elim
theorem js_if {c : Expr} {t : FT} (hc : JT G X W c t) (ha : JSs G X W a g) (hb : JSs G X W b h) : JS G X W (.If c a b pos) (sIf t g h) := by
  refine ⟨PS.weak (ps_if hc.pt ha.ps hb.ps) ?_⟩
  rintro E σ H ⟨ρ, η, σd, S, rσ, rs, p⟩
  refine LT.ofS rσ rs p fun c S1 ρ1 H1 e1 rσ1 rs1 p1 => ?_
  cases c with
  | true => exact ⟨ρ1, η, σd, S1, rσ1, rs1, p1⟩
  | false => exact ⟨ρ1, η, σd, S1, rσ1, rs1, p1⟩

/-! ### targets -/
def locB (sc : Scope) (x : Str) : Bool := match sc.names.lookup x with
  | some .local => true
  | some .cell => true
  | _ => false
theorem loc_of {sc : Scope} {x : Str} (h : locB sc x = true) : Loc sc x := by
  unfold locB at h
  split at h
  · exact .inl (by assumption)
  · exact .inr (by assumption)
  · cases h
theorem jg_name (i : Nat) {x : Str} (hN : X.N.Nodup) (hi : X.N[i]? = some x := by rfl) (hx : locB X.env.scope x = true := by rfl) (hf : X.fn x = true ∨ X.env.scope.names.lookup x = some .local := by first | exact .inl rfl | exact .inr rfl) : JG G X (.Name x pos) (gNm i) := by
  refine ⟨PG.weak (pg_name hN hi (loc_of hx) hf) ?_⟩
  rintro v σ H Q ⟨ρ, η, σd, S, d, rσ, rs, rd, p⟩
  exact p ρ H _ (Ext.refl ρ H) (rσ.set i rd) rs
theorem asg_post {ρ η : List Addr} {H : Hp} {o : Option (Sl × Sto)} {E : Ends} (p : PostS G η W ρ H (match o with
    | some (σ', S') => .nx σ' S'
    | none => .stuck) E) : PostG G η ρ H o E.nx := by
  cases o with
  | some x => exact p
  | none => exact p
theorem js_asg {tg : Expr} {gg : FG} (he : JE G X W e f) (hg : JG G X tg gg) (hs : swapsWithSole [tg] e pos.line X.env = pure false := by rfl) (hw : swappedStores [tg] e X.env = pure none := by rfl)
    (h1 : (assignEach [tg] X.env).map (·.2) = [assign tg X.env] := by rfl) : JS G X W (.Assign [tg] e pos) (sAsg gg f) := by
  refine ⟨PS.weak (ps_asg he.pe hg.pg hs hw h1) ?_⟩
  rintro E σ H ⟨ρ, η, σd, S, rσ, rs, p⟩
  exact LE.ofS rσ rs p fun d S1 ρ1 H1 v e rσ1 rs1 rd p1 => ⟨ρ1, η, σd, S1, d, rσ1, rs1, rd, asg_post p1⟩
theorem js_set (i : Nat) {x : Str} {pos' : Pos} (hN : X.N.Nodup) (he : JE G X W e f) (hi : X.N[i]? = some x := by rfl) (hx : locB X.env.scope x = true := by rfl)
    (hf : X.fn x = true ∨ X.env.scope.names.lookup x = some .local := by first | exact .inl rfl | exact .inr rfl) (hs : swapsWith e (some (.Name x pos')) pos.line X.env = pure false := by rfl) :
    JS G X W (.Assign [.Name x pos'] e pos) (sAsg (gNm i) f) := by
  refine ⟨PS.weak (ps_set hN hi (loc_of hx) he.pe hs hf) ?_⟩
  rintro E σ H ⟨ρ, η, σd, S, rσ, rs, p⟩
  exact LE.ofS rσ rs p fun d S1 ρ1 H1 v e rσ1 rs1 rd p1 => p1 ρ1 H1 _ (Ext.refl ρ1 H1) (rσ1.set i rd) rs1
/-- several targets -/
abbrev FGs := List D → Sl → Sto → Option (Sl × Sto)
def gsNil : FGs := fun ds σ S => match ds with
  | [] => some (σ, S)
  | _ => none
def gsCons (g : FG) (gs : FGs) : FGs := fun ds σ S => match ds with
  | d :: r => (g d σ S).bind fun x => gs r x.1 x.2
  | [] => none
def gTp (n : Nat) (gs : FGs) : FG := fun d σ S => match d with
  | .tup ds => if ds.length = n then gs ds σ S else none
  | _ => none
def LGs (G : Gm) (g : FGs) : TGs := fun vs σ H Q => ∃ ρ η σd S ds, RSl G ρ η H σd σ ∧ RS G ρ η H S ∧ RDs G ρ η H ds vs ∧ PostG G η ρ H (g ds σd S) Q
structure JGs (G : Gm) (X : Cx) (es : List Expr) (g : FGs) : Prop where
  pg : PGs X es (LGs G g)
theorem PGs.weak {X : Cx} {e : List Expr} {t t' : TGs} (p : PGs X e t) (h : ∀ v σ H Q, t' v σ H Q → t v σ H Q) : PGs X e t' := ⟨fun pins s σ H v u Q I r q => p.run pins s σ H v u Q I r (h v σ H Q q)⟩
theorem jgs_nil : JGs G X [] gsNil := by
  refine ⟨PGs.weak pgs_nil ?_⟩
  rintro vs σ H Q ⟨ρ, η, σd, S, ds, rσ, rs, rd, p⟩
  cases ds with
  | nil =>
    rw [RDs] at rd
    exact ⟨rd, p ρ H σ (Ext.refl ρ H) rσ rs⟩
  | cons d ds => exact p.elim
theorem jgs_cons {es : List Expr} {g : FG} {gs : FGs} (h1 : JG G X e g) (h2 : JGs G X es gs) (hs : (assignEach (e :: es) X.env).map (·.2) = assign e X.env :: (assignEach es X.env).map (·.2) := by rfl) :
    JGs G X (e :: es) (gsCons g gs) := by
  refine ⟨PGs.weak (pgs_cons h1.pg h2.pg hs) ?_⟩
  rintro vs σ H Q ⟨ρ, η, σd, S, ds, rσ, rs, rd, p⟩
  cases ds with
  | nil => exact p.elim
  | cons d ds =>
    rw [RDs] at rd
    obtain ⟨v, r, ev, r1, r2⟩ := rd
    refine ⟨v, r, ev, ρ, η, σd, S, d, rσ, rs, r1, ?_⟩
    have p2 : PostG G η ρ H ((g d σd S).bind fun x => gs ds x.1 x.2) Q := p
    revert p2
    cases q : g d σd S with
    | some x => exact fun p2 ρ' H' σ' e' rσ' rs' => ⟨ρ', η, x.1, x.2, ds, rσ', rs', r2.ext e', PostG.shift p2 e'⟩
    | none => exact fun p2 => p2.elim
theorem tupAt {K : PySem.W.Frag} {ρ : List Addr} {H : Hp} {a : Addr} {vs : List V} (h : TupAt K ρ H a vs) : SqT K H a vs := by
  rcases h with ⟨o, r, _⟩ | ⟨o, its, n, h1, h2, _, h3⟩
  · exact .inl (.inr ⟨o, r⟩)
  · exact .inr ⟨o, its, n, h1, h2, h3⟩
theorem jg_tup [F : Fits G X] {es : List Expr} {k n : Nat} {gs : FGs} (hc : X.calm = true) (h : JGs G X es gs) (hn : (assignEach es X.env).length = n := by rfl) (hst : (assignEach es X.env).findIdx? (·.1) = none := by rfl) :
    JG G X (.Tuple es k pos) (gTp n gs) := by
  refine ⟨PG.weak (pg_tup hc h.pg hn hst) ?_⟩
  rintro v σ H Q ⟨ρ, η, σd, S, d, rσ, rs, rd, p⟩
  cases d with
  | tup ds =>
    rw [RD] at rd
    obtain ⟨a, vs, ev, ht, hl, rds⟩ := rd
    have p2 : PostG G η ρ H (if ds.length = n then gs ds σd S else none) Q := p
    by_cases q : ds.length = n
    · rw [if_pos q] at p2
      exact ⟨a, vs, ev, F.K ▸ tupAt ht, by rw [rds.length, q], ρ, η, σd, S, ds, rσ, rs, rds, p2⟩
    · rw [if_neg q] at p2
      exact p2.elim
  | _ => exact p.elim
/-- o[i] = v, by values -/
def LnkSet (G : Gm) (t : TSet) (op : D → D → D → Sto → Option Sto) : Prop := ∀ ρ η H S x y z u v w S' (Q : Hp → Prop), RS G ρ η H S → RD G ρ η H x u → RD G ρ η H y v → RD G ρ η H z w → op x y z S = some S' →
  (∀ H', Ext ρ H ρ H' → RS G ρ η H' S' → Q H') → t u v w H Q
def gSub (op : D → D → D → Sto → Option Sto) (fo fi : FE) : FG := fun d σ S => match fo σ S with
  | .ok o S1 => (match fi σ S1 with
    | .ok i S2 => (op o i d S2).bind fun S3 => some (σ, S3)
    | _ => none)
  | _ => none
theorem LE.part {ρ η : List Addr} {H : Hp} {σ : L2.St} {σd : Sl} {S S1 : Sto} {fa : FE} {d : D} {Q' : VK} (rσ : RSl G ρ η H σd σ) (rs : RS G ρ η H S) (q : fa σd S = .ok d S1)
    (h : ∀ ρ1 H1 v, Ext ρ H ρ1 H1 → RSl G ρ1 η H1 σd σ → RS G ρ1 η H1 S1 → RD G ρ1 η H1 d v → Q' v H1) : LE G W fa σ H Q' :=
  ⟨ρ, η, σd, S, rσ, rs, by rw [q]; exact fun ρ1 H1 v e r1 rd => h ρ1 H1 v e (rσ.ext e) r1 rd⟩
theorem jg_sub {o i : Expr} {fo fi : FE} {t : TSet} {op : D → D → D → Sto → Option Sto} (hs : PSet X t) (l : LnkSet G t op) (ho : JE G X W o fo) (hi : JE G X W i fi)
    (ha : ∀ v, assign (.Subscript o i pos) X.env v = (do
      let ov ← holding [v] (eval o X.env)
      let iv ← holding [v, ov] (eval i X.env)
      standAt pos
      holding [v, ov, iv] (setItem ov iv v)
      release [v, ov, iv] []) := by intro _; rfl) : JG G X (.Subscript o i pos) (gSub op fo fi) := by
  refine ⟨PG.weak (pg_sub ho.pe hi.pe hs ha) ?_⟩
  rintro v σ H Q ⟨ρ, η, σd, S, d, rσ, rs, rd, p⟩
  revert p
  unfold Fx.gSub
  cases q1 : fo σd S with
  | ok o S1 =>
    dsimp only
    cases q2 : fi σd S1 with
    | ok i S2 =>
      dsimp only
      cases q3 : op o i d S2 with
      | some S3 =>
        intro p
        refine LE.part rσ rs q1 fun ρ1 H1 u1 e1 rσ1 rs1 r1 => ?_
        refine LE.part rσ1 rs1 q2 fun ρ2 H2 u2 e2 rσ2 rs2 r2 => ?_
        refine l ρ2 η H2 S2 o i d u1 u2 v S3 _ rs2 (r1.ext e2) r2 (rd.ext (e1.trans e2)) q3 fun H3 e3 rs3 => ?_
        exact p ρ2 H3 σ ((e1.trans e2).trans e3) (rσ2.ext e3) rs3
      | none => exact fun p => p.elim
    | _ => exact fun p => p.elim
  | _ => exact fun p => p.elim
end

/-! ### while -/
def sWhile (t : FT) (b : FS) : Nat → FS
  | 0 => fun _ _ => .stuck
  | n + 1 => fun σ S => (t σ S).bindS σ fun c S1 => match c with
    | false => .nx σ S1
    | true => match b σ S1 with
      | .nx σ' S' => sWhile t b n σ' S'
      | .ct σ' S' => sWhile t b n σ' S'
      | .bk σ' S' => .nx σ' S'
      | .rt d S' => .rt d S'
      | .exc x σ' S' => .exc x σ' S'
      | .stuck => .stuck
theorem js_while {G : Gm} {X : Cx} {W : WX} {c : Expr} {body : List Stmt} {t : FT} {b : FS} {pos : Pos} (n : Nat) (hp : PassesOwn (model X.prog X.w) X.A X.env X.xe) (hc : JT G X W c t) (hb : JSs G X W body b) : JS G X W (.While c body [] pos) (sWhile t b n) := by
  refine ⟨PS.weak (ps_while hp hc.pt hb.ps) ?_⟩
  rintro E σ H ⟨ρ, η, σd, S, rσ, rs, p⟩
  refine ⟨fun m σ H => ∃ ρ σd S, RSl G ρ η H σd σ ∧ RS G ρ η H S ∧ PostS G η W ρ H (sWhile t b m σd S) E, ⟨n, ρ, σd, S, rσ, rs, p⟩, ?_⟩
  rintro m σ H ⟨ρ, σd, S, rσ, rs, p⟩
  cases m with
  | zero => exact p.elim
  | succ m =>
    refine LT.ofS rσ rs p fun c S1 ρ1 H1 e1 rσ1 rs1 p1 => ?_
    cases c with
    | false => exact p1 ρ1 H1 σ (Ext.refl ρ1 H1) rσ1 rs1
    | true =>
      refine ⟨fun σ' H' => ∃ ρ σd S, RSl G ρ η H' σd σ' ∧ RS G ρ η H' S ∧ PostS G η W ρ H' (sWhile t b m σd S) E, fun σ' H' z => ⟨m, Nat.lt_succ_self m, z⟩, ρ1, η, σd, S1, rσ1, rs1, ?_⟩
      revert p1
      dsimp only
      cases b σd S1 with
      | nx σ2 S2 => exact fun p ρ' H' σ' e rσ' rs' => ⟨ρ', σ2, S2, rσ', rs', PostS.shift p e⟩
      | ct σ2 S2 => exact fun p ρ' H' σ' e rσ' rs' => ⟨ρ', σ2, S2, rσ', rs', PostS.shift p e⟩
      | bk σ2 S2 => exact fun p => p
      | rt d S2 => exact fun p => p
      | exc x σ2 S2 => exact fun p => p
      | stuck => exact fun p => p

/-! ### what is walked -/
structure ItD where
  items : List D
  live : List (Nat × List D) := []
def okAt (p : Nat × List D) (S : Sto) : Bool := match S[p.1]? with
  | some (.lst xs) => decide (xs = p.2)
  | _ => false
def okLive (it : ItD) (S : Sto) : Bool := it.live.all fun p => okAt p S
abbrev FI := Sl → Sto → Out ItD
/-- the iterator J gives these items -/
structure Items (G : Gm) (η0 ρ1 : List Addr) (H1 : Hp) (it : ItD) (J : It) : Prop where
  line : it.items.length ≤ sizeLine
  run : ∀ ρ' η' H' S', Ext ρ1 H1 ρ' H' → (∀ a, a ∈ η' → a ∈ η0 ∨ H1 a = none) → RS G ρ' η' H' S' → okLive it S' = true → ∀ i,
    (∀ d, it.items[i]? = some d → J.go i H' ∧ ∀ x H'', J.yld i H' x H'' → Same H' H'' ∧ RD G ρ' η' H'' d x) ∧ (it.items.length = i → J.stop i H')
def LI (G : Gm) (W : WX) (f : FI) : TI := fun σ H R => ∃ ρ η σd S, RSl G ρ η H σd σ ∧ RS G ρ η H S ∧ Post G η σ W ρ H (f σd S) fun it S1 => ∀ ρ1 H1 J, Ext ρ H ρ1 H1 → RS G ρ1 η H1 S1 → Items G η ρ1 H1 it J → R J H1
structure JI (G : Gm) (X : Cx) (W : WX) (tg iter : Expr) (f : FI) : Prop where
  pi : PI X tg iter (LI G W f)
theorem PI.weak {X : Cx} {tg e : Expr} {t t' : TI} (p : PI X tg e t) (h : ∀ σ H Q, t' σ H Q → t σ H Q) : PI X tg e t' := ⟨fun pins s σ H Q I q => p.run pins s σ H Q I (h σ H Q q)⟩

/-! ### for -/
def loopF (g : FG) (b : FS) (ok : Sto → Bool) : List D → FS
  | [] => fun σ S => if ok S then .nx σ S else .stuck
  | d :: ds => fun σ S => if ok S then (match g d σ S with
    | none => .stuck
    | some (σ1, S1) => match b σ1 S1 with
      | .nx σ' S' => loopF g b ok ds σ' S'
      | .ct σ' S' => loopF g b ok ds σ' S'
      | .bk σ' S' => .nx σ' S'
      | .rt d S' => .rt d S'
      | .exc x σ' S' => .exc x σ' S'
      | .stuck => .stuck) else .stuck
def sFor (f : FI) (g : FG) (b : FS) : FS := fun σ S => (f σ S).bindS σ fun it S1 => loopF g b (okLive it) it.items σ S1
theorem RS.sameB {G : Gm} {ρ η : List Addr} {H H' : Hp} {S : Sto} (r : RS G ρ η H S) (k : Same H H') : RS G ρ η H' S := r.same k
theorem js_for {G : Gm} {X : Cx} {W : WX} {tg iter : Expr} {body : List Stmt} {f : FI} {g : FG} {b : FS} {pos : Pos} (hp : PassesOwn (model X.prog X.w) X.A X.env X.xe) (hc : X.calm = true) (hi : JI G X W tg iter f) (hg : JG G X tg g) (hb : JSs G X W body b)
    (hs : ∀ x, foldedSetIterable iter X.env x = pure x := by intro _; rfl) : JS G X W (.For tg iter body [] pos) (sFor f g b) := by
  refine ⟨PS.weak (ps_for hp hc hi.pi hg.pg hb.ps hs) ?_⟩
  rintro E σ H ⟨ρ, η, σd, S, rσ, rs, p⟩
  refine ⟨ρ, η, σd, S, rσ, rs, (PostS.bind rσ p).imp fun it S1 p1 ρ1 H1 J e1 rs1 hJ => ?_⟩
  refine ⟨fun i m σ H => m = it.items.length - i ∧ i ≤ it.items.length ∧ ∃ ρ σd S, Ext ρ1 H1 ρ H ∧ RSl G ρ η H σd σ ∧ RS G ρ η H S ∧ PostS G η W ρ H (loopF g b (okLive it) (it.items.drop i) σd S) E,
    ⟨it.items.length, by omega, by omega, ρ1, σd, S1, Ext.refl ρ1 H1, rσ.ext e1, rs1, by rw [List.drop_zero]; exact p1.shift e1⟩, ?_⟩
  rintro i m σ H ⟨rfl, hi, ρ, σd, S, e, rσ, rs, p⟩
  by_cases hlt : i < it.items.length
  · have hd : it.items.drop i = it.items[i] :: it.items.drop (i + 1) := (List.drop_eq_getElem_cons hlt)
    rw [hd] at p
    unfold loopF at p
    by_cases ok : okLive it S = true
    · rw [if_pos ok] at p
      obtain ⟨go, yld⟩ := (hJ.run ρ η H S e (fun _ h => .inl h) rs ok i).1 it.items[i] (by simp [hlt])
      refine .inr ⟨go, fun σ' H' => ∃ ρ σd S, Ext ρ1 H1 ρ H' ∧ RSl G ρ η H' σd σ' ∧ RS G ρ η H' S ∧ PostS G η W ρ H' (loopF g b (okLive it) (it.items.drop (i + 1)) σd S) E,
        fun σ' H' z => ⟨it.items.length - (i + 1), by omega, rfl, hlt, z⟩, fun x H' y => ?_⟩
      obtain ⟨sm, rd⟩ := yld x H' y
      have ex := Ext.of_same (ρ := ρ) sm
      refine ⟨ρ, η, σd, S, it.items[i], rσ.ext ex, rs.same sm, rd, ?_⟩
      revert p
      cases g it.items[i] σd S with
      | none => exact fun p => p.elim
      | some z =>
        intro p ρ2 H2 σ2 e2 rσ2 rs2
        refine ⟨ρ2, η, z.1, z.2, rσ2, rs2, ?_⟩
        have p' := PostS.shift p (ex.trans e2)
        revert p'
        dsimp only
        cases b z.1 z.2 with
        | nx σ3 S3 => exact fun p ρ' H' σ' e' rσ' rs' => ⟨ρ', σ3, S3, ((e.trans ex).trans e2).trans e', rσ', rs', PostS.shift p e'⟩
        | ct σ3 S3 => exact fun p ρ' H' σ' e' rσ' rs' => ⟨ρ', σ3, S3, ((e.trans ex).trans e2).trans e', rσ', rs', PostS.shift p e'⟩
        | bk σ3 S3 => exact fun p => p
        | rt d S3 => exact fun p => p
        | exc x σ3 S3 => exact fun p => p
        | stuck => exact fun p => p
    · rw [if_neg ok] at p
      exact p.elim
  · have hd : it.items.drop i = [] := List.drop_eq_nil_iff.mpr (by omega)
    rw [hd] at p
    unfold loopF at p
    by_cases ok : okLive it S = true
    · rw [if_pos ok] at p
      exact .inl ⟨(hJ.run ρ η H S e (fun _ h => .inl h) rs ok i).2 (by omega), p ρ H σ (Ext.refl ρ H) rσ rs⟩
    · rw [if_neg ok] at p
      exact p.elim
end Fx

/-! Fx4: comprehensions; what is walked: lists, tuples, ranges, texts. -/
namespace Fx
open PySem PySem.Spec L2

def wipeD (σ : Sl) : List Nat → Sl
  | [] => σ
  | v :: vs => (wipeD σ vs).set v none
section
variable {G : Gm} {ρ η : List Addr} {H : Hp} {σd : Sl} {σ : L2.St}
theorem RSl.wipe (r : RSl G ρ η H σd σ) : ∀ vs : List Nat, RSl G ρ η H (wipeD σd vs) (L2.wipe σ vs)
  | [] => r
  | v :: vs => (RSl.wipe r vs).forget v
theorem wipe_set {x : Option V} : ∀ {vs : List Nat} {σ : L2.St} {i : Nat}, i ∈ vs → L2.wipe (σ.set i x) vs = L2.wipe σ vs
  | v :: vs, σ, i, h => by
    show (L2.wipe (σ.set i x) vs).set v none = (L2.wipe σ vs).set v none
    by_cases hi : i ∈ vs
    · rw [wipe_set hi]
    · have e : i = v := (List.mem_cons.mp h).resolve_right hi
      subst e
      have out : ∀ (ws : List Nat) (τ : L2.St), i ∉ ws → L2.wipe (τ.set i x) ws = (L2.wipe τ ws).set i x := by
        intro ws
        induction ws with
        | nil => intro τ _; rfl
        | cons w ws ih =>
          intro τ hw
          show (L2.wipe (τ.set i x) ws).set w none = ((L2.wipe τ ws).set w none).set i x
          rw [ih τ fun z => hw (List.mem_cons_of_mem _ z)]
          exact List.set_comm _ _ fun z => hw (z ▸ List.mem_cons_self)
      rw [out vs σ hi, List.set_set]
theorem wipe_idem : ∀ {vs ws : List Nat} {σ : L2.St}, (∀ v ∈ vs, v ∈ ws) → L2.wipe (L2.wipe σ vs) ws = L2.wipe σ ws
  | [], ws, σ, _ => rfl
  | v :: vs, ws, σ, h => by
    show L2.wipe ((L2.wipe σ vs).set v none) ws = L2.wipe σ ws
    rw [wipe_set (h v List.mem_cons_self)]
    exact wipe_idem fun u hu => h u (List.mem_cons_of_mem _ hu)

/-- a hidden list grows -/
theorem hid_ne {a D : Addr} {o : HO} {acc : List V} (h : H a = some o) (hD : H D = some (.lst acc)) (d : ∀ xs, o ≠ .lst xs) : a ≠ D := by
  intro e
  subst e
  rw [h] at hD
  exact d acc (Option.some.inj hD)
theorem rd_hid {a D : Addr} {u : HO} {acc new : List V} (hD : H D = some (.lst acc)) (h : Rd H a u) (n : a ≠ D) : Rd (upd H D (.lst new)) a u := by
  rcases h with h | ⟨o, h⟩
  · exact .inl (by rw [upd_ne n]; exact h)
  · exact .inr ⟨o, by rw [upd_ne n]; exact h⟩
mutual
theorem RD.hid {D : Addr} {acc new : List V} (hD : H D = some (.lst acc)) : ∀ {d : Fx.D} {v : V}, RD G ρ (D :: η) H d v → RD G ρ (D :: η) (upd H D (.lst new)) d v
  | .non, v, h => by rw [RD] at h ⊢; exact h
  | .bl _, v, h => by rw [RD] at h ⊢; exact h
  | .int _, v, h => by rw [RD] at h ⊢; exact h
  | .str _, v, h => by rw [RD] at h ⊢; exact h
  | .tup ds, v, h => by
    rw [RD] at h ⊢
    obtain ⟨a, vs, e1, h1, hl, h2⟩ := h
    refine ⟨a, vs, e1, ?_, hl, RDs.hid hD h2⟩
    rcases h1 with ⟨o, r, q, n⟩ | k
    · refine .inl ⟨o, ?_, q, n⟩
      rw [upd_ne (hid_ne r hD fun xs z => nomatch z)]
      exact r
    · exact .inr k
  | .lst ds, v, h => by
    rw [RD] at h ⊢
    obtain ⟨a, vs, e1, ⟨r, n1, n2⟩, hl, h2⟩ := h
    have na : a ≠ D := fun z => n2 (z ▸ List.mem_cons_self)
    exact ⟨a, vs, e1, ⟨by rw [upd_ne na]; exact r, n1, n2⟩, hl, RDs.hid hD h2⟩
  | .exn a d c fs, v, h => by
    rw [RD] at h ⊢
    refine ⟨h.1, h.2.imp id fun ⟨dd, e1, e2, e3⟩ => ⟨dd, e1, ?_, e3⟩⟩
    rw [upd_ne (hid_ne e2 hD fun xs z => nomatch z)]
    exact e2
  | .scr ds, v, h => by
    rw [RD] at h ⊢
    obtain ⟨a, vs, e1, q, hl, h2⟩ := h
    refine ⟨a, vs, e1, ?_, hl, RDs.hid hD h2⟩
    rcases q with ⟨r, n1, n2⟩ | k
    · exact .inl ⟨rd_hid hD r fun z => n2 (z ▸ List.mem_cons_self), n1, n2⟩
    · exact .inr k
  | .dct ks ds, v, h => by
    rw [RD] at h ⊢
    obtain ⟨a, xs, vs, e1, ⟨r, n1, n2⟩, q, hv, h2, h3⟩ := h
    have na : a ≠ D := fun z => n2 (z ▸ List.mem_cons_self)
    exact ⟨a, xs, vs, e1, ⟨by rw [upd_ne na]; exact r, n1, n2⟩, q, hv, RDs.hid hD h2, RDs.hid hD h3⟩
  | .ref n, v, h => by rw [RD] at h ⊢; exact h
theorem RDs.hid {D : Addr} {acc new : List V} (hD : H D = some (.lst acc)) : ∀ {ds : List Fx.D} {vs : List V}, RDs G ρ (D :: η) H ds vs → RDs G ρ (D :: η) (upd H D (.lst new)) ds vs
  | [], vs, h => by rw [RDs] at h ⊢; exact h
  | d :: ds, vs, h => by
    rw [RDs] at h ⊢
    obtain ⟨v, r, e1, h1, h2⟩ := h
    exact ⟨v, r, e1, RD.hid hD h1, RDs.hid hD h2⟩
end
theorem tabs_hid {T : List (Addr × Str)} {D : Addr} {u w : HO} (t : LamX.Tabs T H) (hD : H D = some u) (h1 : ∀ ps, u ≠ .tbl ps) (h2 : ∀ c q, u ≠ LamX.CodeO c q) : LamX.Tabs T (upd H D w) := fun p hp => by
  obtain ⟨ps, q1, q2, q3⟩ := t p hp
  have n1 : p.1 ≠ D := fun z => by
    rw [z, hD] at q1
    exact h1 ps (Option.some.inj q1)
  refine ⟨ps, by rw [upd_ne n1]; exact q1, q2, fun pos cv hc => ?_⟩
  obtain ⟨c, e1, e2⟩ := q3 pos cv hc
  have n2 : c ≠ D := fun z => by
    rw [z, hD] at e2
    exact h2 _ _ (Option.some.inj e2)
  exact ⟨c, e1, by rw [upd_ne n2]; exact e2⟩
theorem RS.hidw {D : Addr} {acc new : List V} {S : Sto} (r : RS G ρ (D :: η) H S) (hD : H D = some (.lst acc)) : RS G ρ (D :: η) (upd H D (.lst new)) S := by
  have nD : D ∉ ρ := fun z => r.dis D z List.mem_cons_self
  refine ⟨r.len, r.nd, r.dis, fun b hb => ?_, fun n a o h1 h2 => ?_, tabs_hid r.tab hD (fun _ z => nomatch z) fun c q z => by unfold LamX.CodeO at z; cases z⟩
  · by_cases q : b = D
    · exact ⟨.lst new, by rw [q, upd_same], fun _ z => nomatch z⟩
    · obtain ⟨o, e1, e2⟩ := r.hid b hb
      exact ⟨o, by rw [upd_ne q]; exact e1, e2⟩
  · have na : a ≠ D := fun z => nD (z ▸ List.mem_of_getElem? h1)
    have q := r.ob n a o h1 h2
    cases o with
    | lst ds => obtain ⟨vs, e, z, u⟩ := q; exact ⟨vs, (upd_ne na).trans e, z, u.hid hD⟩
    | dn ks ds => obtain ⟨xs, vs, e, z, u, t, y⟩ := q; exact ⟨xs, vs, (upd_ne na).trans e, z, u, t.hid hD, y.hid hD⟩
    | dl ks ds => obtain ⟨od, xs, vs, e, z, u, t, y⟩ := q; exact ⟨od, xs, vs, (upd_ne na).trans e, z, u, t.hid hD, y.hid hD⟩
    | dk kvs => obtain ⟨l, e, z, u, t⟩ := q; exact ⟨l, (upd_ne na).trans e, z, u, t.hid hD⟩
    | ins c fs => obtain ⟨dx, l, e, u, t⟩ := q; exact ⟨dx, l, (upd_ne na).trans e, u, t.hid hD⟩
end

/-- a target of the comprehension's own names -/
def OwnT (G : Gm) (vs : List Nat) (t : TG) (g : FG) : Prop := ∀ v σ H (Q : L2.St → Hp → Prop) ρ η σd S d, RSl G ρ η H σd σ → RS G ρ η H S → RD G ρ η H d v →
  (∃ σd', g d σd S = some (σd', S) ∧ ∀ σ', RSl G ρ η H σd' σ' → L2.wipe σ' vs = L2.wipe σ vs → Q σ' H) → t v σ H Q
def W0 : WX := fun _ _ _ _ => False
def fYes : FT := fun _ S => .ok true S
def lcF (own : List Nat) (g : FG) (tt : FT) (te : FE) (ok : Sto → Bool) : List D → Sl → Sto → Out (List D)
  | [] => fun _ S => if ok S then .ok [] S else .stuck
  | d :: ds => fun σ S => if ok S then (match g d (wipeD σ own) S with
    | none => .stuck
    | some (σ1, S1) => match tt σ1 S1 with
      | .ok true S2 => (match te σ1 S2 with
        | .ok y S3 => (match lcF own g tt te ok ds σ S3 with
          | .ok r S4 => .ok (y :: r) S4
          | _ => .stuck)
        | _ => .stuck)
      | .ok false S2 => lcF own g tt te ok ds σ S2
      | _ => .stuck) else .stuck
def fLc (own : List Nat) (fi : FI) (g : FG) (tt : FT) (te : FE) : FL := fun σ S => (fi σ S).bind fun it S1 => lcF own g tt te (okLive it) it.items σ S1

structure JTs (G : Gm) (X : Cx) (ifs : List Expr) (f : FT) : Prop where
  pt : PTs X ifs (LT G W0 f)
theorem jts_nil {G : Gm} {X : Cx} : JTs G X [] fYes := by
  refine ⟨⟨fun pins s σ H Q I h => ?_⟩⟩
  obtain ⟨ρ, η, σd, S, rσ, rs, p⟩ := h
  exact pts_nil.run pins s σ H Q I (p ρ H (Ext.refl ρ H) rs)
theorem jts_one {G : Gm} {X : Cx} {c : Expr} {f : FT} (h : JT G X W0 c f) : JTs G X [c] f := ⟨pts_one h.pt⟩

section
variable {G : Gm} {X : Cx} {W : WX}
theorem own_name (vs : List Nat) (i : Nat) (h : i ∈ vs) : OwnT G vs (gName i) (gNm i) := by
  rintro v σ H Q ρ η σd S d rσ rs rd ⟨σd', e, k⟩
  have e' : σd.set i (some d) = σd' := (Prod.mk.inj (Option.some.inj e)).1
  subst e'
  exact k _ (rσ.set i rd) (wipe_set h)
/-- names in a row -/
def tgNs : List Nat → TGs
  | [] => L2.gNil
  | i :: is => L2.gCons (gName i) (tgNs is)
def gNs : List Nat → FGs
  | [] => gsNil
  | i :: is => gsCons (gNm i) (gNs is)
theorem own_names (vs : List Nat) : ∀ (is : List Nat), (∀ i ∈ is, i ∈ vs) → ∀ ws σ H (Q : L2.St → Hp → Prop) ρ η σd S ds, RSl G ρ η H σd σ → RS G ρ η H S → RDs G ρ η H ds ws →
    (∃ σd', gNs is ds σd S = some (σd', S) ∧ ∀ σ', RSl G ρ η H σd' σ' → L2.wipe σ' vs = L2.wipe σ vs → Q σ' H) → tgNs is ws σ H Q
  | [], _, ws, σ, H, Q, ρ, η, σd, S, ds, rσ, rs, rd, ⟨σd', e, k⟩ => by
    cases ds with
    | nil =>
      rw [RDs] at rd
      have e' : σd = σd' := (Prod.mk.inj (Option.some.inj e)).1
      subst e'
      exact ⟨rd, k σ rσ rfl⟩
    | cons d ds => cases e
  | i :: is, h, ws, σ, H, Q, ρ, η, σd, S, ds, rσ, rs, rd, ⟨σd', e, k⟩ => by
    cases ds with
    | nil => cases e
    | cons d ds =>
      rw [RDs] at rd
      obtain ⟨v, r, ev, r1, r2⟩ := rd
      refine ⟨v, r, ev, own_names vs is (fun j hj => h j (List.mem_cons_of_mem _ hj)) r _ H Q ρ η (σd.set i (some d)) S ds (rσ.set i r1) rs r2 ⟨σd', e, fun σ' rσ' hw => k σ' rσ' ?_⟩⟩
      rw [hw, wipe_set (h i List.mem_cons_self)]
theorem own_tup (vs is : List Nat) {n : Nat} (h : ∀ i ∈ is, i ∈ vs) : OwnT G vs (gTup G.K n (tgNs is)) (gTp n (gNs is)) := by
  rintro v σ H Q ρ η σd S d rσ rs rd ⟨σd', e, k⟩
  cases d with
  | tup ds =>
    rw [RD] at rd
    obtain ⟨a, us, ev, ht, hl, rds⟩ := rd
    have e2 : (if ds.length = n then gNs is ds σd S else none) = some (σd', S) := e
    by_cases q : ds.length = n
    · rw [if_pos q] at e2
      exact ⟨a, us, ev, tupAt ht, by rw [rds.length, q], own_names vs is h us σ H Q ρ η σd S ds rσ rs rds ⟨σd', e2, k⟩⟩
    · rw [if_neg q] at e2
      cases e2
  | _ => cases e
theorem OwnT.keep {vs : List Nat} {g : FG} {d : D} {σd : Sl} {S : Sto} (hS : ∀ d σ S x, g d σ S = some x → x.2 = S) {x : Sl × Sto} (h : g d σd S = some x) : g d σd S = some (x.1, S) := by
  rw [h]
  have := hS d σd S x h
  rw [← this]

theorem lc_sem (own : List (Str × Nat)) {fi : FI} {t : TG} {g : FG} {tt : FT} {te : FE} (hO : OwnT G (own.map (·.2)) t g) (hgS : ∀ d σ S x, g d σ S = some x → x.2 = S) :
    ∀ σ H Q, LL G W (fLc (own.map (·.2)) fi g tt te) σ H Q → tLc (LI G W fi) t (LT G W0 tt) (LE G W0 te) (own.map (·.2)) σ H Q := by
  rintro σ H Q ⟨ρ, η, σd, S, rσ, rs, p⟩
  refine ⟨ρ, η, σd, S, rσ, rs, p.bind.imp fun it S1 p1 ρ1 H1 J e1 rs1 hJ D hD => ?_⟩
  generalize hown : own.map (·.2) = vs at *
  have hDη := (rs1.fresh hD).2
  have hD0 : Nul H D := e1.fresh (fun a ha => rs1.somes a (e1.mem ha)) hD
  cases hr : lcF vs g tt te (okLive it) it.items σd S1 with
  | exc x S' =>
    have no : ∀ (ds : List Fx.D) (S : Sto) x S', lcF vs g tt te (okLive it) ds σd S ≠ .exc x S' := by
      intro ds
      induction ds with
      | nil =>
        intro S x S' z
        unfold lcF at z
        split at z <;> cases z
      | cons d ds ih =>
        intro S x S' z
        unfold lcF at z
        split at z
        · split at z
          · cases z
          · split at z
            · split at z
              · split at z <;> cases z
              · cases z
            · exact ih _ _ _ z
            · cases z
        · cases z
    exact absurd hr (no _ _ _ _)
  | stuck =>
    rw [hr] at p1
    exact p1.elim
  | ok r S' =>
    rw [hr] at p1
    have sm0 : Same H1 (upd H1 D (.lst [])) := fun b o e => by rw [upd_ne (ne_of_none e hD)]; exact e
    have hid : ∀ a, a ∈ D :: η → a ∈ η ∨ H1 a = none := fun a ha => (List.mem_cons.mp ha).elim (fun z => .inr (z ▸ hD)) .inl
    refine ⟨fun i m H2 => m = it.items.length - i ∧ i ≤ it.items.length ∧ ∃ ρ2 S2 acc vacc r2, Ext ρ1 H1 ρ2 H2 ∧ RS G ρ2 (D :: η) H2 S2 ∧ H2 D = some (.lst vacc) ∧ RDs G ρ2 (D :: η) H2 acc vacc ∧ vacc.length ≤ i ∧
      lcF vs g tt te (okLive it) (it.items.drop i) σd S2 = .ok r2 S' ∧ acc ++ r2 = r,
      ⟨it.items.length, by omega, by omega, ρ1, S1, [], [], r, Ext.of_same sm0, rs1.hide hD sm0 ⟨_, upd_same, fun _ z => nomatch z⟩, upd_same, RDs.nil, Nat.zero_le _, by rw [List.drop_zero]; exact hr, rfl⟩, ?_⟩
    rintro i m H2 ⟨rfl, hi, ρ2, S2, acc, vacc, r2, e2, rs2, hD2, racc, hlen, hlc, hacc⟩
    have rσ2 : RSl G ρ2 (D :: η) H2 σd σ := (rσ.ext e1).mono e2 hid
    by_cases hlt : i < it.items.length
    · have hd : it.items.drop i = it.items[i] :: it.items.drop (i + 1) := List.drop_eq_getElem_cons hlt
      rw [hd] at hlc
      unfold lcF at hlc
      by_cases okl : okLive it S2 = true
      · rw [if_pos okl] at hlc
        obtain ⟨go, yld⟩ := (hJ.run ρ2 (D :: η) H2 S2 e2 hid rs2 okl i).1 it.items[i] (by simp [hlt])
        refine .inr ⟨go, fun H' => ∃ ρ2 S2 acc vacc r2, Ext ρ1 H1 ρ2 H' ∧ RS G ρ2 (D :: η) H' S2 ∧ H' D = some (.lst vacc) ∧ RDs G ρ2 (D :: η) H' acc vacc ∧ vacc.length ≤ i + 1 ∧
          lcF vs g tt te (okLive it) (it.items.drop (i + 1)) σd S2 = .ok r2 S' ∧ acc ++ r2 = r, fun H' z => ⟨it.items.length - (i + 1), by omega, rfl, hlt, z⟩, fun x H3 y => ?_⟩
        obtain ⟨sm, rd⟩ := yld x H3 y
        have ex := Ext.of_same (ρ := ρ2) sm
        have rs3 := rs2.same sm
        have rσ3 := rσ2.ext ex
        cases hgd : g it.items[i] (wipeD σd vs) S2 with
        | none =>
          rw [hgd] at hlc
          cases hlc
        | some z =>
          rw [hgd] at hlc
          have hz : z.2 = S2 := hgS _ _ _ _ hgd
          obtain ⟨σ1, S1'⟩ := z
          dsimp only at hz hlc
          subst hz
          refine hO x (L2.wipe σ vs) H3 _ ρ2 (D :: η) (wipeD σd vs) S1' it.items[i] (rσ3.wipe vs) rs3 rd ⟨σ1, hgd, fun σ4 rσ4 hw => ?_⟩
          refine ⟨hw.trans (wipe_idem fun v hv => hv) |>.trans ?_, ?_⟩
          · rfl
          · refine ⟨ρ2, D :: η, σ1, S1', rσ4, rs3, ?_⟩
            revert hlc
            cases htt : tt σ1 S1' with
            | exc x S => exact fun z => nomatch z
            | stuck => exact fun z => nomatch z
            | ok b S5 =>
              cases b with
              | false =>
                intro hlc ρ5 H5 e5 rs5
                have eD : H5 D = some (.lst vacc) := (e5.st D _ (sm _ _ hD2) (fun z => rs3.dis D z List.mem_cons_self) (fun _ z => nomatch z)).1
                exact ⟨ρ5, S5, acc, vacc, r2, (e2.trans ex).trans e5, rs5, eD, (racc.ext ex).ext e5, Nat.le_succ_of_le hlen, hlc, hacc⟩
              | true =>
                dsimp only
                intro hlc ρ5 H5 e5 rs5
                refine ⟨ρ5, D :: η, σ1, S5, rσ4.ext e5, rs5, ?_⟩
                revert hlc
                cases hte : te σ1 S5 with
                | exc x S => exact fun z => nomatch z
                | stuck => exact fun z => nomatch z
                | ok y S6 =>
                  dsimp only
                  cases hrest : lcF vs g tt te (okLive it) (it.items.drop (i + 1)) σd S6 with
                  | exc x S => exact fun z => nomatch z
                  | stuck => exact fun z => nomatch z
                  | ok r6 S7 =>
                    intro hlc ρ6 H6 v e6 rs6 rv
                    have hq : y :: r6 = r2 ∧ S7 = S' := by
                      injection hlc with a b
                      exact ⟨a, b⟩
                    have eD5 : H5 D = some (.lst vacc) := (e5.st D _ (sm _ _ hD2) (fun z => rs3.dis D z List.mem_cons_self) (fun _ z => nomatch z)).1
                    have eD : H6 D = some (.lst vacc) := (e6.st D _ eD5 (fun z => rs5.dis D z List.mem_cons_self) (fun _ z => nomatch z)).1
                    have nD6 : D ∉ ρ6 := fun z => rs6.dis D z List.mem_cons_self
                    have eAll : Ext ρ1 H1 ρ6 H6 := ((e2.trans ex).trans e5).trans e6
                    refine ⟨vacc, eD, Nat.lt_of_lt_of_le (Nat.lt_of_le_of_lt hlen hlt) hJ.line, ρ6, S6, acc ++ [y], vacc ++ [v], r6, ?_, rs6.hidw eD, upd_same, ?_, ?_, ?_, ?_⟩
                    · exact ⟨eAll.pre, fun b o hb nb nt => ⟨by rw [upd_ne (ne_of_none hb hD)]; exact (eAll.st b o hb nb nt).1, (eAll.st b o hb nb nt).2⟩, fun b o u hb => by rw [upd_ne (ne_of_none hb hD)]; exact eAll.fz b o u hb⟩
                    · exact ((((racc.ext ex).ext e5).ext e6).append (RDs.cons rv RDs.nil)).hid eD
                    · simp
                      omega
                    · rw [← hq.2]
                      exact hrest
                    · rw [← hacc, ← hq.1, List.append_assoc]
                      rfl
      · rw [if_neg okl] at hlc
        cases hlc
    · have hd : it.items.drop i = [] := List.drop_eq_nil_iff.mpr (by omega)
      rw [hd] at hlc
      unfold lcF at hlc
      by_cases okl : okLive it S2 = true
      · rw [if_pos okl] at hlc
        have hq : [] = r2 ∧ S2 = S' := by
          injection hlc with a b
          exact ⟨a, b⟩
        rw [← hq.1, List.append_nil] at hacc
        rw [← hq.2, ← hacc] at p1
        have hvl : vacc.length ≤ sizeLine := Nat.le_trans hlen (Nat.le_trans hi hJ.line)
        exact .inl ⟨(hJ.run ρ2 (D :: η) H2 S2 e2 hid rs2 okl i).2 (by omega), p1 ρ2 H2 D vacc (e1.trans e2) hD0 hDη rs2 hD2 hvl racc⟩
      · rw [if_neg okl] at hlc
        cases hlc
theorem jl_lc {elt tg iter : Expr} {ifs : List Expr} {scope : Scope} (own : List (Str × Nat)) {pos : Pos} {fi : FI} {t : TG} {g : FG} {tt : FT} {te : FE} (hc : X.calm = true) (hN : X.N.Nodup) (hi : JI G X W tg iter fi) (ok : blkC X.N X.env.scope scope own = true)
    (hg : ∀ (s : Shared) (H : Hp) (C : Addr) (cl : List (Str × Addr)) (fp : List Addr), PG (X.blk s H scope (compEnvC scope cl C X.env) fp) tg t) (hO : OwnT G (own.map (·.2)) t g) (hgS : ∀ d σ S x, g d σ S = some x → x.2 = S)
    (ht : ∀ (s : Shared) (H : Hp) (C : Addr) (cl : List (Str × Addr)) (fp : List Addr), JTs G (X.blk s H scope (compEnvC scope cl C X.env) fp) ifs tt)
    (he : ∀ (s : Shared) (H : Hp) (C : Addr) (cl : List (Str × Addr)) (fp : List Addr), JE G (X.blk s H scope (compEnvC scope cl C X.env) fp) W0 elt te) (hs : ∀ x, foldedSetIterable iter X.env x = pure x := by intro _; rfl) :
    JL G X W (.ListComp elt [⟨tg, iter, ifs, 0⟩] scope pos) (fLc (own.map (·.2)) fi g tt te) :=
  ⟨PE.weak (pe_lc hc hN hi.pi (blkOk_by ok) hg (fun s H C cl fp => (ht s H C cl fp).pt) (fun s H C cl fp => (he s H C cl fp).pe) hs) (lc_sem own hO hgS)⟩
/-- name = [..] on one line, the name a local -/
theorem js_setLc {elt tg iter : Expr} {ifs : List Expr} {scope : Scope} (own : List (Str × Nat)) (i : Nat) {y : Str} {pos spos py : Pos} {fi : FI} {t : TG} {g : FG} {tt : FT} {te ff : FE} (hc : X.calm = true) (hN : X.N.Nodup) (hi : JI G X W tg iter fi) (ok : blkC X.N X.env.scope scope own = true)
    (hg : ∀ (s : Shared) (H : Hp) (C : Addr) (cl : List (Str × Addr)) (fp : List Addr), PG (X.blk s H scope (compEnvC scope cl C X.env) fp) tg t) (hO : OwnT G (own.map (·.2)) t g) (hgS : ∀ d σ S x, g d σ S = some x → x.2 = S)
    (ht : ∀ (s : Shared) (H : Hp) (C : Addr) (cl : List (Str × Addr)) (fp : List Addr), JTs G (X.blk s H scope (compEnvC scope cl C X.env) fp) ifs tt)
    (he : ∀ (s : Shared) (H : Hp) (C : Addr) (cl : List (Str × Addr)) (fp : List Addr), JE G (X.blk s H scope (compEnvC scope cl C X.env) fp) W0 elt te) (hy : X.N[i]? = some y) (hyl : X.env.scope.names.lookup y = some .local)
    (hsw : swapsWith (.ListComp elt [⟨tg, iter, ifs, 0⟩] scope pos) (some (.Name y py)) spos.line X.env = pure true) (hs : ∀ x, foldedSetIterable iter X.env x = pure x) (hff : ∀ σ H Q, LE G W ff σ H Q → LL G W (fLc (own.map (·.2)) fi g tt te) σ H Q) :
    JS G X W (.Assign [.Name y py] (.ListComp elt [⟨tg, iter, ifs, 0⟩] scope pos) spos) (sAsg (gNm i) ff) := by
  refine ⟨PS.weak (ps_setLc hc hN hy hyl hsw hi.pi (blkOk_by ok) hg (fun s H C cl fp => (ht s H C cl fp).pt) (fun s H C cl fp => (he s H C cl fp).pe) hs) ?_⟩
  rintro E σ H ⟨ρ, η, σd, S, rσ, rs, p⟩
  exact lc_sem own hO hgS σ H _ (hff σ H _ (LE.ofS rσ rs p fun d S1 ρ1 H1 v e rσ1 rs1 rd p1 => p1 ρ1 H1 _ (Ext.refl ρ1 H1) (rσ1.set i rd) rs1))
end

/-! ### what is walked -/
theorem PI.or {X : Cx} {tg e : Expr} {w1 w2 : TI} (h1 : PI X tg e w1) (h2 : PI X tg e w2) : PI X tg e (fun σ H R => w1 σ H R ∨ w2 σ H R) :=
  ⟨fun pins s σ H R I h => h.elim (fun z => h1.run pins s σ H R I z) fun z => h2.run pins s σ H R I z⟩
def signs (x : Str) : List D := x.cps.toList.map fun c => .str ⟨#[c]⟩
def itOf (d : D) (S : Sto) : Option ItD := match d with
  | .lst xs => some ⟨xs, []⟩
  | .scr xs => some ⟨xs, []⟩
  | .tup xs => some ⟨xs, []⟩
  | .str x => if tooMany x.cps.size then none else some ⟨signs x, []⟩
  | .ref n => (match S[n]? with
    | some (.lst xs) => some ⟨xs, [(n, xs)]⟩
    | _ => none)
  | _ => none
def fIt (f : FE) : FI := fun σ S => (f σ S).bind fun d S1 => match itOf d S1 with
  | some it => .ok it S1
  | none => .stuck
section
variable {G : Gm} {X : Cx} {W : WX} {η ρ1 : List Addr} {H1 : Hp}
theorem items_list {xs : List D} {a : Addr} {vs : List V} (h : LstAt ρ1 η H1 a vs) (hl : vs.length ≤ sizeLine) (rd : RDs G ρ1 η H1 xs vs) : Items G η ρ1 H1 ⟨xs, []⟩ (Itl G.K a) := by
  obtain ⟨h1, h2, h3⟩ := h
  refine ⟨by rw [← rd.length]; exact hl, fun ρ' η' H' S' e hη rs _ i => ⟨fun d hd => ?_, fun hi => ?_⟩⟩
  · obtain ⟨v, hv, r⟩ := rd.get hd
    have q : SqL G.K H' a vs := SqL.of (e.st a _ h1 h2 (fun _ z => nomatch z)).1
    refine ⟨⟨vs, v, q, hv⟩, fun x H'' y => ?_⟩
    obtain ⟨rfl, y⟩ := y
    have z := y vs q
    rw [hv] at z
    cases z
    exact ⟨Same.refl _, r.mono e hη⟩
  · exact ⟨vs, SqL.of (e.st a _ h1 h2 (fun _ z => nomatch z)).1, by rw [rd.length]; exact Nat.le_of_eq hi⟩
theorem items_scr {xs : List D} {a : Addr} {vs : List V} (h : (Rd H1 a (.lst vs) ∧ a ∉ ρ1 ∧ a ∉ η) ∨ KLst G.K a vs) (hl : vs.length ≤ sizeLine) (rd : RDs G ρ1 η H1 xs vs) : Items G η ρ1 H1 ⟨xs, []⟩ (Itl G.K a) := by
  refine ⟨by rw [← rd.length]; exact hl, fun ρ' η' H' S' e hη rs _ i => ?_⟩
  have q : SqL G.K H' a vs := by
    rcases h with ⟨r, n1, n2⟩ | k
    · exact .inl (rd_ext e r n1).1
    · exact .inr k
  refine ⟨fun d hd => ?_, fun hi => ⟨vs, q, by rw [rd.length]; exact Nat.le_of_eq hi⟩⟩
  obtain ⟨v, hv, r⟩ := rd.get hd
  refine ⟨⟨vs, v, q, hv⟩, fun x H'' y => ?_⟩
  obtain ⟨rfl, y⟩ := y
  have z := y vs q
  rw [hv] at z
  cases z
  exact ⟨Same.refl _, r.mono e hη⟩
theorem items_tup {xs : List D} {a : Addr} {vs : List V} (h : TupAt G.K ρ1 H1 a vs) (hl : vs.length ≤ sizeLine) (rd : RDs G ρ1 η H1 xs vs) : Items G η ρ1 H1 ⟨xs, []⟩ (Itt G.K a) := by
  refine ⟨by rw [← rd.length]; exact hl, fun ρ' η' H' S' e hη rs _ i => ?_⟩
  have q : SqT G.K H' a vs := by
    rcases h with ⟨o, r, _, n1⟩ | ⟨o, its, n, h1, h2, _, h3⟩
    · exact .inl (.inr ⟨o, (e.st a _ r n1 (fun _ z => nomatch z)).1⟩)
    · exact .inr ⟨o, its, n, h1, h2, h3⟩
  refine ⟨fun d hd => ?_, fun hi => ⟨vs, q, by rw [rd.length]; exact Nat.le_of_eq hi⟩⟩
  obtain ⟨v, hv, r⟩ := rd.get hd
  refine ⟨⟨vs, v, q, hv⟩, fun x H'' y => ?_⟩
  obtain ⟨rfl, y⟩ := y
  have z := y vs q
  rw [hv] at z
  cases z
  exact ⟨Same.refl _, r.mono e hη⟩
theorem items_ref {xs : List D} {n : Nat} {a : Addr} (h : ρ1[n]? = some a) (hl : xs.length ≤ sizeLine) : Items G η ρ1 H1 ⟨xs, [(n, xs)]⟩ (Itl G.K a) := by
  refine ⟨hl, fun ρ' η' H' S' e hη rs ok i => ?_⟩
  have ok2 : ∃ ys, S'[n]? = some (.lst ys) ∧ ys = xs := by
    have ok3 : okAt (n, xs) S' = true := by
      unfold okLive at ok
      simpa using ok
    unfold okAt at ok3
    dsimp only at ok3
    split at ok3
    · exact ⟨_, by assumption, of_decide_eq_true ok3⟩
    · cases ok3
  obtain ⟨ys, h1, rfl⟩ := ok2
  obtain ⟨vs, h2, hz, rd⟩ := rs.ob n a _ (e.at h) h1
  have q : SqL G.K H' a vs := SqL.of h2
  refine ⟨fun d hd => ?_, fun hi => ⟨vs, q, by rw [rd.length]; exact Nat.le_of_eq hi⟩⟩
  obtain ⟨v, hv, r⟩ := rd.get hd
  refine ⟨⟨vs, v, q, hv⟩, fun x H'' y => ?_⟩
  obtain ⟨rfl, y⟩ := y
  have z := y vs q
  rw [hv] at z
  cases z
  exact ⟨Same.refl _, r⟩
theorem items_str {x : Str} (hl : tooMany x.cps.size = false) : Items G η ρ1 H1 ⟨signs x, []⟩ (Its x) := by
  refine ⟨by unfold signs; simp only [List.length_map, Array.length_toList]; exact le_line hl, fun ρ' η' H' S' e hη rs _ i => ⟨fun d hd => ?_, fun hi => ?_⟩⟩
  · unfold signs at hd
    dsimp only at hd
    rw [List.getElem?_map] at hd
    obtain ⟨c, hc, rfl⟩ := Option.map_eq_some_iff.mp hd
    rw [Array.getElem?_toList] at hc
    refine ⟨(Array.getElem?_eq_some_iff.mp hc).1, fun v H'' y => ?_⟩
    obtain ⟨rfl, c', hc', rfl⟩ := y
    rw [hc] at hc'
    cases hc'
    exact ⟨Same.refl _, by rw [RD]⟩
  · unfold signs at hi
    simp only [List.length_map, Array.length_toList] at hi
    exact Nat.le_of_eq hi
/-- a list, a tuple, a text -/
theorem ji_seq [F : Fits G X] {tg e : Expr} {f : FE} (he : JE G X W e f) : JI G X W tg e (fIt f) := by
  refine ⟨PI.weak (PI.or (pi_list he.pe) (PI.or (pi_tup he.pe) (pi_str he.pe))) ?_⟩
  rintro σ H R ⟨ρ, η, σd, S, rσ, rs, p⟩
  rw [← F.K]
  unfold fIt at p
  cases hf : f σd S with
  | exc x S' =>
    rw [hf] at p
    exact .inl ⟨ρ, η, σd, S, rσ, rs, by rw [hf]; exact p⟩
  | stuck =>
    rw [hf] at p
    exact p.elim
  | ok d S1 =>
    rw [hf] at p
    rw [Out.bind_ok] at p
    cases d with
    | lst xs =>
      refine .inl (LE.part rσ rs hf fun ρ1 H1 v e1 rσ1 rs1 rd => ?_)
      rw [RD] at rd
      obtain ⟨a, vs, ev, hL, hl, rds⟩ := rd
      exact ⟨a, ev, ⟨vs, SqL.of hL.1⟩, p ρ1 H1 _ e1 rs1 (items_list hL hl rds)⟩
    | scr xs =>
      refine .inl (LE.part rσ rs hf fun ρ1 H1 v e1 rσ1 rs1 rd => ?_)
      rw [RD] at rd
      obtain ⟨a, vs, ev, hL, hl, rds⟩ := rd
      exact ⟨a, ev, ⟨vs, hL.elim (fun z => .inl z.1) .inr⟩, p ρ1 H1 _ e1 rs1 (items_scr hL hl rds)⟩
    | tup xs =>
      refine .inr (.inl (LE.part rσ rs hf fun ρ1 H1 v e1 rσ1 rs1 rd => ?_))
      rw [RD] at rd
      obtain ⟨a, vs, ev, hL, hl, rds⟩ := rd
      exact ⟨a, ev, ⟨vs, tupAt hL⟩, p ρ1 H1 _ e1 rs1 (items_tup hL hl rds)⟩
    | str x =>
      cases ht : tooMany x.cps.size with
      | true =>
        have z : itOf (.str x) S1 = none := by show (if tooMany x.cps.size = true then none else _) = none; rw [ht]; rfl
        rw [z] at p
        exact p.elim
      | false =>
        have z : itOf (.str x) S1 = some ⟨signs x, []⟩ := by show (if tooMany x.cps.size = true then none else _) = _; rw [ht]; rfl
        rw [z] at p
        refine .inr (.inr (LE.part rσ rs hf fun ρ1 H1 v e1 rσ1 rs1 rd => ?_))
        rw [RD] at rd
        exact ⟨x, rd, p ρ1 H1 _ e1 rs1 (items_str ht)⟩
    | ref n =>
      cases hn : S1[n]? with
      | none =>
        have z : itOf (.ref n) S1 = none := by unfold itOf; dsimp only; rw [hn]
        rw [z] at p
        exact p.elim
      | some o =>
        cases o with
        | lst xs =>
          have z : itOf (.ref n) S1 = some ⟨xs, [(n, xs)]⟩ := by unfold itOf; dsimp only; rw [hn]
          rw [z] at p
          refine .inl (LE.part rσ rs hf fun ρ1 H1 v e1 rσ1 rs1 rd => ?_)
          rw [RD] at rd
          obtain ⟨a, ha, ev⟩ := rd
          obtain ⟨vs, h2, hz, rds⟩ := rs1.ob n a _ ha hn
          exact ⟨a, ev, ⟨vs, SqL.of h2⟩, p ρ1 H1 _ e1 rs1 (items_ref ha (by rw [← rds.length]; exact hz))⟩
        | dn ks ds =>
          have z : itOf (.ref n) S1 = none := by unfold itOf; dsimp only; rw [hn]
          rw [z] at p
          exact p.elim
        | dl ks ds =>
          have z : itOf (.ref n) S1 = none := by unfold itOf; dsimp only; rw [hn]
          rw [z] at p
          exact p.elim
        | dk kvs =>
          have z : itOf (.ref n) S1 = none := by unfold itOf; dsimp only; rw [hn]
          rw [z] at p
          exact p.elim
        | ins c fs =>
          have z : itOf (.ref n) S1 = none := by unfold itOf; dsimp only; rw [hn]
          rw [z] at p
          exact p.elim
    | _ => exact p.elim
/-- range -/
def rngD (lo : Int) (n : Nat) : List D := (List.range n).map fun k => .int (lo + (k : Nat))
def fRng1 (g : FL) : FI := fun σ S => (g σ S).bind fun ds S1 => match ds with
  | [.int j] => if tooMany j.natAbs then .stuck else .ok ⟨rngD 0 j.toNat, []⟩ S1
  | _ => .stuck
def fRng2 (g : FL) : FI := fun σ S => (g σ S).bind fun ds S1 => match ds with
  | [.int i, .int j] => if (tooMany (j - i).toNat || (tooMany i.natAbs || tooMany j.natAbs)) = true then .stuck else .ok ⟨rngD i (j - i).toNat, []⟩ S1
  | _ => .stuck
theorem items_rng {lo : Int} {n : Nat} (hl : n ≤ sizeLine) : Items G η ρ1 H1 ⟨rngD lo n, []⟩ (Itr lo n) := by
  refine ⟨by unfold rngD; simp only [List.length_map, List.length_range]; exact hl, fun ρ' η' H' S' e hη rs _ i => ⟨fun d hd => ?_, fun hi => ?_⟩⟩
  · unfold rngD at hd
    dsimp only at hd
    rw [List.getElem?_map] at hd
    obtain ⟨c, hc, rfl⟩ := Option.map_eq_some_iff.mp hd
    obtain ⟨hc1, hc2⟩ := List.getElem?_eq_some_iff.mp hc
    simp at hc1 hc2
    subst hc2
    refine ⟨hc1, fun v H'' y => ?_⟩
    obtain ⟨rfl, rfl⟩ := y
    exact ⟨Same.refl _, by rw [RD]⟩
  · unfold rngD at hi
    simp only [List.length_map, List.length_range] at hi
    exact Nat.le_of_eq hi
theorem tooMany_le {n : Nat} (h : tooMany n = false) : n ≤ 100000 := by
  unfold tooMany at h
  have h1 : ¬ 100000 < n := of_decide_eq_false h
  exact Nat.le_of_not_lt h1
theorem ji_range1 {tg a : Expr} {g : FL} {p pos : Pos} (hm : X.mg "range" = none) (ha : JA G X W [a] g) (hg : Gl X "range" := by rfl) (hs : starEach [a] X.env = [(false, eval a X.env)] := by rfl) : JI G X W tg (.Call (.Name "range" p) [a] [] pos) (fRng1 g) := by
  refine ⟨PI.weak (pi_range1 hg hm ha.pa hs) ?_⟩
  rintro σ H R ⟨ρ, η, σd, S, rσ, rs, p⟩
  refine LA.of rσ rs p fun ds S1 ρ1 H1 vs e1 rσ1 rs1 rds p1 => ?_
  match ds, p1, rds with
  | [.int j], p1, rds =>
    have p2 : Post G η σ W ρ1 H1 (if tooMany j.natAbs = true then (.stuck : Out ItD) else .ok ⟨rngD 0 j.toNat, []⟩ S1) _ := p1
    cases ht : tooMany j.natAbs with
    | true =>
      rw [ht] at p2
      exact p2.elim
    | false =>
      rw [ht] at p2
      rw [RDs] at rds
      obtain ⟨v, r, rfl, rv, rr⟩ := rds
      rw [RDs] at rr
      rw [RD] at rv
      subst rr rv
      have hj := tooMany_le ht
      exact ⟨j, rfl, by omega, by omega, p2 ρ1 H1 _ e1 rs1 (items_rng (Nat.le_trans (by omega : j.toNat ≤ 100000) (by decide)))⟩
theorem ji_range2 {tg a b : Expr} {g : FL} {p pos : Pos} (hm : X.mg "range" = none) (ha : JA G X W [a, b] g) (hg : Gl X "range" := by rfl) (hs : starEach [a, b] X.env = [(false, eval a X.env), (false, eval b X.env)] := by rfl) (hs2 : starEach [b] X.env = [(false, eval b X.env)] := by rfl) :
    JI G X W tg (.Call (.Name "range" p) [a, b] [] pos) (fRng2 g) := by
  refine ⟨PI.weak (pi_range2 hg hm ha.pa hs hs2) ?_⟩
  rintro σ H R ⟨ρ, η, σd, S, rσ, rs, p⟩
  refine LA.of rσ rs p fun ds S1 ρ1 H1 vs e1 rσ1 rs1 rds p1 => ?_
  match ds, p1, rds with
  | [.int i, .int j], p1, rds =>
    have p2 : Post G η σ W ρ1 H1 (if (tooMany (j - i).toNat || (tooMany i.natAbs || tooMany j.natAbs)) = true then (.stuck : Out ItD) else .ok ⟨rngD i (j - i).toNat, []⟩ S1) _ := p1
    cases ht : (tooMany (j - i).toNat || (tooMany i.natAbs || tooMany j.natAbs)) with
    | true =>
      rw [ht] at p2
      exact p2.elim
    | false =>
      rw [ht] at p2
      simp only [Bool.or_eq_false_iff] at ht
      obtain ⟨h1, h2, h3⟩ := ht
      have q1 := tooMany_le h1
      have q2 := tooMany_le h2
      have q3 := tooMany_le h3
      rw [RDs] at rds
      obtain ⟨v, r, rfl, rv, rr⟩ := rds
      rw [RDs] at rr
      obtain ⟨v2, r2, rfl, rv2, rr2⟩ := rr
      rw [RDs] at rr2
      rw [RD] at rv rv2
      subst rr2 rv rv2
      exact ⟨i, j, rfl, ⟨by omega, by omega, by omega, by omega⟩, p2 ρ1 H1 _ e1 rs1 (items_rng (le_line h1))⟩
theorem gNm_keep {i : Nat} : ∀ (d : D) (σ : Sl) (S : Sto) (x : Sl × Sto), gNm i d σ S = some x → x.2 = S := fun d σ S x h => by
  rw [← Option.some.inj h]
theorem gNs_keep : ∀ (is : List Nat) (ds : List D) (σ : Sl) (S : Sto) (x : Sl × Sto), gNs is ds σ S = some x → x.2 = S
  | [], [], σ, S, x, h => by rw [← Option.some.inj h]
  | [], d :: ds, σ, S, x, h => nomatch h
  | i :: is, [], σ, S, x, h => nomatch h
  | i :: is, d :: ds, σ, S, x, h => gNs_keep is ds _ S x h
theorem gTp_keep {n : Nat} {is : List Nat} : ∀ (d : D) (σ : Sl) (S : Sto) (x : Sl × Sto), gTp n (gNs is) d σ S = some x → x.2 = S := fun d σ S x h => by
  cases d with
  | tup ds =>
    have h2 : (if ds.length = n then gNs is ds σ S else none) = some x := h
    split at h2
    · exact gNs_keep is ds σ S x h2
    · cases h2
  | _ => cases h
end
end Fx

/-! Fx5: operators by data. -/
namespace Fx
open PySem PySem.Spec L2

/-- a list's items -/
def seqL (d : D) (S : Sto) : Option (List D) := match d with
  | .lst xs => some xs
  | .scr xs => some xs
  | .ref n => (match S[n]? with
    | some (.lst xs) => some xs
    | _ => none)
  | _ => none
/-- a list that may be written or is tracked as it is -/
def seqM (d : D) (S : Sto) : Option (List D) := match d with
  | .lst xs => some xs
  | .ref n => (match S[n]? with
    | some (.lst xs) => some xs
    | _ => none)
  | _ => none
section
variable {G : Gm} {ρ η : List Addr} {H : Hp} {S : Sto} {d : D} {u : V} {xs : List D}
theorem seqM_at (rs : RS G ρ η H S) (rd : RD G ρ η H d u) (h : seqM d S = some xs) : ∃ a vs, u = .ref a ∧ H a = some (.lst vs) ∧ vs.length ≤ sizeLine ∧ RDs G ρ η H xs vs := by
  unfold seqM at h
  split at h
  · cases h
    rw [RD] at rd
    obtain ⟨a, vs, e, hL, hl, r⟩ := rd
    exact ⟨a, vs, e, hL.1, hl, r⟩
  · split at h
    · cases h
      rename_i hn
      rw [RD] at rd
      obtain ⟨a, ha, e⟩ := rd
      obtain ⟨vs, h2, hz, r⟩ := rs.ob _ a _ ha hn
      exact ⟨a, vs, e, h2, hz, r⟩
    · cases h
  · cases h
theorem seqL_at (rs : RS G ρ η H S) (rd : RD G ρ η H d u) (h : seqL d S = some xs) : ∃ a vs, u = .ref a ∧ SqL G.K H a vs ∧ vs.length ≤ sizeLine ∧ RDs G ρ η H xs vs := by
  unfold seqL at h
  split at h
  · obtain ⟨a, vs, e, h1, hl, r⟩ := seqM_at rs rd (show seqM (.lst _) S = some xs from h)
    exact ⟨a, vs, e, SqL.of h1, hl, r⟩
  · cases h
    rw [RD] at rd
    obtain ⟨a, vs, e, hL, hl, r⟩ := rd
    exact ⟨a, vs, e, hL.elim (fun z => .inl z.1) .inr, hl, r⟩
  · obtain ⟨a, vs, e, h1, hl, r⟩ := seqM_at rs rd (show seqM (.ref _) S = some xs from h)
    exact ⟨a, vs, e, SqL.of h1, hl, r⟩
  · cases h
theorem tup_at (rd : RD G ρ η H (.tup xs) u) : ∃ a vs, u = .ref a ∧ SqT G.K H a vs ∧ vs.length ≤ sizeLine ∧ RDs G ρ η H xs vs := by
  rw [RD] at rd
  obtain ⟨a, vs, e, hL, hl, r⟩ := rd
  exact ⟨a, vs, e, tupAt hL, hl, r⟩
theorem lst_new {p : Addr} {vs : List V} (rs : RS G ρ η H S) (hp : H p = none) (hl : vs.length ≤ sizeLine) (r : RDs G ρ η H xs vs) : Same H (upd H p (.lst vs)) ∧ RD G ρ η (upd H p (.lst vs)) (.lst xs) (.ref p) := by
  have sm : Same H (upd H p (.lst vs)) := fun b o e => by rw [upd_ne (ne_of_none e hp)]; exact e
  refine ⟨sm, ?_⟩
  rw [RD]
  exact ⟨p, vs, rfl, ⟨upd_same, (rs.fresh hp).1, (rs.fresh hp).2⟩, hl, r.ext (Ext.of_same sm)⟩
end

/-! ### arithmetic -/
def opAdd : D → D → Sto → Option D
  | .int i, .int j, _ => some (.int (i + j))
  | .str x, .str y, _ => if tooMany (x.length + y.length) then none else some (.str (x ++ y))
  | .tup xs, .tup ys, _ => if tooMany (xs.length + ys.length) then none else some (.tup (xs ++ ys))
  | _, _, _ => none
/-- t + u: an empty one gives the other itself -/
def rCatF (K : PySem.W.Frag) : R2 := fun x y H Q => ∃ a b xs ys, x = .ref a ∧ y = .ref b ∧ SqT K H a xs ∧ SqT K H b ys ∧ xs.length + ys.length ≤ sizeLine ∧
  (xs = [] → Q (.ref b) H) ∧ (xs ≠ [] → ys = [] → Q (.ref a) H) ∧ (xs ≠ [] → ys ≠ [] → wTup H Q (xs ++ ys))
theorem op_catF {X : Cx} : OpR X (binaryOp .Add) (rCatF X.K) := by
  rintro pins s σ H x y v u Q I rx ry ⟨a, b, xs, ys, rfl, rfl, ha, hb, hz, q0, q1, q2⟩
  by_cases hx : xs = []
  · exact op_catA pins s σ H _ _ v u Q I rx ry ⟨a, b, xs, ys, rfl, rfl, ha, hb, hz, q0, fun e => absurd hx e, fun e => absurd hx e⟩
  · cases rx
    cases ry
    obtain ⟨its, r1, p1, _⟩ := I.tuple ha
    obtain ⟨its2, r2, p2, _⟩ := I.tuple hb
    refine HT.cat_tup p1 p2 (fun z => hx (r1.nil_iff.mp z)) (fun z => ⟨.ref a, H, I, rfl, q1 hx (r2.nil_iff.mp z)⟩) (fun z => ?_) (by rw [← r1.length, ← r2.length]; exact hz)
    exact wTup.at (t' := s.toks) (q2 hx fun w => z (r2.nil_iff.mpr w)) I (r1.append r2) (by rw [List.length_append]; exact hz)
def rAddU (K : PySem.W.Frag) : R2 := rOr (rI0 fun i j => .int (i + j)) (rOr (fun x y H Q => ∃ i j, x = .str i ∧ y = .str j ∧ i.length + j.length ≤ sizeLine ∧ Q (.str (i ++ j)) H) (rCatF K))
theorem op_addU {X : Cx} : OpR X (binaryOp .Add) (rAddU X.K) := op_add.or (op_add_str.or op_catF)
theorem opAdd_cases {x y d : D} {S : Sto} (h : opAdd x y S = some d) : (∃ i j, x = .int i ∧ y = .int j ∧ d = .int (i + j)) ∨ (∃ a b, x = .str a ∧ y = .str b ∧ tooMany (a.length + b.length) = false ∧ d = .str (a ++ b)) ∨
    ∃ a b, x = .tup a ∧ y = .tup b ∧ tooMany (a.length + b.length) = false ∧ d = .tup (a ++ b) := by
  cases x <;> cases y <;> first
    | (simp [opAdd] at h; done)
    | skip
  · cases h
    exact .inl ⟨_, _, rfl, rfl, rfl⟩
  · rename_i a b
    have h2 : (if tooMany (a.length + b.length) then none else some (D.str (a ++ b))) = some d := h
    split at h2
    · cases h2
    · cases h2
      exact .inr (.inl ⟨a, b, rfl, rfl, Bool.eq_false_iff.mpr (by assumption), rfl⟩)
  · rename_i a b
    have h2 : (if tooMany (a.length + b.length) then none else some (D.tup (a ++ b))) = some d := h
    split at h2
    · cases h2
    · cases h2
      exact .inr (.inr ⟨a, b, rfl, rfl, Bool.eq_false_iff.mpr (by assumption), rfl⟩)
theorem lnk_add {G : Gm} : Lnk G (rAddU G.K) opAdd := by
  intro ρ η H S x y u v d Q rs rx ry h k
  rcases opAdd_cases h with ⟨i, j, rfl, rfl, rfl⟩ | ⟨a, b, rfl, rfl, ht, rfl⟩ | ⟨a, b, rfl, rfl, ht, rfl⟩
  · rw [RD] at rx ry
    exact .inl ⟨i, j, rx, ry, k H _ (Same.refl H) (by rw [RD])⟩
  · rw [RD] at rx ry
    exact .inr (.inl ⟨a, b, rx, ry, le_line ht, k H _ (Same.refl H) (by rw [RD])⟩)
  · obtain ⟨p, vs, ep, hp, hl, r1⟩ := tup_at rx
    obtain ⟨q, ws, eq, hq, hl2, r2⟩ := tup_at ry
    have l1 := r1.length
    have l2 := r2.length
    refine .inr (.inr ⟨p, q, vs, ws, ep, eq, hp, hq, by rw [l1, l2]; exact le_line ht, fun e => ?_, fun e1 e2 => ?_, fun e1 e2 n o hn ho => ?_⟩)
    · have ea : a = [] := by
        subst e
        cases a with
        | nil => rfl
        | cons z zs => simp at l1
      subst ea
      exact k H _ (Same.refl H) (by rw [List.nil_append]; exact eq ▸ ry)
    · have eb : b = [] := by
        subst e2
        cases b with
        | nil => rfl
        | cons z zs => simp at l2
      subst eb
      exact k H _ (Same.refl H) (by rw [List.append_nil]; exact ep ▸ rx)
    · obtain ⟨sm, rd⟩ := tup_new (vs := vs ++ ws) rs hn ho (by rw [List.length_append, l1, l2]; exact le_line ht) (r1.append r2)
      exact k _ _ sm rd
def opSub : D → D → Sto → Option D
  | .int i, .int j, _ => some (.int (i - j))
  | _, _, _ => none
theorem lnk_sub {G : Gm} : Lnk G (rI0 fun i j => .int (i - j)) opSub := by
  intro ρ η H S x y u v d Q rs rx ry h k
  cases x <;> cases y <;> first
    | (simp [opSub] at h; done)
    | skip
  cases h
  rw [RD] at rx ry
  exact ⟨_, _, rx, ry, k H _ (Same.refl H) (by rw [RD])⟩
def in64 (i : Int) : Bool := decide (-(2 ^ 64) < i ∧ i < 2 ^ 64)
def opMul : D → D → Sto → Option D
  | .int i, .int j, _ => if in64 i || in64 j then some (.int (i * j)) else none
  | _, _, _ => none
theorem lnk_mul {G : Gm} : Lnk G (rI CMul fun i j => .int (i * j)) opMul := by
  intro ρ η H S x y u v d Q rs rx ry h k
  cases x <;> cases y <;> first
    | (simp [opMul] at h; done)
    | skip
  rename_i i j
  have h2 : (if in64 i || in64 j then some (D.int (i * j)) else none) = some d := h
  split at h2
  · cases h2
    rename_i hb
    rw [RD] at rx ry
    refine ⟨i, j, rx, ry, ?_, k H _ (Same.refl H) (by rw [RD])⟩
    rw [Bool.or_eq_true] at hb
    exact hb.elim (fun z => .inl (of_decide_eq_true z)) fun z => .inr (of_decide_eq_true z)
  · cases h2
def opDiv : D → D → Sto → Option D
  | .int i, .int j, _ => if j ≠ 0 ∧ j.natAbs < 1073741824 then some (.int (i.fdiv j)) else none
  | _, _, _ => none
theorem lnk_div {G : Gm} : Lnk G (rI CDivN fun i j => .int (i.fdiv j)) opDiv := by
  intro ρ η H S x y u v d Q rs rx ry h k
  cases x <;> cases y <;> first
    | (simp [opDiv] at h; done)
    | skip
  rename_i i j
  have h2 : (if j ≠ 0 ∧ j.natAbs < 1073741824 then some (D.int (i.fdiv j)) else none) = some d := h
  split at h2
  · cases h2
    rw [RD] at rx ry
    exact ⟨i, j, rx, ry, by assumption, k H _ (Same.refl H) (by rw [RD])⟩
  · cases h2
def opMod : D → D → Sto → Option D
  | .int i, .int j, _ => if j ≠ 0 then some (.int (i.fmod j)) else none
  | _, _, _ => none
theorem lnk_mod {G : Gm} : Lnk G (rI (fun _ j => j ≠ 0) fun i j => .int (i.fmod j)) opMod := by
  intro ρ η H S x y u v d Q rs rx ry h k
  cases x <;> cases y <;> first
    | (simp [opMod] at h; done)
    | skip
  rename_i i j
  have h2 : (if j ≠ 0 then some (D.int (i.fmod j)) else none) = some d := h
  split at h2
  · cases h2
    rw [RD] at rx ry
    exact ⟨i, j, rx, ry, by assumption, k H _ (Same.refl H) (by rw [RD])⟩
  · cases h2
def opNeg : D → Sto → Option D
  | .int i, _ => some (.int (-i))
  | _, _ => none
theorem lnk_neg {G : Gm} : Lnk1 G (rU fun i => .int (-i)) opNeg := by
  intro ρ η H S x u d Q rs rx h k
  cases x <;> first
    | (simp [opNeg] at h; done)
    | skip
  cases h
  rw [RD] at rx
  exact ⟨_, rx, k H _ (Same.refl H) (by rw [RD])⟩

/-! ### comparisons -/
def opOrd (p : Int → Int → Bool) : D → D → Sto → Option D
  | .int i, .int j, _ => some (.bl (p i j))
  | _, _, _ => none
theorem lnk_ord {G : Gm} (p : Int → Int → Bool) : Lnk G (rI0 fun i j => .bl (p i j)) (opOrd p) := by
  intro ρ η H S x y u v d Q rs rx ry h k
  cases x <;> cases y <;> first
    | (simp [opOrd] at h; done)
    | skip
  cases h
  rw [RD] at rx ry
  exact ⟨_, _, rx, ry, k H _ (Same.refl H) (by rw [RD])⟩
abbrev opLt := opOrd fun i j => decide (i < j)
abbrev opLe := opOrd fun i j => decide (i ≤ j)
abbrev opGt := opOrd fun i j => decide (j < i)
abbrev opGe := opOrd fun i j => decide (j ≤ i)
/-- is None, is not None -/
def isNon : D → Bool
  | .non => true
  | _ => false
theorem isNon_iff {G : Gm} {ρ η : List Addr} {H : Hp} {x : D} {u : V} (r : RD G ρ η H x u) : decide (u = .non) = isNon x := by
  cases x <;> rw [RD] at r
  · subst r; rfl
  · subst r; rfl
  · subst r; rfl
  · subst r; rfl
  · obtain ⟨a, vs, rfl, _⟩ := r; rfl
  · obtain ⟨a, vs, rfl, _⟩ := r; rfl
  · obtain ⟨a, xs, vs, rfl, _⟩ := r; rfl
  · obtain ⟨a, _, rfl⟩ := r; rfl
  · obtain ⟨a, vs, rfl, _⟩ := r; rfl
  · obtain ⟨rfl, _⟩ := r; rfl
def opIsN : D → D → Sto → Option D
  | x, .non, _ => some (.bl (isNon x))
  | _, _, _ => none
def opNotN : D → D → Sto → Option D
  | x, .non, _ => some (.bl (!isNon x))
  | _, _, _ => none
theorem lnk_isN {G : Gm} : Lnk G (fun x y H Q => y = .non ∧ Q (.bl (decide (x = .non))) H) opIsN := by
  intro ρ η H S x y u v d Q rs rx ry h k
  cases y <;> first
    | (simp [opIsN] at h; done)
    | skip
  have e : d = .bl (isNon x) := (Option.some.inj (show some (D.bl (isNon x)) = some d from h)).symm
  subst e
  rw [RD] at ry
  exact ⟨ry, k H _ (Same.refl H) (by rw [RD, isNon_iff rx])⟩
theorem lnk_notN {G : Gm} : Lnk G (fun x y H Q => y = .non ∧ Q (.bl (!decide (x = .non))) H) opNotN := by
  intro ρ η H S x y u v d Q rs rx ry h k
  cases y <;> first
    | (simp [opNotN] at h; done)
    | skip
  have e : d = .bl (!isNon x) := (Option.some.inj (show some (D.bl (!isNon x)) = some d from h)).symm
  subst e
  rw [RD] at ry
  exact ⟨ry, k H _ (Same.refl H) (by rw [RD, isNon_iff rx])⟩

/-! ### == of data -/
mutual
def pd (r : Nat → Option PyData) : D → Option PyData
  | .non => some .none
  | .bl b => some (.bool b)
  | .int i => some (.int i)
  | .str x => some (.str x)
  | .tup ds => (pds r ds).map PyData.tuple
  | .lst ds => (pds r ds).map PyData.list
  | .scr ds => (pds r ds).map PyData.list
  | .dct _ _ => none
  | .exn .. => none
  | .ref n => r n
def pds (r : Nat → Option PyData) : List D → Option (List PyData)
  | [] => some []
  | d :: ds => match pd r d, pds r ds with
    | some p, some ps => some (p :: ps)
    | _, _ => none
end
abbrev pd0 : D → Option PyData := pd fun _ => none
abbrev pds0 : List D → Option (List PyData) := pds fun _ => none
def rdS (S : Sto) (n : Nat) : Option PyData := match S[n]? with
  | some (.lst xs) => (pds0 xs).map PyData.list
  | _ => none
abbrev pdS (S : Sto) : D → Option PyData := pd (rdS S)
section
variable {G : Gm} {ρ η : List Addr} {H : Hp}
mutual
theorem dp_of {r : Nat → Option PyData} (hr : ∀ n a p, ρ[n]? = some a → r n = some p → Dp G.K H (.ref a) p) : ∀ {d : D} {v : V} {p : PyData}, RD G ρ η H d v → pd r d = some p → Dp G.K H v p
  | .non, v, p, h, e => by rw [RD] at h; rw [pd] at e; cases e; subst h; exact .non
  | .bl _, v, p, h, e => by rw [RD] at h; rw [pd] at e; cases e; subst h; exact .bl _
  | .int _, v, p, h, e => by rw [RD] at h; rw [pd] at e; cases e; subst h; exact .int _
  | .str _, v, p, h, e => by rw [RD] at h; rw [pd] at e; cases e; subst h; exact .str _
  | .tup ds, v, p, h, e => by
    rw [pd] at e
    obtain ⟨ps, hp, rfl⟩ := Option.map_eq_some_iff.mp e
    obtain ⟨a, vs, rfl, ht, _, rd⟩ := tup_at h
    exact .tup ht (dps_of hr rd hp)
  | .lst ds, v, p, h, e => by
    rw [pd] at e
    obtain ⟨ps, hp, rfl⟩ := Option.map_eq_some_iff.mp e
    rw [RD] at h
    obtain ⟨a, vs, rfl, ht, _, rd⟩ := h
    exact .lst (SqL.of ht.1) (dps_of hr rd hp)
  | .scr ds, v, p, h, e => by
    rw [pd] at e
    obtain ⟨ps, hp, rfl⟩ := Option.map_eq_some_iff.mp e
    rw [RD] at h
    obtain ⟨a, vs, rfl, ht, _, rd⟩ := h
    exact .lst (ht.elim (fun z => .inl z.1) .inr) (dps_of hr rd hp)
  | .dct _ _, v, p, h, e => by rw [pd] at e; cases e
  | .exn .., v, p, h, e => by rw [pd] at e; cases e
  | .ref n, v, p, h, e => by
    rw [pd] at e
    rw [RD] at h
    obtain ⟨a, ha, rfl⟩ := h
    exact hr n a p ha e
theorem dps_of {r : Nat → Option PyData} (hr : ∀ n a p, ρ[n]? = some a → r n = some p → Dp G.K H (.ref a) p) : ∀ {ds : List D} {vs : List V} {ps : List PyData}, RDs G ρ η H ds vs → pds r ds = some ps → DpAll G.K H vs ps
  | [], vs, ps, h, e => by rw [RDs] at h; rw [pds] at e; cases e; subst h; exact .nil
  | d :: ds, vs, ps, h, e => by
    rw [RDs] at h
    obtain ⟨v, r, rfl, h1, h2⟩ := h
    rw [pds] at e
    split at e
    · rename_i p qs e1 e2
      cases e
      exact .cons (dp_of hr h1 e1) (dps_of hr h2 e2)
    · cases e
end
theorem dpS {S : Sto} (rs : RS G ρ η H S) {d : D} {v : V} {p : PyData} (h : RD G ρ η H d v) (e : pdS S d = some p) : Dp G.K H v p := by
  refine dp_of (fun n a p ha hp => ?_) h e
  unfold rdS at hp
  split at hp
  · rename_i xs hn
    obtain ⟨ps, hq, rfl⟩ := Option.map_eq_some_iff.mp hp
    obtain ⟨vs, h2, hz, rd⟩ := rs.ob n a _ ha hn
    exact .lst (SqL.of h2) (dps_of (fun n a p ha hp => by cases hp) rd hq)
  · cases hp
end
def eqDeep (x y : D) (S : Sto) : Option Bool := match pdS S x, pdS S y with
  | some p, some q => if SeqAt.shaped p && SeqAt.shaped q then some (PyData.eqv p q) else none
  | _, _ => none
/-- == -/
def eqAny : D → D → Sto → Option Bool
  | .int i, .int j, _ => some (decide (i = j))
  | .str x, .str y, _ => some (decide (x = y))
  | .bl a, .bl b, _ => some (decide (a = b))
  | .non, .non, _ => some true
  | .non, .int _, _ => some false
  | .int _, .non, _ => some false
  | .non, .str _, _ => some false
  | .str _, .non, _ => some false
  | .int _, .str _, _ => some false
  | .str _, .int _, _ => some false
  | x, y, S => eqDeep x y S
def opEq (x y : D) (S : Sto) : Option D := (eqAny x y S).map D.bl
def opNe (x y : D) (S : Sto) : Option D := (eqAny x y S).map fun b => D.bl (!b)
theorem eqAny_cases {G : Gm} {ρ η : List Addr} {H : Hp} {S : Sto} {x y : D} {u v : V} {b : Bool} (rs : RS G ρ η H S) (rx : RD G ρ η H x u) (ry : RD G ρ η H y v) (h : eqAny x y S = some b) :
    (scal u v = true ∧ decide (u = v) = b) ∨ ∃ p q, Dp G.K H u p ∧ Dp G.K H v q ∧ SeqAt.shaped p = true ∧ SeqAt.shaped q = true ∧ PyData.eqv p q = b := by
  have deep : eqDeep x y S = some b → ∃ p q, Dp G.K H u p ∧ Dp G.K H v q ∧ SeqAt.shaped p = true ∧ SeqAt.shaped q = true ∧ PyData.eqv p q = b := by
    intro h
    unfold eqDeep at h
    split at h
    · rename_i p q e1 e2
      split at h
      · rename_i hs
        rw [Bool.and_eq_true] at hs
        exact ⟨p, q, dpS rs rx e1, dpS rs ry e2, hs.1, hs.2, Option.some.inj h⟩
      · cases h
    · cases h
  cases x <;> cases y <;> first
    | exact .inr (deep h)
    | (rw [RD] at rx; rw [RD] at ry; subst rx ry; cases h; exact .inl ⟨rfl, by simp⟩)
def rEqU (K : PySem.W.Frag) : R2 := rOr rEq (rEqD K)
def rNeU (K : PySem.W.Frag) : R2 := rOr rNe (rNeD K)
theorem op_eqU {X : Cx} (hu : X.A.units + 64 < cLine) : OpR X (compareOp .Eq) (rEqU X.K) := op_eq.or (op_eqD hu)
theorem op_neU {X : Cx} (hu : X.A.units + 64 < cLine) : OpR X (compareOp .NotEq) (rNeU X.K) := op_ne.or (op_neD hu)
theorem lnk_eq {G : Gm} : Lnk G (rEqU G.K) opEq := by
  intro ρ η H S x y u v d Q rs rx ry h k
  unfold opEq at h
  obtain ⟨b, hb, rfl⟩ := Option.map_eq_some_iff.mp h
  have kb := k H (.bl b) (Same.refl H) (by rw [RD])
  rcases eqAny_cases rs rx ry hb with ⟨h1, rfl⟩ | ⟨p, q, h1, h2, h3, h4, rfl⟩
  · exact .inl ⟨h1, kb⟩
  · exact .inr ⟨p, q, h1, h2, h3, h4, kb⟩
theorem lnk_ne {G : Gm} : Lnk G (rNeU G.K) opNe := by
  intro ρ η H S x y u v d Q rs rx ry h k
  unfold opNe at h
  obtain ⟨b, hb, rfl⟩ := Option.map_eq_some_iff.mp h
  have kb := k H (.bl (!b)) (Same.refl H) (by rw [RD])
  rcases eqAny_cases rs rx ry hb with ⟨h1, rfl⟩ | ⟨p, q, h1, h2, h3, h4, rfl⟩
  · exact .inl ⟨h1, kb⟩
  · exact .inr ⟨p, q, h1, h2, h3, h4, kb⟩

/-! ### in, count -/
def flatD : D → Bool
  | .non => true
  | .bl _ => true
  | .int _ => true
  | .str _ => true
  | _ => false
def eqF : D → D → Bool
  | .non, .non => true
  | .bl a, .bl b => a == b
  | .bl a, .int b => (if a then 1 else 0) == b
  | .int a, .bl b => a == (if b then 1 else 0)
  | .int a, .int b => a == b
  | .str a, .str b => a == b
  | _, _ => false
def inD (x : D) (xs : List D) : Bool := xs.any fun y => eqF y x
section
variable {G : Gm} {ρ η : List Addr} {H : Hp}
theorem flat_iff {x : D} {u : V} (r : RD G ρ η H x u) (h : flatD x = true) : flatV u = true := by
  cases x <;> first | (cases h; done) | (rw [RD] at r; subst r; rfl)
theorem eqF_iff {x y : D} {u v : V} (rx : RD G ρ η H x u) (ry : RD G ρ η H y v) (hx : flatD x = true) (hy : flatD y = true) : eqV u v = eqF x y := by
  cases x <;> first | (cases hx; done) | (cases y <;> first | (cases hy; done) | (rw [RD] at rx; rw [RD] at ry; subst rx ry; rfl))
theorem flats_iff : ∀ {xs : List D} {vs : List V}, RDs G ρ η H xs vs → xs.all flatD = true → vs.all flatV = true
  | [], vs, h, _ => by rw [RDs] at h; subst h; rfl
  | d :: ds, vs, h, q => by
    rw [RDs] at h
    obtain ⟨v, r, rfl, h1, h2⟩ := h
    rw [List.all_cons, Bool.and_eq_true] at q ⊢
    exact ⟨flat_iff h1 q.1, flats_iff h2 q.2⟩
theorem count_iff {x : D} {u : V} (rx : RD G ρ η H x u) (hx : flatD x = true) : ∀ {xs : List D} {vs : List V}, RDs G ρ η H xs vs → xs.all flatD = true → vs.countP (fun y => eqV y u) = xs.countP (fun y => eqF y x)
  | [], vs, h, _ => by rw [RDs] at h; subst h; rfl
  | d :: ds, vs, h, q => by
    rw [RDs] at h
    obtain ⟨v, r, rfl, h1, h2⟩ := h
    rw [List.all_cons, Bool.and_eq_true] at q
    rw [List.countP_cons, List.countP_cons, count_iff rx hx h2 q.2, eqF_iff h1 rx q.1 hx]
theorem in_iff {x : D} {u : V} (rx : RD G ρ η H x u) (hx : flatD x = true) : ∀ {xs : List D} {vs : List V}, RDs G ρ η H xs vs → xs.all flatD = true → inV u vs = inD x xs
  | [], vs, h, _ => by rw [RDs] at h; subst h; rfl
  | d :: ds, vs, h, q => by
    rw [RDs] at h
    obtain ⟨v, r, rfl, h1, h2⟩ := h
    rw [List.all_cons, Bool.and_eq_true] at q
    have ih := in_iff rx hx h2 q.2
    unfold inV inD at ih ⊢
    rw [List.any_cons, List.any_cons, ih, eqF_iff h1 rx q.1 hx]
end
def seqA (d : D) (S : Sto) : Option (List D) := match d with
  | .tup xs => some xs
  | _ => seqL d S
theorem seqA_at {G : Gm} {ρ η : List Addr} {H : Hp} {S : Sto} {d : D} {u : V} {xs : List D} (rs : RS G ρ η H S) (rd : RD G ρ η H d u) (h : seqA d S = some xs) :
    ∃ a vs, u = .ref a ∧ (SqL G.K H a vs ∨ SqT G.K H a vs) ∧ vs.length ≤ sizeLine ∧ RDs G ρ η H xs vs := by
  unfold seqA at h
  split at h
  · cases h
    obtain ⟨a, vs, e, h1, h2, h3⟩ := tup_at rd
    exact ⟨a, vs, e, .inr h1, h2, h3⟩
  · obtain ⟨a, vs, e, h1, h2, h3⟩ := seqL_at rs rd h
    exact ⟨a, vs, e, .inl h1, h2, h3⟩
def isInB (x y : D) (S : Sto) : Option Bool := match x, y with
  | .str a, .str b => (match a.cps.toList with
    | [c] => some (decide (c ∈ b.cps.toList))
    | _ => none)
  | _, _ => (match seqA y S with
    | some xs => if flatD x && xs.all flatD then some (inD x xs) else none
    | none => none)
def opIn (x y : D) (S : Sto) : Option D := (isInB x y S).map D.bl
def opNotIn (x y : D) (S : Sto) : Option D := (isInB x y S).map fun b => D.bl (!b)
theorem isIn_cases {G : Gm} {ρ η : List Addr} {H : Hp} {S : Sto} {x y : D} {u v : V} {b : Bool} (rs : RS G ρ η H S) (rx : RD G ρ η H x u) (ry : RD G ρ η H y v) (h : isInB x y S = some b) :
    (∃ (c : Nat) (z : Str), u = .str ⟨#[c]⟩ ∧ v = .str z ∧ decide (c ∈ z.cps.toList) = b) ∨ ∃ p xs, v = .ref p ∧ (SqL G.K H p xs ∨ SqT G.K H p xs) ∧ flatV u = true ∧ xs.all flatV = true ∧ inV u xs = b := by
  unfold isInB at h
  split at h
  · rename_i a z
    split at h
    · rename_i c hc
      rw [RD] at rx ry
      refine .inl ⟨c, z, ?_, ry, Option.some.inj h⟩
      rw [rx]
      obtain ⟨⟨l⟩⟩ := a
      simp only at hc
      rw [hc]
    · cases h
  · split at h
    · rename_i xs hs
      split at h
      · rename_i hf
        rw [Bool.and_eq_true] at hf
        obtain ⟨p, vs, e, hq, _, rds⟩ := seqA_at rs ry hs
        exact .inr ⟨p, vs, e, hq, flat_iff rx hf.1, flats_iff rds hf.2, by rw [in_iff rx hf.1 rds hf.2]; exact Option.some.inj h⟩
      · cases h
    · cases h
def rInU (K : PySem.W.Frag) : R2 := rOr (fun x y H Q => ∃ (c : Nat) (z : Str), x = .str ⟨#[c]⟩ ∧ y = .str z ∧ Q (.bl (decide (c ∈ z.cps.toList))) H) (rIn K false)
def rNotInU (K : PySem.W.Frag) : R2 := rOr (fun x y H Q => ∃ (c : Nat) (z : Str), x = .str ⟨#[c]⟩ ∧ y = .str z ∧ Q (.bl (!decide (c ∈ z.cps.toList))) H) (rIn K true)
theorem op_inU {X : Cx} : OpR X (compareOp .In) (rInU X.K) := op_in_sign.or op_in_seq
theorem op_notInU {X : Cx} : OpR X (compareOp .NotIn) (rNotInU X.K) := op_notIn_sign.or op_notIn_seq
theorem lnk_in {G : Gm} : Lnk G (rInU G.K) opIn := by
  intro ρ η H S x y u v d Q rs rx ry h k
  unfold opIn at h
  obtain ⟨b, hb, rfl⟩ := Option.map_eq_some_iff.mp h
  have kb := k H (.bl b) (Same.refl H) (by rw [RD])
  rcases isIn_cases rs rx ry hb with ⟨c, z, h1, h2, rfl⟩ | ⟨p, xs, h1, h2, h3, h4, rfl⟩
  · exact .inl ⟨c, z, h1, h2, kb⟩
  · exact .inr ⟨p, xs, h1, h2, h3, h4, kb⟩
theorem lnk_notIn {G : Gm} : Lnk G (rNotInU G.K) opNotIn := by
  intro ρ η H S x y u v d Q rs rx ry h k
  unfold opNotIn at h
  obtain ⟨b, hb, rfl⟩ := Option.map_eq_some_iff.mp h
  have kb := k H (.bl (!b)) (Same.refl H) (by rw [RD])
  rcases isIn_cases rs rx ry hb with ⟨c, z, h1, h2, rfl⟩ | ⟨p, xs, h1, h2, h3, h4, rfl⟩
  · exact .inl ⟨c, z, h1, h2, kb⟩
  · exact .inr ⟨p, xs, h1, h2, h3, h4, kb⟩
end Fx

/-! Fx6: subscripts, slices, built-in functions, built-in methods. -/
namespace Fx
open PySem PySem.Spec L2

/-! ### subscripts -/
theorem RDs.atI {G : Gm} {ρ η : List Addr} {H : Hp} {ds : List D} {vs : List V} {k : Int} {d : D} (r : RDs G ρ η H ds vs) (h : L2.atI ds k = some d) : ∃ v, L2.atI vs k = some v ∧ RD G ρ η H d v := by
  unfold L2.atI at h ⊢
  rw [r.length]
  cases hx : ixN ds.length k with
  | none => rw [hx] at h; cases h
  | some j =>
    rw [hx] at h
    exact r.get h
def opIx (x i : D) (S : Sto) : Option D := match i with
  | .int k => (match x with
    | .tup xs => L2.atI xs k
    | .str z => if tooMany z.length then none else (L2.atI z.cps.toList k).map fun c => .str ⟨#[c]⟩
    | _ => (seqL x S).bind fun xs => L2.atI xs k)
  | _ => none
theorem lnk_ix {G : Gm} : Lnk G (rIx G.K) opIx := by
  intro ρ η H S x y u v d Q rs rx ry h k
  cases y with
  | int i =>
    rw [RD] at ry
    subst ry
    have lst : (seqL x S).bind (fun xs => L2.atI xs i) = some d → rIx G.K u (.int i) H Q := fun h => by
      obtain ⟨xs, h1, h2⟩ := Option.bind_eq_some_iff.mp h
      obtain ⟨a, vs, rfl, hq, _, r⟩ := seqL_at rs rx h1
      obtain ⟨z, hz, rz⟩ := r.atI h2
      exact .inl ⟨a, vs, i, z, rfl, rfl, hq, hz, k H z (Same.refl H) rz⟩
    cases x with
    | tup xs =>
      obtain ⟨a, vs, rfl, hq, _, r⟩ := tup_at rx
      obtain ⟨z, hz, rz⟩ := r.atI (show L2.atI xs i = some d from h)
      exact .inr (.inl ⟨a, vs, i, z, rfl, rfl, hq, hz, k H z (Same.refl H) rz⟩)
    | str z =>
      rw [RD] at rx
      subst rx
      have h2 : (if tooMany z.length then none else (L2.atI z.cps.toList i).map fun c => D.str ⟨#[c]⟩) = some d := h
      cases ht : tooMany z.length with
      | true => rw [ht] at h2; cases h2
      | false =>
        rw [ht] at h2
        obtain ⟨c, hc, rfl⟩ := Option.map_eq_some_iff.mp h2
        exact .inr (.inr ⟨z, i, c, rfl, rfl, le_line ht, hc, k H _ (Same.refl H) (by rw [RD])⟩)
    | lst xs => exact lst h
    | scr xs => exact lst h
    | ref n => exact lst h
    | dct a b => exact lst h
    | non => exact lst h
    | bl b => exact lst h
    | int j => exact lst h
    | exn a b c d => exact lst h
  | _ => cases h
section
variable {G : Gm} {X : Cx} {W : WX} {a b : Expr} {fa fb : FE} {pos : Pos}
theorem je_ixR {r : R2} {op : D → D → Sto → Option D} (hr : IxR X r) (l : Lnk G r op) (ha : JE G X W a fa) (hb : JE G X W b fb) (hs : PlainIx b := by exact fun _ _ => rfl) : JE G X W (.Subscript a b pos) (fBin op fa fb) :=
  ⟨PE.weak (pe_ix hr ha.pe hb.pe hs) (LE.bin l)⟩
theorem je_ix [F : Fits G X] (ha : JE G X W a fa) (hb : JE G X W b fb) (hs : PlainIx b := by exact fun _ _ => rfl) : JE G X W (.Subscript a b pos) (fBin opIx fa fb) :=
  je_ixR (r := rIx G.K) (F.K ▸ ix_seq) lnk_ix ha hb hs
end

/-! ### slices -/
def cutD (xs : List D) (lo hi : Option Int) : List D := (xs.drop (HT.sIx xs.length 0 lo)).take (HT.sIx xs.length xs.length hi - HT.sIx xs.length 0 lo)
theorem RDs.cut {G : Gm} {ρ η : List Addr} {H : Hp} {ds : List D} {vs : List V} (r : RDs G ρ η H ds vs) (lo hi : Option Int) : RDs G ρ η H (cutD ds lo hi) (cutV vs lo hi) := by
  unfold cutD cutV
  rw [r.length]
  exact (r.drop _).take _
abbrev FO := Sl → Sto → Out (Option Int)
def LO (G : Gm) (W : WX) (f : FO) : TO := fun σ H Q => ∃ ρ η σd S, RSl G ρ η H σd σ ∧ RS G ρ η H S ∧ Post G η σ W ρ H (f σd S) fun o S1 => ∀ ρ1 H1, Ext ρ H ρ1 H1 → RS G ρ1 η H1 S1 → Q o H1
structure JO (G : Gm) (X : Cx) (W : WX) (e : Option Expr) (f : FO) : Prop where
  po : PO X e (LO G W f)
theorem PO.weak {X : Cx} {e : Option Expr} {t t' : TO} (p : PO X e t) (h : ∀ σ H Q, t' σ H Q → t σ H Q) : PO X e t' := ⟨fun pins s σ H Q I q => p.run pins s σ H Q I (h σ H Q q)⟩
def fNoPart : FO := fun _ S => .ok none S
def fPart (f : FE) : FO := fun σ S => (f σ S).bind fun d S1 => match d with
  | .int i => .ok (some i) S1
  | _ => .stuck
section
variable {G : Gm} {X : Cx} {W : WX} {a : Expr} {fa : FE} {fl fh : FO} {lo hi : Option Expr} {pos p2 : Pos}
theorem jo_none : JO G X W none fNoPart := by
  refine ⟨PO.weak po_none ?_⟩
  rintro σ H Q ⟨ρ, η, σd, S, rσ, rs, p⟩
  exact p ρ H (Ext.refl ρ H) rs
theorem jo_some (h : JE G X W a fa) : JO G X W (some a) (fPart fa) := by
  refine ⟨PO.weak (po_some h.pe) ?_⟩
  rintro σ H Q ⟨ρ, η, σd, S, rσ, rs, p⟩
  refine LE.of rσ rs p fun x S1 ρ1 H1 u e1 rσ1 rs1 rx p1 => ?_
  cases x with
  | int i =>
    rw [RD] at rx
    exact ⟨i, rx, p1 ρ1 H1 e1 rs1⟩
  | _ => exact p1.elim
theorem LO.of {β : Type} {ρ η : List Addr} {H : Hp} {σ : L2.St} {σd : Sl} {S : Sto} {fo : FO} {g : Option Int → Sto → Out β} {k : β → Sto → Prop} {Q' : Option Int → Hp → Prop} (rσ : RSl G ρ η H σd σ) (rs : RS G ρ η H S) (p : Post G η σ W ρ H ((fo σd S).bind g) k)
    (h : ∀ d S1 ρ1 H1, Ext ρ H ρ1 H1 → RSl G ρ1 η H1 σd σ → RS G ρ1 η H1 S1 → Post G η σ W ρ1 H1 (g d S1) k → Q' d H1) : LO G W fo σ H Q' :=
  ⟨ρ, η, σd, S, rσ, rs, (p.bind).imp fun d S1 q ρ1 H1 e r1 => h d S1 ρ1 H1 e (rσ.ext e) r1 (q.shift e)⟩
/-- of a tuple, a text, a list -/
def opSl (x : D) (lo hi : Option Int) (S : Sto) : Option D := match x with
  | .tup xs => some (.tup (cutD xs lo hi))
  | .str z => if tooMany z.length then none else some (.str (cutS z lo hi))
  | _ => (seqL x S).map fun xs => .lst (cutD xs lo hi)
def fSl (fa : FE) (fl fh : FO) : FE := fun σ S => (fa σ S).bind fun x S1 => (fl σ S1).bind fun lo S2 => (fh σ S2).bind fun hi S3 => match opSl x lo hi S3 with
  | some d => .ok d S3
  | none => .stuck
/-- of a list, a new one -/
def fSlL (fa : FE) (fl fh : FO) : FL := fun σ S => (fa σ S).bind fun x S1 => (fl σ S1).bind fun lo S2 => (fh σ S2).bind fun hi S3 => match seqL x S3 with
  | some xs => .ok (cutD xs lo hi) S3
  | none => .stuck
def rSlF (K : PySem.W.Frag) : V → Option Int → Option Int → Hp → VK → Prop := fun x lo hi H Q => ∃ a xs, x = .ref a ∧ SqT K H a xs ∧
  (HT.sIx xs.length 0 lo = 0 ∧ HT.sIx xs.length xs.length hi = xs.length → Q (.ref a) H) ∧ (¬ (HT.sIx xs.length 0 lo = 0 ∧ HT.sIx xs.length xs.length hi = xs.length) → wTup H Q (cutV xs lo hi))
theorem sl_tupF : SlR X (rSlF X.K) := by
  rintro pins s σ H x v vl vu lo hi sl Q I rx hs pl pu ⟨a, xs, rfl, hx, q1, q2⟩
  by_cases hw : HT.sIx xs.length 0 lo = 0 ∧ HT.sIx xs.length xs.length hi = xs.length
  · exact sl_tupA pins s σ H _ v vl vu lo hi sl Q I rx hs pl pu ⟨a, xs, rfl, hx, q1, fun z => absurd hw z⟩
  · cases rx
    obtain ⟨its, r, ht, hz⟩ := I.tuple hx
    have hlen : its.toArray.size = xs.length := by rw [List.size_toArray]; exact r.length.symm
    refine ⟨"tuple", _, PyProof.Rows.slot_tuple_getitem.lookup, ht.typeIs, HT.getItem_tuple_cut ht hs pl pu (by rw [hlen]; exact hw) ?_ (by rw [hlen]; exact hz)⟩
    rw [hlen]
    exact wTup.at (t' := s.toks) (q2 hw) I ((r.drop (HT.sIx xs.length 0 lo)).take (HT.sIx xs.length xs.length hi - HT.sIx xs.length 0 lo)) (Nat.le_trans (cutV_length xs lo hi) hz)
def rSlU (K : PySem.W.Frag) : V → Option Int → Option Int → Hp → VK → Prop := fun x lo hi H Q => rSlF K x lo hi H Q ∨ rSlS x lo hi H Q ∨ rSlL K x lo hi H Q
theorem sl_U : SlR X (rSlU X.K) := sl_tupF.or (sl_str.or sl_list)
theorem cut_whole {xs : List D} {lo hi : Option Int} (h : HT.sIx xs.length 0 lo = 0 ∧ HT.sIx xs.length xs.length hi = xs.length) : cutD xs lo hi = xs := by
  unfold cutD
  rw [h.1, h.2, List.drop_zero, Nat.sub_zero, List.take_length]
theorem je_sl [F : Fits G X] (ha : JE G X W a fa) (hl : JO G X W lo fl) (hh : JO G X W hi fh) : JE G X W (.Subscript a (.Slice lo hi none p2) pos) (fSl fa fl fh) := by
  refine ⟨PE.weak (pe_slice (r := rSlU G.K) (F.K ▸ sl_U) ha.pe hl.po hh.po) ?_⟩
  rintro σ H Q ⟨ρ, η, σd, S, rσ, rs, p⟩
  refine LE.of rσ rs p fun x S1 ρ1 H1 u e1 rσ1 rs1 rx p1 => ?_
  refine LO.of rσ1 rs1 p1 fun l S2 ρ2 H2 e2 rσ2 rs2 p2 => ?_
  refine LO.of rσ2 rs2 p2 fun h S3 ρ3 H3 e3 rσ3 rs3 p3 => ?_
  have eA := (e1.trans e2).trans e3
  have rx3 := (rx.ext e2).ext e3
  cases ho : opSl x l h S3 with
  | none => rw [ho] at p3; exact p3.elim
  | some d =>
    rw [ho] at p3
    have lst : (seqL x S3).map (fun xs => D.lst (cutD xs l h)) = some d → rSlU G.K u l h H3 Q := fun hq => by
      obtain ⟨xs, h1, rfl⟩ := Option.map_eq_some_iff.mp hq
      obtain ⟨q, vs, rfl, hs, hl2, r⟩ := seqL_at rs3 rx3 h1
      refine .inr (.inr ⟨q, vs, rfl, hs, fun n hn => ?_⟩)
      obtain ⟨sm, rd⟩ := lst_new (vs := cutV vs l h) rs3 hn (Nat.le_trans (cutV_length vs l h) hl2) (r.cut l h)
      exact p3 ρ3 _ _ (eA.trans (Ext.of_same sm)) (rs3.same sm) rd
    cases x with
    | tup xs =>
      have hd : d = .tup (cutD xs l h) := (Option.some.inj ho).symm
      subst hd
      obtain ⟨q, vs, rfl, hs, hl2, r⟩ := tup_at rx3
      refine .inl ⟨q, vs, rfl, hs, fun hw => ?_, fun hw n o hn ho => ?_⟩
      · rw [r.length] at hw
        exact p3 ρ3 H3 _ eA rs3 (by rw [cut_whole hw]; exact rx3)
      · obtain ⟨sm, rd⟩ := tup_new (vs := cutV vs l h) rs3 hn ho (Nat.le_trans (cutV_length vs l h) hl2) (r.cut l h)
        exact p3 ρ3 _ _ (eA.trans (Ext.of_same sm)) (rs3.same sm) rd
    | str z =>
      have h2 : (if tooMany z.length then none else some (D.str (cutS z l h))) = some d := ho
      cases ht : tooMany z.length with
      | true => rw [ht] at h2; cases h2
      | false =>
        rw [ht] at h2
        have hd : d = .str (cutS z l h) := (Option.some.inj h2).symm
        subst hd
        rw [RD] at rx3
        exact .inr (.inl ⟨z, rx3, le_line ht, p3 ρ3 H3 _ eA rs3 (by rw [RD])⟩)
    | lst xs => exact lst ho
    | scr xs => exact lst ho
    | ref n => exact lst ho
    | dct a b => exact lst ho
    | non => exact lst ho
    | bl b => exact lst ho
    | int j => exact lst ho
    | exn a b c d => exact lst ho
theorem jl_sl [F : Fits G X] (ha : JE G X W a fa) (hl : JO G X W lo fl) (hh : JO G X W hi fh) : JL G X W (.Subscript a (.Slice lo hi none p2) pos) (fSlL fa fl fh) := by
  refine ⟨PE.weak (pe_slice (r := rSlL G.K) (F.K ▸ sl_list) ha.pe hl.po hh.po) ?_⟩
  rintro σ H Q ⟨ρ, η, σd, S, rσ, rs, p⟩
  refine LE.of rσ rs p fun x S1 ρ1 H1 u e1 rσ1 rs1 rx p1 => ?_
  refine LO.of rσ1 rs1 p1 fun l S2 ρ2 H2 e2 rσ2 rs2 p2 => ?_
  refine LO.of rσ2 rs2 p2 fun h S3 ρ3 H3 e3 rσ3 rs3 p3 => ?_
  have eA := (e1.trans e2).trans e3
  have rx3 := (rx.ext e2).ext e3
  cases ho : seqL x S3 with
  | none => rw [ho] at p3; exact p3.elim
  | some xs =>
    rw [ho] at p3
    obtain ⟨q, vs, rfl, hs, hl2, r⟩ := seqL_at rs3 rx3 ho
    exact ⟨q, vs, rfl, hs, fun n hn => newList (fun a ha => rs3.somes a (eA.mem ha)) eA rs3 (r.cut l h) (Nat.le_trans (cutV_length vs l h) hl2) hn p3⟩
end

/-! ### built-in functions -/
def LnkA (G : Gm) (r : List V → Hp → VK → Prop) (op : List D → Sto → Option D) : Prop := ∀ ρ η H S ds vs d (Q : VK), RS G ρ η H S → RDs G ρ η H ds vs → op ds S = some d →
  (∀ H' z, Same H H' → RD G ρ η H' d z → Q z H') → r vs H Q
def fBi (op : List D → Sto → Option D) (g : FL) : FE := fun σ S => (g σ S).bind fun ds S1 => match op ds S1 with
  | some d => .ok d S1
  | none => .stuck
/-- a new list -/
def LnkN (G : Gm) (r : List V → Hp → VK → Prop) (op : List D → Sto → Option (List D)) : Prop := ∀ ρ η H S ds vs xs (Q : VK), RS G ρ η H S → RDs G ρ η H ds vs → op ds S = some xs →
  (∀ p us, H p = none → us.length ≤ sizeLine → RDs G ρ η H xs us → Q (.ref p) (upd H p (.lst us))) → r vs H Q
def fBiL (op : List D → Sto → Option (List D)) (g : FL) : FL := fun σ S => (g σ S).bind fun ds S1 => match op ds S1 with
  | some xs => .ok xs S1
  | none => .stuck
theorem CallR.or {X : Cx} {f : Value} {r r' : List V → Hp → VK → Prop} (h : CallR X f r) (h' : CallR X f r') : CallR X f (fun xs H Q => r xs H Q ∨ r' xs H Q) := fun pins s σ H xs us Q I r q =>
  q.elim (fun z => h pins s σ H xs us Q I r z) fun z => h' pins s σ H xs us Q I r z
section
variable {G : Gm} {X : Cx} {W : WX} {e : Expr} {es : List Expr} {g : FL} {x : Str} {p pos : Pos} {T id : String} {r : List V → Hp → VK → Prop}
theorem LA.bi {op : List D → Sto → Option D} (l : LnkA G r op) : ∀ σ H Q, LE G W (fBi op g) σ H Q → tCB r (LA G W g) σ H Q := by
  rintro σ H Q ⟨ρ, η, σd, S, rσ, rs, p⟩
  refine LA.of rσ rs p fun xs S1 ρ1 H1 us e1 rσ1 rs1 rxs p1 => ?_
  cases ho : op xs S1 with
  | none => rw [ho] at p1; exact p1.elim
  | some d =>
    rw [ho] at p1
    exact l ρ1 η H1 S1 xs us d Q rs1 rxs ho fun H' z sm rd => p1 ρ1 H' z (e1.trans (Ext.of_same sm)) (rs1.same sm) rd
theorem LA.biL {op : List D → Sto → Option (List D)} (l : LnkN G r op) : ∀ σ H Q, LL G W (fBiL op g) σ H Q → tCB r (LA G W g) σ H Q := by
  rintro σ H Q ⟨ρ, η, σd, S, rσ, rs, p⟩
  refine LA.of rσ rs p fun xs S1 ρ1 H1 us e1 rσ1 rs1 rxs p1 => ?_
  cases ho : op xs S1 with
  | none => rw [ho] at p1; exact p1.elim
  | some ys =>
    rw [ho] at p1
    exact l ρ1 η H1 S1 xs us ys Q rs1 rxs ho fun n ws hn hl rd => newList (fun a ha => rs1.somes a (e1.mem ha)) e1 rs1 rd hl hn p1
theorem je_bi {op : List D → Sto → Option D} (hc : CallR X (.builtin id) r) (l : LnkA G r op) (hm : X.mg x = none) (hv : bootBuiltins x = some (.builtin id)) (ha : JA G X W (e :: es) g) (hg : Gl X x := by rfl) (hn : x ≠ "__name__" := by decide) (hdb : (x == ("__debug__" : Str)) = false := by rfl)
    (he : starEach (e :: es) X.env = (false, eval e X.env) :: starEach es X.env := by rfl) (hpl : (backTo pos (starEach es X.env)).any (·.1) = false := by rfl) : JE G X W (.Call (.Name x p) (e :: es) [] pos) (fBi op g) :=
  ⟨PE.weak (pe_callB hc hg hm hv ha.pa hn hdb he hpl) (LA.bi l)⟩
theorem je_ty {op : List D → Sto → Option D} (hc : CallR X (.type T) r) (l : LnkA G r op) (hm : X.mg x = none) (hv : bootBuiltins x = some (.type T)) (ha : JA G X W (e :: es) g) (hg : Gl X x := by rfl) (hn : x ≠ "__name__" := by decide) (hdb : (x == ("__debug__" : Str)) = false := by rfl)
    (he : starEach (e :: es) X.env = (false, eval e X.env) :: starEach es X.env := by rfl) (hpl : (backTo pos (starEach es X.env)).any (·.1) = false := by rfl) : JE G X W (.Call (.Name x p) (e :: es) [] pos) (fBi op g) :=
  ⟨PE.weak (pe_callTy hc hg hm hv ha.pa hn hdb he hpl) (LA.bi l)⟩
theorem jl_ty {op : List D → Sto → Option (List D)} (hc : CallR X (.type T) r) (l : LnkN G r op) (hm : X.mg x = none) (hv : bootBuiltins x = some (.type T)) (ha : JA G X W (e :: es) g) (hg : Gl X x := by rfl) (hn : x ≠ "__name__" := by decide) (hdb : (x == ("__debug__" : Str)) = false := by rfl)
    (he : starEach (e :: es) X.env = (false, eval e X.env) :: starEach es X.env := by rfl) (hpl : (backTo pos (starEach es X.env)).any (·.1) = false := by rfl) : JL G X W (.Call (.Name x p) (e :: es) [] pos) (fBiL op g) :=
  ⟨PE.weak (pe_callTy hc hg hm hv ha.pa hn hdb he hpl) (LA.biL l)⟩
theorem jl_bi {op : List D → Sto → Option (List D)} (hc : CallR X (.builtin id) r) (l : LnkN G r op) (hm : X.mg x = none) (hv : bootBuiltins x = some (.builtin id)) (ha : JA G X W (e :: es) g) (hg : Gl X x := by rfl) (hn : x ≠ "__name__" := by decide) (hdb : (x == ("__debug__" : Str)) = false := by rfl)
    (he : starEach (e :: es) X.env = (false, eval e X.env) :: starEach es X.env := by rfl) (hpl : (backTo pos (starEach es X.env)).any (·.1) = false := by rfl) : JL G X W (.Call (.Name x p) (e :: es) [] pos) (fBiL op g) :=
  ⟨PE.weak (pe_callB hc hg hm hv ha.pa hn hdb he hpl) (LA.biL l)⟩
end
section
variable {G : Gm} {ρ η : List Addr} {H : Hp}
theorem RDs.one {d : D} {vs : List V} (r : RDs G ρ η H [d] vs) : ∃ v, vs = [v] ∧ RD G ρ η H d v := by
  rw [RDs] at r
  obtain ⟨v, t, rfl, r1, r2⟩ := r
  rw [RDs] at r2
  exact ⟨v, by rw [r2], r1⟩
theorem RDs.two {d e : D} {vs : List V} (r : RDs G ρ η H [d, e] vs) : ∃ v u, vs = [v, u] ∧ RD G ρ η H d v ∧ RD G ρ η H e u := by
  rw [RDs] at r
  obtain ⟨v, t, rfl, r1, r2⟩ := r
  obtain ⟨u, rfl, r3⟩ := r2.one
  exact ⟨v, u, rfl, r1, r3⟩
end
/-- one argument, two -/
def op1 {β : Type} (f : D → Sto → Option β) : List D → Sto → Option β := fun ds S => match ds with
  | [d] => f d S
  | _ => none
def op2 {β : Type} (f : D → D → Sto → Option β) : List D → Sto → Option β := fun ds S => match ds with
  | [d, e] => f d e S
  | _ => none
@[simp] theorem op1_one {β : Type} (f : D → Sto → Option β) (d : D) (S : Sto) : op1 f [d] S = f d S := rfl
@[simp] theorem op2_two {β : Type} (f : D → D → Sto → Option β) (d e : D) (S : Sto) : op2 f [d, e] S = f d e S := rfl
theorem op1_eq {β : Type} {f : D → Sto → Option β} {ds : List D} {S : Sto} {b : β} (h : op1 f ds S = some b) : ∃ d, ds = [d] ∧ f d S = some b := by
  cases ds with
  | nil => cases h
  | cons d r =>
    cases r with
    | nil => exact ⟨d, rfl, h⟩
    | cons e r => cases h
theorem op2_eq {β : Type} {f : D → D → Sto → Option β} {ds : List D} {S : Sto} {b : β} (h : op2 f ds S = some b) : ∃ d e, ds = [d, e] ∧ f d e S = some b := by
  cases ds with
  | nil => cases h
  | cons d r =>
    cases r with
    | nil => cases h
    | cons e r =>
      cases r with
      | nil => exact ⟨d, e, rfl, h⟩
      | cons z r => cases h
theorem lnkA1 {G : Gm} {r : List V → Hp → VK → Prop} {f : D → Sto → Option D} (k : ∀ ρ η H S x v d (Q : VK), RS G ρ η H S → RD G ρ η H x v → f x S = some d → (∀ H' z, Same H H' → RD G ρ η H' d z → Q z H') → r [v] H Q) : LnkA G r (op1 f) := by
  intro ρ η H S ds vs d Q rs rds h q
  obtain ⟨x, rfl, hx⟩ := op1_eq h
  obtain ⟨v, rfl, rx⟩ := rds.one
  exact k ρ η H S x v d Q rs rx hx q
theorem lnkA2 {G : Gm} {r : List V → Hp → VK → Prop} {f : D → D → Sto → Option D} (k : ∀ ρ η H S x y v u d (Q : VK), RS G ρ η H S → RD G ρ η H x v → RD G ρ η H y u → f x y S = some d → (∀ H' z, Same H H' → RD G ρ η H' d z → Q z H') → r [v, u] H Q) : LnkA G r (op2 f) := by
  intro ρ η H S ds vs d Q rs rds h q
  obtain ⟨x, y, rfl, hx⟩ := op2_eq h
  obtain ⟨v, u, rfl, rx, ry⟩ := rds.two
  exact k ρ η H S x y v u d Q rs rx ry hx q
theorem lnkN1 {G : Gm} {r : List V → Hp → VK → Prop} {f : D → Sto → Option (List D)} (k : ∀ ρ η H S x v xs (Q : VK), RS G ρ η H S → RD G ρ η H x v → f x S = some xs → (∀ p us, H p = none → us.length ≤ sizeLine → RDs G ρ η H xs us → Q (.ref p) (upd H p (.lst us))) → r [v] H Q) : LnkN G r (op1 f) := by
  intro ρ η H S ds vs d Q rs rds h q
  obtain ⟨x, rfl, hx⟩ := op1_eq h
  obtain ⟨v, rfl, rx⟩ := rds.one
  exact k ρ η H S x v d Q rs rx hx q
/-- len -/
def lenD (x : D) (S : Sto) : Option D := match x with
  | .str z => if tooMany z.length then none else some (.int (z.length : Nat))
  | _ => (seqA x S).map fun xs => .int (xs.length : Nat)
abbrev opLen := op1 lenD
def rLenU (K : PySem.W.Frag) : List V → Hp → VK → Prop := fun xs H Q => (∃ z, xs = [.str z] ∧ z.length ≤ sizeLine ∧ Q (.int z.length) H) ∨ ∃ p ys, xs = [.ref p] ∧ (SqL K H p ys ∨ SqT K H p ys) ∧ Q (.int ys.length) H
theorem call_lenU {X : Cx} : CallR X (.builtin "len") (rLenU X.K) := call_len_str.or call_len_seq
theorem lnk_len {G : Gm} : LnkA G (rLenU G.K) opLen := lnkA1 fun ρ η H S x v d Q rs rx h k => by
  have gen : (seqA x S).map (fun xs => D.int (xs.length : Nat)) = some d → rLenU G.K [v] H Q := fun hq => by
    obtain ⟨xs, h1, rfl⟩ := Option.map_eq_some_iff.mp hq
    obtain ⟨q, us, rfl, hs, hl, r⟩ := seqA_at rs rx h1
    exact .inr ⟨q, us, rfl, hs, k H _ (Same.refl H) (by rw [RD, r.length])⟩
  cases x with
  | str z =>
    have h2 : (if tooMany z.length then none else some (D.int (z.length : Nat))) = some d := h
    cases ht : tooMany z.length with
    | true => rw [ht] at h2; cases h2
    | false =>
      rw [ht] at h2
      have hd : d = .int (z.length : Nat) := (Option.some.inj h2).symm
      subst hd
      rw [RD] at rx
      subst rx
      exact .inl ⟨z, rfl, le_line ht, k H _ (Same.refl H) (by rw [RD])⟩
  | _ => exact gen h
/-- int of an int, of a truth, of a text -/
def intD (x : D) (S : Sto) : Option D := match x with
  | .int i => some (.int i)
  | .bl b => some (.int (if b then 1 else 0))
  | .str z => if z.length ≤ 640 then (PySem.intText? z).map D.int else none
  | _ => none
abbrev opInt := op1 intD
def rIntU : List V → Hp → VK → Prop := fun xs H Q => ((∃ i, xs = [.int i] ∧ Q (.int i) H) ∨ ∃ k, xs = [.bl k] ∧ Q (.int (if k then 1 else 0)) H) ∨ ∃ a n, xs = [.str a] ∧ PySem.intText? a = some n ∧ a.length ≤ 640 ∧ Q (.int n) H
theorem call_intU {X : Cx} : CallR X (.type "int") rIntU := call_int1.or call_int_str
theorem lnk_int {G : Gm} : LnkA G rIntU opInt := lnkA1 fun ρ η H S x v d Q rs rx h k => by
  cases x with
  | int i =>
    rw [RD] at rx
    subst rx
    cases h
    exact .inl (.inl ⟨i, rfl, k H _ (Same.refl H) (by rw [RD])⟩)
  | bl b =>
    rw [RD] at rx
    subst rx
    cases h
    exact .inl (.inr ⟨b, rfl, k H _ (Same.refl H) (by rw [RD])⟩)
  | str z =>
    rw [RD] at rx
    subst rx
    have h3 : (if z.length ≤ 640 then (PySem.intText? z).map D.int else none) = some d := h
    by_cases hl : z.length ≤ 640
    · rw [if_pos hl] at h3
      obtain ⟨n, hn, rfl⟩ := Option.map_eq_some_iff.mp h3
      exact .inr ⟨z, n, rfl, hn, hl, k H _ (Same.refl H) (by rw [RD])⟩
    · rw [if_neg hl] at h3
      cases h3
  | _ => cases h
/-- str of an int -/
def strD (x : D) (S : Sto) : Option D := match x with
  | .int i => if i.natAbs.log2 < 1920 then some (.str (toString i)) else none
  | _ => none
abbrev opStr := op1 strD
theorem lnk_str {G : Gm} : LnkA G (fun xs H Q => ∃ i, xs = [.int i] ∧ i.natAbs.log2 < 1920 ∧ Q (.str (toString i)) H) opStr := lnkA1 fun ρ η H S x v d Q rs rx h k => by
  cases x with
  | int i =>
    rw [RD] at rx
    subst rx
    have h3 : (if i.natAbs.log2 < 1920 then some (D.str (toString i)) else none) = some d := h
    by_cases hl : i.natAbs.log2 < 1920
    · rw [if_pos hl] at h3
      cases h3
      exact ⟨i, rfl, hl, k H _ (Same.refl H) (by rw [RD])⟩
    · rw [if_neg hl] at h3
      cases h3
  | _ => cases h
def absD (x : D) (S : Sto) : Option D := match x with
  | .int i => some (.int (if i < 0 then -i else i))
  | _ => none
abbrev opAbs := op1 absD
theorem lnk_abs {G : Gm} : LnkA G (fun xs H Q => ∃ i, xs = [.int i] ∧ Q (.int (if i < 0 then -i else i)) H) opAbs := lnkA1 fun ρ η H S x v d Q rs rx h k => by
  cases x with
  | int i =>
    rw [RD] at rx
    subst rx
    cases h
    exact ⟨i, rfl, k H _ (Same.refl H) (by rw [RD])⟩
  | _ => cases h
def max2D (x y : D) (S : Sto) : Option D := match x with
  | .int i => (match y with
    | .int j => some (.int (if j > i then j else i))
    | _ => none)
  | _ => none
abbrev opMax2 := op2 max2D
theorem lnk_max2 {G : Gm} : LnkA G (fun xs H Q => ∃ i j, xs = [.int i, .int j] ∧ Q (.int (if j > i then j else i)) H) opMax2 := lnkA2 fun ρ η H S x y v u d Q rs rx ry h k => by
  cases x with
  | int i =>
    cases y with
    | int j =>
      rw [RD] at rx
      rw [RD] at ry
      subst rx ry
      cases h
      exact ⟨i, j, rfl, k H _ (Same.refl H) (by rw [RD])⟩
    | _ => cases h
  | _ => cases h
/-- list(..), tuple(..) -/
abbrev opList := op1 seqA
theorem lnk_list {G : Gm} : LnkN G (fun xs H Q => ∃ p ys, xs = [.ref p] ∧ (SqL G.K H p ys ∨ SqT G.K H p ys) ∧ ∀ l, H l = none → Q (.ref l) (upd H l (.lst ys))) opList := lnkN1 fun ρ η H S x v d Q rs rx h k => by
  obtain ⟨q, us, rfl, hs, hl, r⟩ := seqA_at rs rx h
  exact ⟨q, us, rfl, hs, fun l hn => k l us hn hl r⟩
def rTupOf (K : PySem.W.Frag) : List V → Hp → VK → Prop := fun xs H Q => ∃ p ys, xs = [.ref p] ∧ ((SqL K H p ys ∧ wTup H Q ys) ∨ (SqT K H p ys ∧ Q (.ref p) H))
theorem call_tupleF {X : Cx} : CallR X (.type "tuple") (rTupOf X.K) := by
  rintro pins s σ H xs us Q I r ⟨p, ys, rfl, h⟩
  obtain ⟨u, rfl, rx⟩ := vals1 r
  cases rx
  rcases h with ⟨hq, q⟩ | ⟨hq, q⟩
  · obtain ⟨its, r', pl, hz⟩ := I.list hq
    have hlen := r'.length
    refine call_tuple_list pl.isList (fun h' kp => ?_) (by simp only [List.size_toArray] <;> omega)
    exact wTup.at (t' := s.toks) q (I.kept (t' := s.toks) kp) r' hz
  · obtain ⟨its, r', pl, hz⟩ := I.tuple hq
    exact call_tuple_same pl ⟨.ref p, H, I, rfl, q⟩
def tupleD (x : D) (S : Sto) : Option D := match x with
  | .tup xs => some (.tup xs)
  | _ => (seqL x S).map D.tup
abbrev opTuple := op1 tupleD
theorem lnk_tuple {G : Gm} : LnkA G (rTupOf G.K) opTuple := lnkA1 fun ρ η H S x v d Q rs rx h k => by
  have gen : (seqL x S).map D.tup = some d → rTupOf G.K [v] H Q := fun hq => by
    obtain ⟨xs, h1, rfl⟩ := Option.map_eq_some_iff.mp hq
    obtain ⟨q, us, rfl, hs, hl, r⟩ := seqL_at rs rx h1
    refine ⟨q, us, rfl, .inl ⟨hs, fun n o hn ho => ?_⟩⟩
    obtain ⟨sm, rd⟩ := tup_new rs hn ho hl r
    exact k _ _ sm rd
  cases x with
  | tup xs =>
    cases h
    obtain ⟨q, us, rfl, hs, hl, r⟩ := tup_at rx
    exact ⟨q, us, rfl, .inr ⟨hs, k H _ (Same.refl H) rx⟩⟩
  | _ => exact gen h
/-- all, any of truths -/
def blOf : D → Option Bool
  | .bl b => some b
  | _ => none
def blsOf : List D → Option (List Bool)
  | [] => some []
  | d :: r => match blOf d, blsOf r with
    | some b, some bs => some (b :: bs)
    | _, _ => none
theorem bls_at {G : Gm} {ρ η : List Addr} {H : Hp} : ∀ (xs : List D) (vs : List V) (bs : List Bool), RDs G ρ η H xs vs → blsOf xs = some bs → vs = bs.map V.bl
  | [], vs, bs, r, h => by rw [RDs] at r; cases h; exact r
  | d :: ds, vs, bs, r, h => by
    rw [RDs] at r
    obtain ⟨v, t, rfl, r1, r2⟩ := r
    rw [blsOf] at h
    cases hb : blOf d with
    | none => rw [hb] at h; cases h
    | some b =>
      cases hc : blsOf ds with
      | none => rw [hb, hc] at h; cases h
      | some cs =>
        rw [hb, hc] at h
        cases h
        have ih := bls_at ds t cs r2 hc
        cases d with
        | bl c =>
          rw [RD] at r1
          cases hb
          rw [r1, ih]
          rfl
        | _ => cases hb
def allD (x : D) (S : Sto) : Option D := (seqL x S).bind fun xs => (blsOf xs).map fun bs => .bl (bs.all id)
def anyD (x : D) (S : Sto) : Option D := (seqL x S).bind fun xs => (blsOf xs).map fun bs => .bl (bs.any id)
abbrev opAll := op1 allD
abbrev opAny := op1 anyD
theorem lnk_all {G : Gm} : LnkA G (rAll G.K) opAll := lnkA1 fun ρ η H S x v d Q rs rx h k => by
  obtain ⟨xs, h1, h2⟩ := Option.bind_eq_some_iff.mp h
  obtain ⟨bs, hb, rfl⟩ := Option.map_eq_some_iff.mp h2
  obtain ⟨q, us, rfl, hs, hl, r⟩ := seqL_at rs rx h1
  exact ⟨q, bs, rfl, bls_at _ _ _ r hb ▸ hs, k H _ (Same.refl H) (by rw [RD])⟩
theorem lnk_any {G : Gm} : LnkA G (rAny G.K) opAny := lnkA1 fun ρ η H S x v d Q rs rx h k => by
  obtain ⟨xs, h1, h2⟩ := Option.bind_eq_some_iff.mp h
  obtain ⟨bs, hb, rfl⟩ := Option.map_eq_some_iff.mp h2
  obtain ⟨q, us, rfl, hs, hl, r⟩ := seqL_at rs rx h1
  exact ⟨q, bs, rfl, bls_at _ _ _ r hb ▸ hs, k H _ (Same.refl H) (by rw [RD])⟩
end Fx

/-! Fx7: defs, calls, methods, attributes. -/
namespace Fx
open PySem PySem.Spec L2

/-- a def's function -/
abbrev FF := List D → Sto → Out D
def PostF (G : Gm) (η ρ : List Addr) (H : Hp) (o : Out D) (Q : VK) (E : XK) : Prop := match o with
  | .ok d S' => KE G η ρ H Q d S'
  | .exc x S' => ∀ ρ' H' C dd, Ext ρ H ρ' H' → RS G ρ' η H' S' → RX G ρ' η H' x C dd → E C dd H'
  | .stuck => False
/-- its promise -/
def spF (G : Gm) (n : Nat) (f : FF) : Sp := fun vs H Q E => ∃ ρ η ds S, ds.length = n ∧ RDs G ρ η H ds vs ∧ RS G ρ η H S ∧ PostF G η ρ H (f ds S) Q E
theorem PostF.shift {G : Gm} {η ρ ρ1 : List Addr} {H H1 : Hp} {o : Out D} {Q : VK} {E : XK} (p : PostF G η ρ H o Q E) (e : Ext ρ H ρ1 H1) : PostF G η ρ1 H1 o Q E := by
  cases o with
  | ok d S => exact KE.shift p e
  | exc x S => exact fun ρ' H' C dd e' => p ρ' H' C dd (e.trans e')
  | stuck => exact p
/-- from the body -/
def fDef (n : Nat) (g : FS) : FF := fun ds S => match g (ds.map some ++ List.replicate (n - ds.length) none) S with
  | .nx _ S' => .ok .non S'
  | .rt d S' => .ok d S'
  | .exc x _ S' => .exc x S'
  | _ => .stuck
theorem start_slots {G : Gm} {ρ η : List Addr} {H : Hp} {ds : List D} {vs : List V} (N : List Str) (r : RDs G ρ η H ds vs) : RSl G ρ η H (ds.map some ++ List.replicate (N.length - ds.length) none) (L2.start N vs) := by
  unfold L2.start
  have hl := r.length
  refine ⟨by simp [hl], fun i d h => ?_⟩
  by_cases hi : i < ds.length
  · rw [List.getElem?_append_left (by simpa using hi), List.getElem?_map] at h
    obtain ⟨e, he, hd⟩ := Option.map_eq_some_iff.mp h
    have hd' : e = d := Option.some.inj hd
    subst hd'
    obtain ⟨v, hv, rv⟩ := r.get he
    exact ⟨v, by rw [List.getElem?_append_left (by rw [List.length_map, hl]; exact hi), List.getElem?_map, hv]; rfl, rv⟩
  · rw [List.getElem?_append_right (by simpa using hi)] at h
    rw [List.getElem?_replicate] at h
    split at h <;> cases h
theorem fdef_post {G : Gm} {ρ η : List Addr} {H : Hp} {n : Nat} {g : FS} {ds : List D} {S : Sto} {Q : VK} {E : XK} (p : PostF G η ρ H (fDef n g ds S) Q E) :
    PostS G η (fun cls d _ H => E cls d H) ρ H (g (ds.map some ++ List.replicate (n - ds.length) none) S) { nx := fun _ H' => Q .non H', rt := Q } := by
  unfold fDef at p
  revert p
  cases g (ds.map some ++ List.replicate (n - ds.length) none) S with
  | nx σ' S' => exact fun p ρ' H' σ' e _ rs => p ρ' H' .non e rs (by rw [RD])
  | rt d S' => exact fun p => p
  | exc x σ' S' => exact fun p ρ' H' σ' C dd e _ rs rx => p ρ' H' C dd e rs rx
  | bk σ' S' => exact fun p => p.elim
  | ct σ' S' => exact fun p => p.elim
  | stuck => exact fun p => p.elim
section
variable {P : Program} {w : World} {K : PySem.W.Frag} {mg : Str → Option Value} {base : Heap} {cl : Nat → Addr} {tb : List (Addr × Str)}
/-- a def that stands in the text, by its body's function -/
theorem fn_body {x qual : Str} {params : Arguments} {body : List Stmt} {scope : Scope} {dfl : List V} {kwd : List (Str × V)} {f : Addr} {fd : FuncData} (N ps : List Str) {k : Nat} {g : FS} (F : FunD K x qual params body scope dfl kwd f fd) (S : FnScope N ps scope)
    (h : ∀ (cdv : Value) (A : Around) (outer : List Env) (s : Shared) (H : Hp) (E : XK), Room k (A.deeper (PyProof.Rows.envOfC qual scope s.heap.objs.size f cdv)) →
      JSs ⟨P, w, K, cl, tb⟩ (cxOf (L2.CX P w) P w K mg base N qual scope f cdv A outer s H E) (fun cls d _ H => E cls d H) body g) :
    FnOk P w K mg base (L2.CX P w) (k + 1) f fd ps (spF ⟨P, w, K, cl, tb⟩ ps.length (fDef N.length g)) := by
  obtain ⟨⟨oc, od, dV, kV, doc, pm, an, cdv, ct, osl, rfl, lk, hcd, _⟩, kp⟩ := F
  refine fn_of lk hcd S (fun vs H Q E h => ?_) fun A outer s H vs Q E hr h' => ?_
  · obtain ⟨ρ, η, ds, S, hn, rd, _⟩ := h
    rw [rd.length, hn]
  · obtain ⟨ρ, η, ds, S', hn, rd, rs, p⟩ := h'
    exact ⟨_, (h cdv A outer s H E hr).ps, ρ, η, _, S', start_slots N rd, rs, fdef_post p⟩
end

/-- what a body leans on at every place -/
structure Here (X : Cx) (W : WX) (k : Nat) : Prop where
  room : Room k X.A
  takes : Takes X W
  own : PassesOwn (model X.prog X.w) X.A X.env X.xe
theorem here_def {P : Program} {w : World} {K : PySem.W.Frag} {mg : Str → Option Value} {base : Heap} {N : List Str} {qual : Str} {scope : Scope} {f : Addr} {cd : Value} {A : Around} {outer : List Env} {s : Shared} {H : Hp} {E : XK} {k : Nat}
    (hr : Room k (A.deeper (PyProof.Rows.envOfC qual scope s.heap.objs.size f cd))) : Here (cxOf (L2.CX P w) P w K mg base N qual scope f cd A outer s H E) (fun cls d _ H => E cls d H) k :=
  ⟨hr, takes_of rfl rfl rfl rfl, passes_of rfl⟩
theorem here_blk {X : Cx} {W : WX} {k : Nat} (h : Here X W k) (s : Shared) (H : Hp) (sc : Scope) (env : Env) (fp : List Addr) : Here (X.blk s H sc env fp) W0 k :=
  ⟨h.room, takes0, PassesOwn.never⟩
instance fits_def {P : Program} {w : World} {K : PySem.W.Frag} {cl : Nat → Addr} {tb : List (Addr × Str)} {mg : Str → Option Value} {base : Heap} {N : List Str} {qual : Str} {scope : Scope} {f : Addr} {cd : Value} {A : Around} {outer : List Env} {s : Shared} {H : Hp} {E : XK} :
    Fits ⟨P, w, K, cl, tb⟩ (cxOf (L2.CX P w) P w K mg base N qual scope f cd A outer s H E) := ⟨rfl, rfl, rfl⟩
instance fits_blk {G : Gm} {X : Cx} [F : Fits G X] {s : Shared} {H : Hp} {sc : Scope} {env : Env} {fp : List Addr} : Fits G (X.blk s H sc env fp) := ⟨F.P, F.w, F.K⟩

/-! ### calls -/
/-- a def that may be called -/
structure Callee (G : Gm) (mg : Str → Option Value) (base : Heap) (x : Str) (ps : List Str) (n k : Nat) (f : FF) : Prop where
  ok : ∃ a fd, FnOk G.P G.w G.K mg base (L2.CX G.P G.w) k a fd ps (spF G n f) ∧ mg x = some (.ref a) ∧ PySem.W.keepIn G.K (.ref a) = true ∧ Binds G.K fd ps []
def fCall (f : FF) (g : FL) : FE := fun σ S => (g σ S).bind fun ds S1 => f ds S1
/-- what a call with these arguments may want -/
theorem sp_of {G : Gm} {W : WX} {ρ η : List Addr} {H : Hp} {σ : L2.St} {S : Sto} {f : FF} {ds : List D} {vs : List V} {n : Nat} {Q : VK} (hn : ds.length = n) (rds : RDs G ρ η H ds vs) (rs : RS G ρ η H S) (p : Post G η σ W ρ H (f ds S) (KE G η ρ H Q)) :
    spF G n f vs H Q (WE W σ) := by
  refine ⟨ρ, η, ds, S, hn, rds, rs, ?_⟩
  revert p
  cases f ds S with
  | ok d S' => exact fun p => p
  | exc x S' => exact fun p => p
  | stuck => exact fun p => p
/-- the function is asked with so many arguments alone -/
def arity (n : Nat) (f : FF) : FF := fun ds S => if ds.length = n then f ds S else .stuck
section
variable {G : Gm} {X : Cx} {W : WX} {e : Expr} {es : List Expr} {g : FL} {x : Str} {p pos : Pos}
theorem je_call [F : Fits G X] {ps : List Str} {n k j : Nat} {f : FF} (c : Callee G X.mg X.base x ps n k f) (h : Here X W j) (hk : k ≤ j) (ha : JA G X W (e :: es) g) (hg : Gl X x := by rfl) (hn : (e :: es).length = n := by rfl) (hdb : (x == ("__debug__" : Str)) = false := by rfl)
    (he : starEach (e :: es) X.env = (false, eval e X.env) :: starEach es X.env := by rfl) (hpl : (backTo pos (starEach es X.env)).any (·.1) = false := by rfl) : JE G X W (.Call (.Name x p) (e :: es) [] pos) (fCall (arity n f) g) := by
  obtain ⟨a, fd, ok, hm, kp, b⟩ := c.ok
  rw [F.P, F.w, F.K] at ok
  rw [F.K] at kp b
  refine ⟨PE.weak (pe_callS ok (h.room.mono hk) hg hm kp b (fun σ => passAt h.takes σ) ha.pa hdb he hpl) ?_⟩
  rintro σ H Q ⟨ρ, η, σd, S, rσ, rs, p⟩
  refine LA.of rσ rs p fun ds S1 ρ1 H1 vs e1 rσ1 rs1 rds p1 => ?_
  unfold arity at p1
  by_cases hl : ds.length = n
  · rw [if_pos hl] at p1
    exact sp_of hl rds rs1 (p1.imp fun d S k => k.shift e1)
  · rw [if_neg hl] at p1
    exact p1.elim
end
end Fx

/-! Fx8: methods of lists, tuples, texts. -/
namespace Fx
open PySem PySem.Spec L2

/-! ### the receiver's type -/
def tyF (K : PySem.W.Frag) (T : String) (x : V) (H : Hp) : Prop := tyV K T x H ∨ (T = "tuple" ∧ ∃ p o xs, x = .ref p ∧ H p = some (.frz o (.tup xs)) ∧ o.dict = none)
theorem tyF_ok {X : Cx} {T : String} : TyOk X T (tyF X.K T) := by
  intro pins σ H s x v I r h
  rcases h with h | ⟨rfl, p, o, xs, rfl, hp, hd⟩
  · exact tyV_is I r h
  · cases (show v = Value.ref p from r)
    obtain ⟨hz, hg, _, _, o', h1, h2, _⟩ := (show ObjOk X.prog X.w H s.heap p (.frz o (.tup xs)) from I.hok p _ hp)
    refine ⟨⟨o', h1, h2⟩, fun a e => ?_⟩
    cases e
    exact ⟨o, hz, hd⟩
def TyD (G : Gm) (T : String) (f : D → Sto → Bool) : Prop := ∀ ρ η H S x v, RS G ρ η H S → RD G ρ η H x v → f x S = true → tyF G.K T v H
def isSt (x : D) (_ : Sto) : Bool := match x with
  | .str _ => true
  | _ => false
def isLs (x : D) (S : Sto) : Bool := (seqL x S).isSome
def isTp (x : D) (_ : Sto) : Bool := match x with
  | .tup _ => true
  | _ => false
theorem ty_str {G : Gm} : TyD G "str" isSt := fun ρ η H S x v rs rd h => by
  cases x with
  | str z =>
    rw [RD] at rd
    subst rd
    exact .inl rfl
  | _ => cases h
theorem ty_list {G : Gm} : TyD G "list" isLs := fun ρ η H S x v rs rd h => by
  unfold isLs at h
  obtain ⟨xs, hx⟩ := Option.isSome_iff_exists.mp h
  obtain ⟨a, vs, rfl, hq, _, _⟩ := seqL_at rs rd hx
  exact .inl (.inl ⟨rfl, vs, hq⟩)
theorem ty_tup {G : Gm} : TyD G "tuple" isTp := fun ρ η H S x v rs rd h => by
  cases x with
  | tup xs =>
    rw [RD] at rd
    obtain ⟨a, vs, rfl, ht, _, _⟩ := rd
    rcases ht with ⟨o, e, hd, _⟩ | ⟨o, its, n, h1, h2, hd, h3⟩
    · exact .inr ⟨rfl, a, o, vs, rfl, e, hd⟩
    · exact .inl (.inr (.inl ⟨rfl, o, h1, h2, hd⟩))
  | _ => cases h

/-! ### a method by values -/
abbrev OpM := D → List D → Sto → Option (D × Sto)
def LnkM (G : Gm) (r : V → List V → Hp → VK → Prop) (op : OpM) : Prop := ∀ ρ η H S x ds v vs d S' (Q : VK), RS G ρ η H S → RD G ρ η H x v → RDs G ρ η H ds vs → op x ds S = some (d, S') →
  (∀ H' z, Ext ρ H ρ H' → RS G ρ η H' S' → RD G ρ η H' d z → Q z H') → r v vs H Q
def fMt (ty : D → Sto → Bool) (op : OpM) (fo : FE) (g : FL) : FE := fun σ S => (fo σ S).bind fun x S1 => if ty x S1 = true then (g σ S1).bind fun ds S2 => (match op x ds S2 with
  | some (d, S3) => .ok d S3
  | none => .stuck) else .stuck
def fMt0 (ty : D → Sto → Bool) (op : OpM) (fo : FE) : FE := fun σ S => (fo σ S).bind fun x S1 => if ty x S1 = true then (match op x [] S1 with
  | some (d, S3) => .ok d S3
  | none => .stuck) else .stuck
/-- a method that makes a list -/
abbrev OpMN := D → List D → Sto → Option (List D)
def LnkMN (G : Gm) (r : V → List V → Hp → VK → Prop) (op : OpMN) : Prop := ∀ ρ η H S x ds v vs xs (Q : VK), RS G ρ η H S → RD G ρ η H x v → RDs G ρ η H ds vs → op x ds S = some xs →
  (∀ p us, H p = none → us.length ≤ sizeLine → RDs G ρ η H xs us → Q (.ref p) (upd H p (.lst us))) → r v vs H Q
def fMtL (ty : D → Sto → Bool) (op : OpMN) (fo : FE) (g : FL) : FL := fun σ S => (fo σ S).bind fun x S1 => if ty x S1 = true then (g σ S1).bind fun ds S2 => (match op x ds S2 with
  | some xs => .ok xs S2
  | none => .stuck) else .stuck
section
variable {G : Gm} {X : Cx} {W : WX} {o e : Expr} {es : List Expr} {fo : FE} {g : FL} {name : Str} {apos cpos : Pos} {T id : String} {r : V → List V → Hp → VK → Prop} {ty : D → Sto → Bool}
theorem mt_end {ρ η : List Addr} {H : Hp} {σ : L2.St} {S : Sto} {Q : VK} {oo : Option (D × Sto)} (p : Post G η σ W ρ H (match oo with | some (d, S3) => (.ok d S3 : Out D) | none => .stuck) (KE G η ρ H Q)) :
    ∃ d S', oo = some (d, S') ∧ ∀ H' z, Ext ρ H ρ H' → RS G ρ η H' S' → RD G ρ η H' d z → Q z H' := by
  cases oo with
  | none => exact p.elim
  | some d => exact ⟨d.1, d.2, rfl, fun H' z e rs rd => p ρ H' z e rs rd⟩
theorem je_mt [F : Fits G X] {op : OpM} (td : TyD G T ty) (pa : PlainAttrs T) (slot : Slot T name id) (hty : typeOf (.builtin id) = pure (.type "method_descriptor")) (hm : MtR X id r) (l : LnkM G r op) (ho : JE G X W o fo) (ha : JA G X W (e :: es) g)
    (hbase : attributeBase o name X.env (eval o X.env) = eval o X.env := by rfl)
    (hfew : ((backTo cpos (starEach (e :: es) X.env)).all (fun x => !x.1) && (backToKw cpos (keywordEach [] X.env)).all (fun x => x.1.isSome)
      && decide ((e :: es).length + ([] : List Keyword).length + (if ([] : List Keyword).isEmpty then 0 else 1) < 30)) = true := by rfl)
    (hline : (apos.endLine == cpos.line) = true := by rfl) (hs : starEach (e :: es) X.env = (false, eval e X.env) :: starEach es X.env := by rfl) (hplain : (backTo cpos (starEach es X.env)).any (·.1) = false := by rfl) :
    JE G X W (.Call (.Attribute o name apos) (e :: es) [] cpos) (fMt ty op fo g) := by
  refine ⟨PE.weak (pe_mG tyF_ok pa slot hty hm ho.pe ha.pa hbase hfew hline hs hplain) ?_⟩
  rintro σ H Q ⟨ρ, η, σd, S, rσ, rs, p⟩
  refine LE.of rσ rs p fun x S1 ρ1 H1 u e1 rσ1 rs1 rx p1 => ?_
  by_cases ht : ty x S1 = true
  · rw [if_pos ht] at p1
    refine ⟨F.K ▸ td ρ1 η H1 S1 x u rs1 rx ht, ?_⟩
    refine LA.of rσ1 rs1 p1 fun ds S2 ρ2 H2 vs e2 rσ2 rs2 rds p2 => ?_
    have p3 := p2.imp (k' := KE G η ρ2 H2 Q) fun d S k => k.shift (e1.trans e2)
    obtain ⟨d, S', q, h⟩ := mt_end (S := S2) p3
    exact l ρ2 η H2 S2 x ds u vs d S' Q rs2 (rx.ext e2) rds q h
  · rw [if_neg ht] at p1
    exact p1.elim
theorem je_mt0 [F : Fits G X] {op : OpM} (td : TyD G T ty) (pa : PlainAttrs T) (slot : Slot T name id) (hty : typeOf (.builtin id) = pure (.type "method_descriptor")) (hm : MtR X id r) (l : LnkM G r op) (ho : JE G X W o fo)
    (hbase : attributeBase o name X.env (eval o X.env) = eval o X.env := by rfl) (hline : (apos.endLine == cpos.line) = true := by rfl) :
    JE G X W (.Call (.Attribute o name apos) [] [] cpos) (fMt0 ty op fo) := by
  refine ⟨PE.weak (pe_mG0 tyF_ok pa slot hty hm ho.pe hbase hline) ?_⟩
  rintro σ H Q ⟨ρ, η, σd, S, rσ, rs, p⟩
  refine LE.of rσ rs p fun x S1 ρ1 H1 u e1 rσ1 rs1 rx p1 => ?_
  by_cases ht : ty x S1 = true
  · rw [if_pos ht] at p1
    refine ⟨F.K ▸ td ρ1 η H1 S1 x u rs1 rx ht, ?_⟩
    have p3 := p1.imp (k' := KE G η ρ1 H1 Q) fun d S k => k.shift e1
    obtain ⟨d, S', q, h⟩ := mt_end (S := S1) p3
    exact l ρ1 η H1 S1 x [] u [] d S' Q rs1 rx RDs.nil q h
  · rw [if_neg ht] at p1
    exact p1.elim
theorem jl_mt [F : Fits G X] {op : OpMN} (td : TyD G T ty) (pa : PlainAttrs T) (slot : Slot T name id) (hty : typeOf (.builtin id) = pure (.type "method_descriptor")) (hm : MtR X id r) (l : LnkMN G r op) (ho : JE G X W o fo) (ha : JA G X W (e :: es) g)
    (hbase : attributeBase o name X.env (eval o X.env) = eval o X.env := by rfl)
    (hfew : ((backTo cpos (starEach (e :: es) X.env)).all (fun x => !x.1) && (backToKw cpos (keywordEach [] X.env)).all (fun x => x.1.isSome)
      && decide ((e :: es).length + ([] : List Keyword).length + (if ([] : List Keyword).isEmpty then 0 else 1) < 30)) = true := by rfl)
    (hline : (apos.endLine == cpos.line) = true := by rfl) (hs : starEach (e :: es) X.env = (false, eval e X.env) :: starEach es X.env := by rfl) (hplain : (backTo cpos (starEach es X.env)).any (·.1) = false := by rfl) :
    JL G X W (.Call (.Attribute o name apos) (e :: es) [] cpos) (fMtL ty op fo g) := by
  refine ⟨PE.weak (pe_mG tyF_ok pa slot hty hm ho.pe ha.pa hbase hfew hline hs hplain) ?_⟩
  rintro σ H Q ⟨ρ, η, σd, S, rσ, rs, p⟩
  refine LE.of rσ rs p fun x S1 ρ1 H1 u e1 rσ1 rs1 rx p1 => ?_
  by_cases ht : ty x S1 = true
  · rw [if_pos ht] at p1
    refine ⟨F.K ▸ td ρ1 η H1 S1 x u rs1 rx ht, ?_⟩
    refine LA.of rσ1 rs1 p1 fun ds S2 ρ2 H2 vs e2 rσ2 rs2 rds p2 => ?_
    revert p2
    cases hq : op x ds S2 with
    | none => exact fun p2 => p2.elim
    | some xs =>
      intro p2
      refine l ρ2 η H2 S2 x ds u vs xs Q rs2 (rx.ext e2) rds hq fun p us hp hl r => ?_
      exact newList (fun a ha => rs2.somes a ((e1.trans e2).mem ha)) (e1.trans e2) rs2 r hl hp p2
  · rw [if_neg ht] at p1
    exact p1.elim
end

/-! ### what the methods do -/
def fewer (n : Nat) : Bool := decide (n < 100000)
theorem lt_line {n : Nat} (h : fewer n = true) : n < sizeLine := Nat.lt_of_lt_of_le (of_decide_eq_true h) (by decide)
/-- a list in the store -/
def lstO (x : D) (S : Sto) : Option (Nat × List D) := match x with
  | .ref n => (match S[n]? with
    | some (.lst xs) => some (n, xs)
    | _ => none)
  | _ => none
theorem lstO_at {G : Gm} {ρ η : List Addr} {H : Hp} {S : Sto} {x : D} {v : V} {n : Nat} {xs : List D} (rs : RS G ρ η H S) (rx : RD G ρ η H x v) (h : lstO x S = some (n, xs)) : ∃ a vs, v = .ref a ∧ ρ[n]? = some a ∧ H a = some (.lst vs) ∧ vs.length ≤ sizeLine ∧ RDs G ρ η H xs vs := by
  unfold lstO at h
  split at h
  · split at h
    · rename_i ys hn
      cases h
      rw [RD] at rx
      obtain ⟨a, ha, rfl⟩ := rx
      obtain ⟨vs, h2, hz, rds⟩ := rs.ob n a _ ha hn
      exact ⟨a, vs, rfl, ha, h2, hz, rds⟩
    · cases h
  · cases h
/-- it is rewritten -/
theorem lst_write {G : Gm} {ρ η : List Addr} {H : Hp} {S : Sto} {n : Nat} {a : Addr} {vs us : List V} {ys : List D} (rs : RS G ρ η H S) (ha : ρ[n]? = some a) (e : H a = some (.lst vs)) (hl : us.length ≤ sizeLine) (r : RDs G ρ η H ys us) :
    Ext ρ H ρ (upd H a (.lst us)) ∧ RS G ρ η (upd H a (.lst us)) (S.set n (.lst ys)) := by
  have nz : ∀ o u, H a ≠ some (.frz o u) := fun o u z => by rw [e] at z; cases z
  have ex : Ext ρ H ρ (upd H a (.lst us)) := ⟨⟨[], by simp⟩, fun b o hb nb _ => ⟨by rw [upd_ne (fun (z : b = a) => nb (by rw [z]; exact List.mem_of_getElem? ha))]; exact hb, nb⟩, fun b w y q => by rw [upd_ne (fun (z : b = a) => nz w y (z ▸ q))]; exact q⟩
  have ro : RO G ρ η (upd H a (.lst us)) a (.lst ys) := ⟨us, upd_same, hl, r.ext ex⟩
  exact ⟨ex, (rs.write ha ro nz).1⟩
def opAppend : OpM := fun x ds S => match lstO x S, ds with
  | some (n, xs), [d] => if fewer xs.length then some (.non, S.set n (.lst (xs ++ [d]))) else none
  | _, _ => none
theorem lnk_append {G : Gm} : LnkM G rAppend opAppend := by
  intro ρ η H S x ds v vs d S' Q rs rx rds h k
  unfold opAppend at h
  split at h
  · rename_i n xs y hx
    split at h
    · rename_i hf
      cases h
      obtain ⟨a, us, rfl, ha, e, hl, r⟩ := lstO_at rs rx hx
      obtain ⟨u, rfl, ru⟩ := rds.one
      have hlt : us.length < sizeLine := by rw [r.length]; exact lt_line hf
      obtain ⟨ex, rs'⟩ := lst_write (us := us ++ [u]) rs ha e (by simp; omega) (r.append (RDs.cons ru RDs.nil))
      exact ⟨a, us, u, rfl, rfl, e, hlt, k _ .non ex rs' (by rw [RD])⟩
    · cases h
  · cases h
def opPop : OpM := fun x ds S => match lstO x S, ds with
  | some (n, xs), [] => (match xs[xs.length - 1]? with
    | some y => some (y, S.set n (.lst xs.dropLast))
    | none => none)
  | _, _ => none
theorem RDs.dropLast {G : Gm} {ρ η : List Addr} {H : Hp} {ds : List D} {vs : List V} (r : RDs G ρ η H ds vs) : RDs G ρ η H ds.dropLast vs.dropLast := by
  rw [List.dropLast_eq_take, List.dropLast_eq_take, r.length]
  exact r.take _
theorem RDs.erase {G : Gm} {ρ η : List Addr} {H : Hp} {ds : List D} {vs : List V} (r : RDs G ρ η H ds vs) (k : Nat) : RDs G ρ η H (ds.eraseIdx k) (vs.eraseIdx k) := by
  rw [List.eraseIdx_eq_take_drop_succ, List.eraseIdx_eq_take_drop_succ]
  exact (r.take k).append (r.drop (k + 1))
theorem lnk_pop {G : Gm} : LnkM G rPop opPop := by
  intro ρ η H S x ds v vs d S' Q rs rx rds h k
  unfold opPop at h
  split at h
  · rename_i n xs hx
    split at h
    · rename_i y hy
      cases h
      obtain ⟨a, us, rfl, ha, e, hl, r⟩ := lstO_at rs rx hx
      obtain ⟨u, hu, ru⟩ := r.get hy
      rw [RDs] at rds
      subst rds
      obtain ⟨ex, rs'⟩ := lst_write (us := us.dropLast) rs ha e (by rw [List.length_dropLast]; omega) r.dropLast
      exact ⟨a, us, u, rfl, rfl, e, by rw [r.length]; exact hu, k _ u ex rs' (ru.ext ex)⟩
    · cases h
  · cases h
def in63 (i : Int) : Bool := decide (-(2 ^ 63) ≤ i ∧ i < 2 ^ 63)
def opPopAt : OpM := fun x ds S => match lstO x S, ds with
  | some (n, xs), [.int i] => if in63 i then (match seqIndex? i xs.length with
    | some j => (match xs[j]? with
      | some y => some (y, S.set n (.lst (xs.eraseIdx j)))
      | none => none)
    | none => none) else none
  | _, _ => none
theorem lnk_popAt {G : Gm} : LnkM G rPopAt opPopAt := by
  intro ρ η H S x ds v vs d S' Q rs rx rds h k
  unfold opPopAt at h
  split at h
  · rename_i n xs i hx
    split at h
    · rename_i hi
      split at h
      · rename_i j hj
        split at h
        · rename_i y hy
          cases h
          obtain ⟨a, us, rfl, ha, e, hl, r⟩ := lstO_at rs rx hx
          obtain ⟨u, hu, ru⟩ := r.get hy
          obtain ⟨w, rfl, rw'⟩ := rds.one
          rw [RD] at rw'
          subst rw'
          have h63 := of_decide_eq_true hi
          obtain ⟨ex, rs'⟩ := lst_write (us := us.eraseIdx j) rs ha e (Nat.le_trans (len_erase us j) hl) (r.erase j)
          exact ⟨a, us, i, j, u, rfl, rfl, e, h63.1, h63.2, by rw [r.length]; exact hj, hu, k _ u ex rs' (ru.ext ex)⟩
        · cases h
      · cases h
    · cases h
  · cases h
def opExtend : OpM := fun x ds S => match lstO x S, ds with
  | some (n, xs), [b] => (match seqM b S with
    | some ys => if tooMany (xs.length + ys.length) then none else some (.non, S.set n (.lst (xs ++ ys)))
    | none => none)
  | _, _ => none
theorem lnk_extend {G : Gm} : LnkM G rExtend opExtend := by
  intro ρ η H S x ds v vs d S' Q rs rx rds h k
  unfold opExtend at h
  split at h
  · rename_i n xs b hx
    split at h
    · rename_i ys hy
      split at h
      · cases h
      · rename_i hf
        cases h
        obtain ⟨a, us, rfl, ha, e, hl, r⟩ := lstO_at rs rx hx
        obtain ⟨w, rfl, rw'⟩ := rds.one
        obtain ⟨c, zs, rfl, e2, hl2, r2⟩ := seqM_at rs rw' hy
        have hle : us.length + zs.length ≤ sizeLine := by rw [r.length, r2.length]; exact le_line (by simpa using hf)
        obtain ⟨ex, rs'⟩ := lst_write (us := us ++ zs) rs ha e (by simp; omega) (r.append r2)
        exact ⟨a, c, us, zs, rfl, rfl, e, e2, hle, k _ .non ex rs' (by rw [RD])⟩
    · cases h
  · cases h
/-- remove, of ints -/
def intOf : D → Option Int
  | .int i => some i
  | _ => none
def intsOf : List D → Option (List Int)
  | [] => some []
  | d :: r => (match intOf d, intsOf r with
    | some i, some is => some (i :: is)
    | _, _ => none)
theorem ints_at {G : Gm} {ρ η : List Addr} {H : Hp} : ∀ (xs : List D) (vs : List V) (is : List Int), RDs G ρ η H xs vs → intsOf xs = some is → vs = is.map V.int
  | [], vs, is, r, h => by
    rw [RDs] at r
    cases h
    exact r
  | d :: xs, vs, is, r, h => by
    rw [RDs] at r
    obtain ⟨v, us, rfl, rd, rr⟩ := r
    unfold intsOf at h
    cases d with
    | int i =>
      cases hi : intsOf xs with
      | none => rw [hi] at h; cases h
      | some js =>
        rw [hi] at h
        cases h
        rw [RD] at rd
        rw [rd, ints_at xs us js rr hi]
        rfl
    | _ => cases h
def idxI (k : Int) (is : List Int) : Option Nat := is.findIdx? (· == k)
def opRemove : OpM := fun x ds S => match lstO x S, ds with
  | some (n, xs), [.int i] => (match intsOf xs with
    | some is => (match is.findIdx? (· == i) with
      | some j => some (.non, S.set n (.lst (xs.eraseIdx j)))
      | none => none)
    | none => none)
  | _, _ => none
theorem lnk_remove {G : Gm} : LnkM G rRemI opRemove := by
  intro ρ η H S x ds v vs d S' Q rs rx rds h k
  unfold opRemove at h
  split at h
  · rename_i n xs i hx
    split at h
    · rename_i is hi
      split at h
      · rename_i j hj
        cases h
        obtain ⟨a, us, rfl, ha, e, hl, r⟩ := lstO_at rs rx hx
        obtain ⟨w, rfl, rw'⟩ := rds.one
        rw [RD] at rw'
        subst rw'
        have hu := ints_at xs us is r hi
        subst hu
        obtain ⟨hjl, hje, hjn⟩ := List.findIdx?_eq_some_iff_getElem.mp hj
        obtain ⟨ex, rs'⟩ := lst_write (us := (is.map V.int).eraseIdx j) rs ha e (Nat.le_trans (len_erase _ j) hl) (r.erase j)
        rw [erase_mapI] at ex rs'
        refine ⟨a, is, i, j, rfl, rfl, e, ?_, ?_, k _ .non ex rs' (by rw [RD])⟩
        · rw [List.getElem?_eq_getElem hjl]
          exact congrArg some (eq_of_beq hje)
        · intro m hm hmi
          obtain ⟨h1, h2⟩ := List.getElem?_eq_some_iff.mp hmi
          exact hjn m hm (by rw [h2]; exact beq_self_eq_true i)
      · cases h
    · cases h
  · cases h
/-- index, of flat items -/
def opIndex : OpM := fun x ds S => match seqL x S, ds with
  | some xs, [d] => if flatD d && xs.all flatD then (match xs.findIdx? (fun y => eqF y d) with
    | some j => some (.int (j : Nat), S)
    | none => none) else none
  | _, _ => none
theorem lnk_index {G : Gm} : LnkM G (rIndex G.K) opIndex := by
  intro ρ η H S x ds v vs d S' Q rs rx rds h k
  unfold opIndex at h
  split at h
  · rename_i xs y hx
    split at h
    · rename_i hf
      split at h
      · rename_i j hj
        cases h
        rw [Bool.and_eq_true] at hf
        obtain ⟨hfy, hfs⟩ := hf
        obtain ⟨a, us, rfl, hq, hl, r⟩ := seqL_at rs rx hx
        obtain ⟨w, rfl, rw'⟩ := rds.one
        obtain ⟨hjl, hje, hjn⟩ := List.findIdx?_eq_some_iff_getElem.mp hj
        obtain ⟨z, hz, rz⟩ := r.get (List.getElem?_eq_getElem hjl)
        have fz : flatD xs[j] = true := List.all_eq_true.mp hfs _ (List.getElem_mem hjl)
        refine ⟨a, us, w, j, z, rfl, rfl, hq, flat_iff rw' hfy, flats_iff r hfs, hz, ?_, ?_, k _ _ (Ext.refl ρ H) rs (by rw [RD])⟩
        · rw [eqF_iff rz rw' fz hfy]
          exact hje
        · intro m z' hm hmz
          have hml : m < xs.length := Nat.lt_trans hm hjl
          obtain ⟨d', hd', rd'⟩ := r.getV hmz
          rw [List.getElem?_eq_getElem hml] at hd'
          cases hd'
          rw [eqF_iff rd' rw' (List.all_eq_true.mp hfs _ (List.getElem_mem hml)) hfy]
          exact eq_false_of_ne_true (hjn m hm)
      · cases h
    · cases h
  · cases h
/-- count, of flat items, of lists and tuples -/
def rCntF (K : PySem.W.Frag) : V → List V → Hp → VK → Prop := fun x xs H Q => ∃ (p : Addr) (ys : List V) (y : V), x = .ref p ∧ xs = [y] ∧ SqL K H p ys ∧ flatV y = true ∧ ys.all flatV = true ∧ Q (.int (ys.countP fun z => eqV z y : Nat)) H
def rCntT (K : PySem.W.Frag) : V → List V → Hp → VK → Prop := fun x xs H Q => ∃ (p : Addr) (ys : List V) (y : V), x = .ref p ∧ xs = [y] ∧ SqT K H p ys ∧ flatV y = true ∧ ys.all flatV = true ∧ Q (.int (ys.countP fun z => eqV z y : Nat)) H
theorem count_eqU {x : V} : ∀ {xs : List V} {us : List Value}, Vals xs us → xs.all flatV = true → us.countP (eqU x) = xs.countP fun y => eqV y x
  | _, _, .nil, _ => rfl
  | y :: xs, u :: us, .cons r t, f => by
    rw [List.all_cons, Bool.and_eq_true] at f
    rw [List.countP_cons, List.countP_cons, eqU_of r f.1, count_eqU t f.2]
section
variable {X : Cx}
theorem mt_cntF : MtR X "list.count" (rCntF X.K) := by
  intro pins s σ H x xs v us Q I rx rxs h
  obtain ⟨p, ys, y, rfl, rfl, hs, hy, hys, q⟩ := h
  cases rx
  obtain ⟨u, rfl, ru⟩ := rxs.one
  obtain ⟨its, rv, ⟨⟨cls, dd, data, sl⟩, n, ho, hc, hdn, hd⟩, hlen⟩ := I.list hs
  simp only at hc hd
  subst hc hd
  refine PySem.call_meets PySem.F.slot_list_count ⟨_, ho, rfl⟩ PySem.F.entry_list_count (PySem.F.args_list_count_2 _ _)
    (SeqAt.list_countAt p its.toArray n dd sl u (eqU y)) ⟨ho, fun w hw => mem_eqAt ru hy rv hys w (by simpa using hw), ?_⟩
  have ec : its.toArray.toList.countP (eqU y) = ys.countP fun z => eqV z y := count_eqU rv hys
  refine ⟨.int (ys.countP fun z => eqV z y : Nat), H, I.tok _, ⟨s.toks, ?_⟩, q⟩
  show Value.int ((its.toArray.toList.countP (eqU y) : Nat) : Int) s.toks = Value.int ((ys.countP fun z => eqV z y : Nat) : Int) s.toks
  rw [ec]
theorem mt_cntT : MtR X "tuple.count" (rCntT X.K) := by
  intro pins s σ H x xs v us Q I rx rxs h
  obtain ⟨p, ys, y, rfl, rfl, hs, hy, hys, q⟩ := h
  cases rx
  obtain ⟨u, rfl, ru⟩ := rxs.one
  obtain ⟨its, rv, ⟨⟨cls, dd, data, sl⟩, ho, hc, n, hd⟩, hlen⟩ := I.tuple hs
  simp only at hc hd
  subst hc hd
  refine PySem.call_meets PySem.F.slot_tuple_count ⟨_, ho, rfl⟩ PySem.F.entry_tuple_count (PySem.F.args_tuple_count_2 _ _)
    (SeqAt.tuple_countAt p its.toArray n dd sl u (eqU y)) ⟨ho, fun w hw => mem_eqAt ru hy rv hys w (by simpa using hw), ?_⟩
  have ec : its.toArray.toList.countP (eqU y) = ys.countP fun z => eqV z y := count_eqU rv hys
  refine ⟨.int (ys.countP fun z => eqV z y : Nat), H, I.tok _, ⟨s.toks, ?_⟩, q⟩
  show Value.int ((its.toArray.toList.countP (eqU y) : Nat) : Int) s.toks = Value.int ((ys.countP fun z => eqV z y : Nat) : Int) s.toks
  rw [ec]
end
def cntD (xs : List D) (d : D) (S : Sto) : Option (D × Sto) := if flatD d && xs.all flatD then some (.int (xs.countP (fun y => eqF y d) : Nat), S) else none
def opCntL : OpM := fun x ds S => match seqL x S, ds with
  | some xs, [d] => cntD xs d S
  | _, _ => none
def opCntT : OpM := fun x ds S => match x, ds with
  | .tup xs, [d] => cntD xs d S
  | _, _ => none
theorem lnk_cntL {G : Gm} : LnkM G (rCntF G.K) opCntL := by
  intro ρ η H S x ds v vs d S' Q rs rx rds h k
  unfold opCntL at h
  split at h
  · rename_i xs y hx
    unfold cntD at h
    split at h
    · rename_i hf
      cases h
      rw [Bool.and_eq_true] at hf
      obtain ⟨hfy, hfs⟩ := hf
      obtain ⟨a, us, rfl, hq, hl, r⟩ := seqL_at rs rx hx
      obtain ⟨w, rfl, rw'⟩ := rds.one
      exact ⟨a, us, w, rfl, rfl, hq, flat_iff rw' hfy, flats_iff r hfs, k _ _ (Ext.refl ρ H) rs (by rw [RD, count_iff rw' hfy r hfs])⟩
    · cases h
  · cases h
theorem lnk_cntT {G : Gm} : LnkM G (rCntT G.K) opCntT := by
  intro ρ η H S x ds v vs d S' Q rs rx rds h k
  unfold opCntT at h
  split at h
  · rename_i xs y
    unfold cntD at h
    split at h
    · rename_i hf
      cases h
      rw [Bool.and_eq_true] at hf
      obtain ⟨hfy, hfs⟩ := hf
      obtain ⟨a, us, rfl, hq, hl, r⟩ := tup_at rx
      obtain ⟨w, rfl, rw'⟩ := rds.one
      exact ⟨a, us, w, rfl, rfl, hq, flat_iff rw' hfy, flats_iff r hfs, k _ _ (Ext.refl ρ H) rs (by rw [RD, count_iff rw' hfy r hfs])⟩
    · cases h
  · cases h
/-- join, split -/
def strOf : D → Option Str
  | .str i => some i
  | _ => none
def strsOf : List D → Option (List Str)
  | [] => some []
  | d :: r => (match strOf d, strsOf r with
    | some i, some is => some (i :: is)
    | _, _ => none)
theorem strs_at {G : Gm} {ρ η : List Addr} {H : Hp} : ∀ (xs : List D) (vs : List V) (is : List Str), RDs G ρ η H xs vs → strsOf xs = some is → vs = is.map V.str
  | [], vs, is, r, h => by
    rw [RDs] at r
    cases h
    exact r
  | d :: xs, vs, is, r, h => by
    rw [RDs] at r
    obtain ⟨v, us, rfl, rd, rr⟩ := r
    unfold strsOf at h
    cases d with
    | str i =>
      cases hi : strsOf xs with
      | none => rw [hi] at h; cases h
      | some js =>
        rw [hi] at h
        cases h
        rw [RD] at rd
        rw [rd, strs_at xs us js rr hi]
        rfl
    | _ => cases h
def joinOk (a : Str) (ys : List Str) : Bool := decide ((ys.map (·.length)).sum + ys.length * a.length ≤ 100000)
def opJoin : OpM := fun x ds S => match x, ds with
  | .str a, [y] => (match seqL y S with
    | some xs => (match strsOf xs with
      | some ys => if joinOk a ys then some (.str (Txt.join a ys), S) else none
      | none => none)
    | none => none)
  | _, _ => none
def rJoin (K : PySem.W.Frag) : V → List V → Hp → VK → Prop := fun x xs H Q => ∃ a p, ∃ ys : List Str, x = .str a ∧ xs = [.ref p] ∧ (SqL K H p (ys.map V.str) ∨ SqT K H p (ys.map V.str)) ∧
    (ys.map (·.length)).sum + ys.length * a.length ≤ 16777216 ∧ Q (.str (Txt.join a ys)) H
theorem lnk_join {G : Gm} : LnkM G (rJoin G.K) opJoin := by
  intro ρ η H S x ds v vs d S' Q rs rx rds h k
  unfold opJoin at h
  split at h
  · rename_i a y
    split at h
    · rename_i xs hx
      split at h
      · rename_i ys hy
        split at h
        · rename_i hj
          cases h
          obtain ⟨w, rfl, rw'⟩ := rds.one
          obtain ⟨p, us, rfl, hq, hl, r⟩ := seqL_at rs rw' hx
          have hu := strs_at xs us ys r hy
          subst hu
          rw [RD] at rx
          exact ⟨a, p, ys, rx, rfl, .inl hq, Nat.le_trans (of_decide_eq_true hj) (by decide), k _ _ (Ext.refl ρ H) rs (by rw [RD])⟩
        · cases h
      · cases h
    · cases h
  · cases h
def opSplit : OpMN := fun x ds S => match x, ds with
  | .str a, [.str b] => if (b.length != 0) && fewer (a.length + 2) then some ((Txt.split a b).map D.str) else none
  | _, _ => none
def rSplit : V → List V → Hp → VK → Prop := fun x xs H Q => ∃ a b, x = .str a ∧ xs = [.str b] ∧ (b.length == 0) = false ∧ a.length + 2 ≤ sizeLine ∧ rNewStrs (Txt.split a b) H Q
theorem rds_strs {G : Gm} {ρ η : List Addr} {H : Hp} : ∀ ys : List Str, RDs G ρ η H (ys.map D.str) (ys.map V.str)
  | [] => RDs.nil
  | y :: ys => RDs.cons (by rw [RD]) (rds_strs ys)
theorem lnk_split {G : Gm} : LnkMN G rSplit opSplit := by
  intro ρ η H S x ds v vs xs Q rs rx rds h k
  unfold opSplit at h
  split at h
  · rename_i a b
    split at h
    · rename_i hj
      cases h
      rw [Bool.and_eq_true] at hj
      obtain ⟨w, rfl, rw'⟩ := rds.one
      rw [RD] at rx rw'
      subst rx rw'
      have h2 := lt_line hj.2
      refine ⟨a, b, rfl, rfl, by simpa using hj.1, Nat.le_of_lt h2, ?_⟩
      intro p hp
      refine k p _ hp ?_ (rds_strs _)
      rw [List.length_map]
      exact Nat.le_trans (PyProof.Rows.split_le a b) (by omega)
    · cases h
  · cases h
end Fx

/-! Fx9: enumerate, zip, over lists, tuples, texts. -/
namespace Fx
open PySem PySem.Spec L2

theorem vals_getU : ∀ {xs : List V} {us : List Value} {i : Nat} {u : Value}, Vals xs us → us[i]? = some u → ∃ x, xs[i]? = some x ∧ RelV x u
  | _, _, 0, _, .cons r t, h => ⟨_, rfl, by cases h; exact r⟩
  | _, _, i + 1, _, .cons r t, h => let ⟨x, hx, q⟩ := vals_getU (i := i) t (by simpa using h); ⟨x, by simpa using hx, q⟩
/-- what may be walked along -/
inductive Src where
  | lst (a : Addr) | tup (a : Addr) | str (x : Str)
def Src.seq (K : PySem.W.Frag) (H : Hp) : Src → List V → Prop
  | .lst a, xs => SqL K H a xs
  | .tup a, xs => SqT K H a xs
  | .str x, xs => xs = x.cps.toList.map fun c => V.str ⟨#[c]⟩
/-- the value -/
def Src.val : Src → V
  | .lst a => .ref a
  | .tup a => .ref a
  | .str x => .str x
/-- the iterator's state -/
def Src.at (it : Addr) (i : Nat) (h : Heap) : Src → Prop
  | .lst a => h.IsListIter it a i
  | .tup a => h.IsTupleIter it a i
  | .str x => ∃ t, h.IsStrIter it (strIterType x) x t i
/-- its cells -/
def Src.cells : Src → List Addr
  | .lst a => [a]
  | .tup a => [a]
  | .str _ => []
theorem Src.at_obj {s : Src} {it : Addr} {i : Nat} {h : Heap} (st : s.at it i h) : ∃ o n vs, h.get? it = some o ∧ o.cls = .type n ∧ o.data = .fields vs := by
  cases s with
  | lst a => obtain ⟨o, e, c, d⟩ := st; exact ⟨o, _, _, e, c, d⟩
  | tup a => obtain ⟨o, e, c, d⟩ := st; exact ⟨o, _, _, e, c, d⟩
  | str x => obtain ⟨t, o, e, c, d⟩ := st; exact ⟨o, _, _, e, c, d⟩
theorem Src.keep {s : Src} {it : Addr} {i : Nat} {h h' : Heap} (st : s.at it i h) (k : ∀ o, h.get? it = some o → h'.get? it = some o) : s.at it i h' := by
  cases s with
  | lst a => exact st.at fun o e => k o e
  | tup a => exact st.at fun o e => k o e
  | str x => obtain ⟨t, o, e, c, d⟩ := st; exact ⟨t, o, k o e, c, d⟩
/-- what it draws, now -/
theorem Src.draws {X : Cx} {pins : List (Addr × Obj)} {σ : L2.St} {H : Hp} {s : Shared} {src : Src} {xs : List V} {it : Addr} {i : Nat} (hc : X.calm = true) (I : Inv X pins σ H s) (q : src.seq X.K H xs) (st : src.at it i s.heap) (hn : ∀ a ∈ src.cells, a ≠ it) :
    ∃ (P : Nat → Value → Prop) (St : Nat → Heap → Prop), Draws X.prog X.w X.A.in1 it (it :: src.cells) xs.length P St ∧ St i s.heap ∧ (∀ j h, St j h → src.at it j h) ∧ (∀ j u, P j u → ∃ x, xs[j]? = some x ∧ RelV x u) := by
  cases src with
  | lst a =>
    obtain ⟨its, rv, p, hz⟩ := I.list q
    have D := Draws.list (prog := X.prog) (w := X.w) (A := X.A.in1) (I.ok.hd hc) it a (hn a List.mem_cons_self) its.toArray
    rw [List.size_toArray, ← rv.length] at D
    exact ⟨_, _, D, ⟨st, p.isList⟩, fun j h z => z.1, fun j u hu => by
      rw [List.getElem?_toArray] at hu
      obtain ⟨y, hy, ry⟩ := vals_getU rv hu
      exact ⟨y, hy, ry⟩⟩
  | tup a =>
    obtain ⟨its, rv, p, hz⟩ := I.tuple q
    have D := Draws.tuple (prog := X.prog) (w := X.w) (A := X.A.in1) (I.ok.hd hc) it a (hn a List.mem_cons_self) its.toArray
    rw [List.size_toArray, ← rv.length] at D
    exact ⟨_, _, D, ⟨st, p⟩, fun j h z => z.1, fun j u hu => by
      rw [List.getElem?_toArray] at hu
      obtain ⟨y, hy, ry⟩ := vals_getU rv hu
      exact ⟨y, hy, ry⟩⟩
  | str x =>
    obtain ⟨t, st⟩ := st
    have D := Draws.text (prog := X.prog) (w := X.w) (A := X.A.in1) (I.ok.hd hc) it x t
    have e : x.cps.size = xs.length := by rw [show xs = x.cps.toList.map fun c => V.str ⟨#[c]⟩ from q]; simp
    rw [e] at D
    exact ⟨_, _, D, st, fun j h z => ⟨t, z⟩, fun j u ⟨c, k, hx, hu⟩ => ⟨.str ⟨#[c]⟩, by
      rw [show xs = x.cps.toList.map fun c => V.str ⟨#[c]⟩ from q, List.getElem?_map, Array.getElem?_toList, hx]
      rfl, k, hu⟩⟩
theorem Src.inj {K : PySem.W.Frag} {H : Hp} {src : Src} {xs ys : List V} (X : Cx) (hK : X.K = K) {pins : List (Addr × Obj)} {σ : L2.St} {s : Shared} (I : Inv X pins σ H s) (a : src.seq K H xs) (b : src.seq K H ys) : xs = ys := by
  subst hK
  cases src with
  | lst p => exact I.list_inj a b
  | tup p => exact I.tuple_inj a b
  | str x => exact a.trans b.symm
/-! ### enumerate -/
def Itq (K : PySem.W.Frag) (src : Src) : It :=
  ⟨fun i H => ∃ (xs : List V) (x : V), src.seq K H xs ∧ xs[i]? = some x, fun i H v H' => ∃ T o x, v = .ref T ∧ H T = none ∧ o.dict = none ∧ H' = upd H T (.frz o (.tup [.int (i : Nat), x])) ∧ ∀ xs, src.seq K H xs → xs[i]? = some x, fun i H => ∃ xs : List V, src.seq K H xs ∧ xs.length = i⟩
theorem turn_enumS {P : Program} {w : World} {K : PySem.W.Frag} {elts : List Expr} {kk : Nat} {tpos : Pos} {src : Src} {e it : Addr} (hne : e ≠ it) (hs : ∀ a ∈ src.cells, a ≠ it ∧ a ≠ e) :
    Turn P w K (.Tuple elts kk tpos) (Itq K src) [e, it] e (fun i h => (∃ old, IsEnum h e it ((i : Nat) : Int) old) ∧ src.at it i h) where
  mem := by simp
  obj := fun i h st b hb => by
    obtain ⟨⟨old, he⟩, hi⟩ := st
    obtain ⟨o, n, vs, ho, hc, hd⟩ := src.at_obj hi
    have e' : b = e ∨ b = it := by simpa using hb
    rcases e' with z | z
    · rw [z]; exact ⟨_, he, fun v q => nomatch q⟩
    · rw [z]; exact ⟨o, ho, fun v q => by rw [hd] at q; cases q⟩
  keep := fun i h h' st k => let ⟨⟨old, he⟩, hi⟩ := st; ⟨⟨old, k e (by simp) _ he⟩, src.keep hi fun o q => k it (by simp) o q⟩
  item := by
    intro X hP hw hK hc i pins s σ H E I hf st hg
    subst hP hw hK
    obtain ⟨⟨old, he⟩, hit⟩ := st
    obtain ⟨xs, x, hq, hx⟩ := hg
    obtain ⟨Pd, St, D, st0, fromSt, items⟩ := src.draws hc I hq hit fun a ha => (hs a ha).1
    have hel : e < s.heap.objs.size := Heap.lt_size he
    have hil : it < s.heap.objs.size := by obtain ⟨_, _, _, q, _⟩ := src.at_obj hit; exact Heap.lt_size q
    have hef : e ∉ it :: src.cells := fun z => by
      rcases List.mem_cons.mp z with z | z
      · exact hne z
      · exact (hs e z).2 rfl
    refine wpAny_pyNext_enum_itemD D he st0 (List.getElem?_eq_some_iff.mp hx).1 hne hef fun u h' tk hPu ho hit' hT hsz hk => ?_
    obtain ⟨x', hx', ru⟩ := items i u hPu
    rw [hx] at hx'
    cases hx'
    refine ⟨_, rfl, wpAny_letOwnedTupleGo_enum (s := { s with heap := h', toks := tk + 1 }) ho fun h'' he' sb => ?_⟩
    have hT2 : h''.get? s.heap.objs.size = some { cls := .type "tuple", data := .seq #[.int i tk, u] } := (sb.2 _ (Nat.ne_of_gt hel)).trans hT
    have new : ObjOk X.prog X.w (upd H s.heap.objs.size (.frz { cls := .type "tuple", data := .seq #[.int i tk, u] } (.tup [.int (i : Nat), x]))) h'' s.heap.objs.size (.frz { cls := .type "tuple", data := .seq #[.int i tk, u] } (.tup [.int (i : Nat), x])) :=
      ⟨hT2, by show 2 ≤ sizeLine; decide, [.int i tk, u], .cons ⟨_, rfl⟩ (.cons ru .nil), ⟨_, hT2, rfl, _, rfl⟩⟩
    have I1 : Inv X pins σ (upd H s.heap.objs.size (.frz { cls := .type "tuple", data := .seq #[.int i tk, u] } (.tup [.int (i : Nat), x]))) { s with heap := h'', toks := tk + 1 } :=
      I.turnedNew (ch := [e, it]) (fun b ob hb q => (sb.2 b (fun z => hb (by simp [z]))).trans (hk b ob (fun z => hb (by simp [z])) (fun z => hb (by simp [z])) q)) hf (Nat.le_refl _) new
    refine ⟨.ref s.heap.objs.size, _, I1, rfl, ⟨_, _, x, rfl, I.hok.fresh (Nat.le_refl _), rfl, rfl, fun ys hy => by rw [Src.inj X rfl I hy hq]; exact hx⟩, ⟨⟨u, ?_⟩, src.keep (fromSt _ _ hit') fun o q => (sb.2 it (Ne.symm hne)).trans q⟩, fun b hb => ?_⟩
    · have e1 : ((i + 1 : Nat) : Int) = (i : Int) + 1 := by omega
      rw [e1]; exact he'
    · have hb' : b < s.heap.objs.size := by
        have e' : b = e ∨ b = it := by simpa using hb
        rcases e' with z | z
        · rw [z]; exact hel
        · rw [z]; exact hil
      rw [upd_ne (Nat.ne_of_lt hb')]
      exact (hf b hb).1
  done := by
    intro X hP hw hK hc i pins s σ H E I hf st hg
    subst hP hw hK
    obtain ⟨⟨old, he⟩, hit⟩ := st
    obtain ⟨xs, hq, hx⟩ := hg
    obtain ⟨Pd, St, D, st0, fromSt, items⟩ := src.draws hc I hq hit fun a ha => (hs a ha).1
    obtain ⟨f0, f1, f2, f3, f4, f5⟩ := hf it (by simp)
    refine wpAny_pyNext_enum_endD D he (by rw [hx]; exact st0) fun h' eb => ⟨rfl, I.turned (t' := s.toks) (fun b o hb q => eb b o hb q) f0 f1 f3 f4 f5⟩
  self := fun A i s Q E st h => let ⟨⟨_, he⟩, _⟩ := st; wpAny_pyIter_enum he h
theorem meets_enumerate_newB1 {v : Value} {o : Obj} {H : Heap → Prop} (B : Begins v o H) :
    Meets (Builtin.«enumerate.__new__» ⟨[.type "enumerate", v], []⟩) (fun _ R s => H s.heap ∧
      R (.ok (.ret (.ref (s.heap.push o).objs.size))) { s with heap := (s.heap.push o).push { cls := .type "enumerate", data := .fields #[.none, .bool false, .ref s.heap.objs.size, rawInt 0, .none, .none] } }) :=
  .of_wp fun prog w A R s h => by
    obtain ⟨hp, g, d, tk, os⟩ := s; obtain ⟨h1, h⟩ := h
    have hsub := sub_enumerate
    have q1 : ∀ {A' : Around} {E : Value → Shared → Prop} {Q : Value → Shared → Prop}, Q (.ref hp.objs.size) ⟨hp.push o, g, d, tk, os⟩ → wpAny (model prog w) A' (pyIter v) Q E ⟨hp, g, d, tk, os⟩ :=
      fun q => B.iter prog w _ _ ⟨hp, g, d, tk, os⟩ _ h1 q
    wp_walk using q1
    refine wpAny_stack_any fun st => wpAny_pure ?_
    split
    · rename_i c _ _ _ _ _
      cases (c == Value.type "enumerate")
      · wp_walk using q1
        exact ⟨_, rfl, h⟩
      · wp_walk using q1
        exact ⟨_, rfl, h⟩
    · wp_walk using q1
      exact ⟨_, rfl, h⟩
section
variable {prog : Program} {w : World} {A : Around} {E : Value → Shared → Prop} {s : Shared}
theorem enum_begins1 {v : Value} {o : Obj} {H : Heap → Prop} {Q : Value → Shared → Prop} (B : Begins v o H) (h1 : H s.heap)
    (h : ∀ h', IsEnum h' (s.heap.objs.size + 1) s.heap.objs.size 0 .none → h'.get? s.heap.objs.size = some o → h'.objs.size = s.heap.objs.size + 2 →
      (∀ b o, s.heap.get? b = some o → h'.get? b = some o) → Q (.ref (s.heap.objs.size + 1)) { s with heap := h' }) :
    wpAny (model prog w) A (call (.type "enumerate") [v]) Q E s := by
  refine callType_new F.called_enumerate (by decide) (F.typeCall_enumerate_1 _) (F.newCall_enumerate_1 _) (fun obj => F.args_object_init_2 obj _) F.entry_enumerate_new
    (meets_enumerate_newB1 B) ⟨h1, ?_⟩
  have hz : (s.heap.push o).objs.size = s.heap.objs.size + 1 := Heap.size_push ..
  show _ ∧ _
  rw [hz]
  have he : IsEnum ((s.heap.push o).push { cls := .type "enumerate", data := .fields #[.none, .bool false, .ref s.heap.objs.size, rawInt 0, .none, .none] }) (s.heap.objs.size + 1) s.heap.objs.size 0 .none := by
    have := Heap.get?_push_size (s.heap.push o) (o := { cls := .type "enumerate", data := .fields #[.none, .bool false, .ref s.heap.objs.size, rawInt 0, .none, .none] }) rfl
    rw [hz] at this; exact this
  refine ⟨⟨_, he, rfl⟩, h _ he (Heap.get?_push_of_some _ (Heap.get?_push_size _ B.free)) (by rw [Heap.size_push, hz]) fun b o x => Heap.get?_push_of_some _ (Heap.get?_push_of_some _ x)⟩
end
/-- a source begins -/
theorem Src.begins {X : Cx} {pins : List (Addr × Obj)} {σ : L2.St} {H : Hp} {s : Shared} {src : Src} {xs : List V} {v : Value} (I : Inv X pins σ H s) (q : src.seq X.K H xs) (r : RelV src.val v) :
    ∃ (o : Obj) (Hh : Heap → Prop), Begins v o Hh ∧ Hh s.heap ∧ (∀ (h : Heap) (it : Addr), h.get? it = some o → src.at it 0 h) ∧ ∀ a ∈ src.cells, a < s.heap.objs.size := by
  cases src with
  | lst a =>
    obtain ⟨its, rv, p, hz⟩ := I.list q
    cases (show v = Value.ref a from r)
    exact ⟨_, _, begins_list a its.toArray, p.isList, fun h it e => ⟨_, e, rfl, rfl⟩, fun b hb => by
      have e : b = a := by simpa [Src.cells] using hb
      rw [e]; exact p.lt⟩
  | tup a =>
    obtain ⟨its, rv, p, hz⟩ := I.tuple q
    cases (show v = Value.ref a from r)
    exact ⟨_, _, begins_tuple a its.toArray, p, fun h it e => ⟨_, e, rfl, rfl⟩, fun b hb => by
      have e : b = a := by simpa [Src.cells] using hb
      obtain ⟨o, ho, _⟩ := p
      rw [e]; exact Heap.lt_size ho⟩
  | str x =>
    obtain ⟨t, rfl⟩ := (show ∃ t, v = Value.str x t from r)
    exact ⟨_, _, begins_text x t, trivial, fun h it e => ⟨t, _, e, rfl, rfl⟩, fun b hb => nomatch hb⟩
def iEnumS (K : PySem.W.Frag) (ta : TA) : TI := fun σ H R => ta σ H fun vs H1 => ∃ (src : Src) (xs : List V), vs = [src.val] ∧ src.seq K H1 xs ∧ R (Itq K src) H1
theorem pi_enumS {X : Cx} {e : Expr} {ta : TA} {p pos tpos : Pos} {elts : List Expr} {kk : Nat} (hg : Gl X "enumerate") (hm : X.mg "enumerate" = none) (ha : PA X [e] ta) (hs : starEach [e] X.env = [(false, eval e X.env)] := by rfl) :
    PI X (.Tuple elts kk tpos) (.Call (.Name "enumerate" p) [e] [] pos) (iEnumS X.K ta) := by
  refine ⟨fun pins s σ H R I h => ?_⟩
  refine PyProof.Rows.Call_ (ld_blt I hg hm PyProof.Rows.boot_enumerate (PyProof.Rows.callWith_type1 (thn (ha.run pos pins s σ H _ I h) fun us s1 ⟨vs, H1, I1, r1, q1⟩ => ?_) hs rfl))
  obtain ⟨src, xs, ex, hq, q⟩ := q1
  subst ex
  obtain ⟨u, rfl, ru⟩ := r1.one
  obtain ⟨o, Hh, B, hh, at0, cl⟩ := src.begins I1 hq ru
  refine enum_begins1 B hh fun h' he hit hsz hk => wpAny_pyIter_enum he ?_
  have I2 : Inv X pins σ H1 { s1 with heap := h' } := I1.kept (t' := s1.toks) hk
  refine ⟨s1.heap.objs.size + 1, [s1.heap.objs.size + 1, s1.heap.objs.size], _, _, H1, rfl, I2, turn_enumS (e := s1.heap.objs.size + 1) (it := s1.heap.objs.size) (Nat.succ_ne_self _) (fun a ha => ⟨Nat.ne_of_lt (cl a ha), Nat.ne_of_lt (Nat.lt_succ_of_lt (cl a ha))⟩), ⟨⟨.none, he⟩, at0 _ _ hit⟩, fun b hb => ?_, q⟩
  have e' : b = s1.heap.objs.size + 1 ∨ b = s1.heap.objs.size := by simpa using hb
  have hle : s1.heap.objs.size ≤ b := by
    rcases e' with z | z
    · rw [z]; exact Nat.le_add_right _ _
    · rw [z]; exact Nat.le_refl _
  exact I1.fpOk hle (I1.hok.fresh hle)

/-! ### zip -/
def Itw (K : PySem.W.Frag) (a b : Src) : It :=
  ⟨fun i H => ∃ (xs ys : List V) (x y : V), a.seq K H xs ∧ b.seq K H ys ∧ xs[i]? = some x ∧ ys[i]? = some y,
    fun i H v H' => ∃ T o x y, v = .ref T ∧ H T = none ∧ o.dict = none ∧ H' = upd H T (.frz o (.tup [x, y])) ∧ (∀ xs, a.seq K H xs → xs[i]? = some x) ∧ ∀ ys, b.seq K H ys → ys[i]? = some y,
    fun i H => ∃ xs ys : List V, a.seq K H xs ∧ b.seq K H ys ∧ i ≤ xs.length ∧ i ≤ ys.length ∧ (i = xs.length ∨ i = ys.length)⟩
theorem turn_zipS {P : Program} {w : World} {K : PySem.W.Frag} {elts : List Expr} {kk : Nat} {tpos : Pos} {a b : Src} {z TI TO i1 i2 : Addr} (D : ZipSep2 z TI TO i1 i2 (i1 :: a.cells) (i2 :: b.cells)) (ha : ∀ c ∈ a.cells, c ≠ i1) (hb : ∀ c ∈ b.cells, c ≠ i2) :
    Turn P w K (.Tuple elts kk tpos) (Itw K a b) [z, TI, TO, i1, i2] z (fun i h => IsZip h z TI TO .none ∧ IsTupOf2 h TI (.ref i1) (.ref i2) ∧ (∃ x y, IsTupOf2 h TO x y) ∧ a.at i1 i h ∧ b.at i2 i h) where
  mem := by simp
  obj := fun i h st c hc => by
    obtain ⟨hz, hTI, ⟨x, y, hTO⟩, h1, h2⟩ := st
    obtain ⟨o1, _, _, e1, _, d1⟩ := a.at_obj h1
    obtain ⟨o2, _, _, e2, _, d2⟩ := b.at_obj h2
    have e' : c = z ∨ c = TI ∨ c = TO ∨ c = i1 ∨ c = i2 := by simpa using hc
    rcases e' with q | q | q | q | q
    · rw [q]; exact ⟨_, hz, fun v q => nomatch q⟩
    · rw [q]; exact ⟨_, hTI, fun v q => nomatch q⟩
    · rw [q]; exact ⟨_, hTO, fun v q => nomatch q⟩
    · rw [q]; exact ⟨o1, e1, fun v q => by rw [d1] at q; cases q⟩
    · rw [q]; exact ⟨o2, e2, fun v q => by rw [d2] at q; cases q⟩
  keep := fun i h h' st k => by
    obtain ⟨hz, hTI, ⟨x, y, hTO⟩, h1, h2⟩ := st
    exact ⟨k z (by simp) _ hz, k TI (by simp) _ hTI, ⟨x, y, k TO (by simp) _ hTO⟩, a.keep h1 fun o q => k i1 (by simp) o q, b.keep h2 fun o q => k i2 (by simp) o q⟩
  item := by
    intro X hP hw hK hc i pins s σ H E I hf st hg
    subst hP hw hK
    obtain ⟨hz, hTI, ⟨x0, y0, hTO⟩, h1, h2⟩ := st
    obtain ⟨xs, ys, x, y, hqx, hqy, hx, hy⟩ := hg
    obtain ⟨P1, St1, D1, s1, from1, items1⟩ := a.draws hc I hqx h1 ha
    obtain ⟨P2, St2, D2, s2, from2, items2⟩ := b.draws hc I hqy h2 hb
    have hzl : z < s.heap.objs.size := Heap.lt_size hz
    refine wpAny_pyNext_zipD2_item D D1 D2 hz hTI hTO s1 s2 (List.getElem?_eq_some_iff.mp hx).1 (List.getElem?_eq_some_iff.mp hy).1 fun u u2 h' tk hu hu2 z' TO' h1' h2' hT hsz hk => ?_
    obtain ⟨x', hx', ru⟩ := items1 i u hu
    rw [hx] at hx'
    cases hx'
    obtain ⟨y', hy', ru2⟩ := items2 i u2 hu2
    rw [hy] at hy'
    cases hy'
    refine ⟨_, rfl, wpAny_letOwnedTupleGo_zip (s := { s with heap := h', toks := tk }) z' fun h'' z'' sb => ?_⟩
    have hT2 : h''.get? s.heap.objs.size = some { cls := .type "tuple", data := .seq #[u, u2] } := (sb.2 _ (Nat.ne_of_gt hzl)).trans hT
    have new : ObjOk X.prog X.w (upd H s.heap.objs.size (.frz { cls := .type "tuple", data := .seq #[u, u2] } (.tup [x, y]))) h'' s.heap.objs.size (.frz { cls := .type "tuple", data := .seq #[u, u2] } (.tup [x, y])) :=
      ⟨hT2, by show 2 ≤ sizeLine; decide, [u, u2], .cons ru (.cons ru2 .nil), ⟨_, hT2, rfl, _, rfl⟩⟩
    have I1 : Inv X pins σ (upd H s.heap.objs.size (.frz { cls := .type "tuple", data := .seq #[u, u2] } (.tup [x, y]))) { s with heap := h'', toks := tk } :=
      I.turnedNew (ch := [z, TI, TO, i1, i2]) (fun c o hb q => (sb.2 c (fun q' => hb (by simp [q']))).trans (hk c o (fun q' => hb (by simp [q'])) (fun q' => hb (by simp [q'])) (fun q' => hb (by simp [q'])) (fun q' => hb (by simp [q'])) q)) hf (Nat.le_refl _) new
    have lt1 : i1 < s.heap.objs.size := by obtain ⟨_, _, _, q, _⟩ := a.at_obj h1; exact Heap.lt_size q
    have lt2 : i2 < s.heap.objs.size := by obtain ⟨_, _, _, q, _⟩ := b.at_obj h2; exact Heap.lt_size q
    refine ⟨.ref s.heap.objs.size, _, I1, rfl, ⟨_, _, x, y, rfl, I.hok.fresh (Nat.le_refl _), rfl, rfl, (fun us hu => by rw [Src.inj X rfl I hu hqx]; exact hx), fun us hu => by rw [Src.inj X rfl I hu hqy]; exact hy⟩, ⟨z'', ?_, ⟨u, u2, ?_⟩, ?_, ?_⟩, fun c hcm => ?_⟩
    · exact (sb.2 _ D.TIz).trans (hk _ _ D.TIz D.TITO D.TIi1 D.TIi2 hTI)
    · exact (sb.2 _ D.TOz).trans TO'
    · exact a.keep (from1 _ _ h1') fun o q => (sb.2 _ D.zi1.symm).trans q
    · exact b.keep (from2 _ _ h2') fun o q => (sb.2 _ D.zi2.symm).trans q
    · have hlt : c < s.heap.objs.size := by
        have e' : c = z ∨ c = TI ∨ c = TO ∨ c = i1 ∨ c = i2 := by simpa using hcm
        rcases e' with q | q | q | q | q
        · rw [q]; exact hzl
        · rw [q]; exact Heap.lt_size hTI
        · rw [q]; exact Heap.lt_size hTO
        · rw [q]; exact lt1
        · rw [q]; exact lt2
      rw [upd_ne (Nat.ne_of_lt hlt)]
      exact (hf c hcm).1
  done := by
    intro X hP hw hK hc i pins s σ H E I hf st hg
    subst hP hw hK
    obtain ⟨hz, hTI, ⟨x0, y0, hTO⟩, h1, h2⟩ := st
    obtain ⟨xs, ys, hqx, hqy, hl1, hl2, hend⟩ := hg
    obtain ⟨P1, St1, D1, s1, from1, items1⟩ := a.draws hc I hqx h1 ha
    obtain ⟨P2, St2, D2, s2, from2, items2⟩ := b.draws hc I hqy h2 hb
    exact wpAny_pyNext_zipD2_end D D1 D2 hz hTI hTO s1 s2 hl1 hl2 hend fun h' tk hk => ⟨rfl, I.turnedL (ch := [z, TI, TO, i1, i2]) (fun c o hb q =>
      hk c o (fun q' => hb (by simp [q'])) (fun q' => hb (by simp [q'])) (fun q' => hb (by simp [q'])) (fun q' => hb (by simp [q'])) q) hf⟩
  self := fun A i s Q E st h => wpAny_pyIter_zip st.1 h
def iZipS (K : PySem.W.Frag) (ta : TA) : TI := fun σ H R => ta σ H fun vs H1 => ∃ (a b : Src) (xs ys : List V), vs = [a.val, b.val] ∧ a.seq K H1 xs ∧ b.seq K H1 ys ∧ R (Itw K a b) H1
theorem pi_zipS {X : Cx} {e e2 : Expr} {ta : TA} {p pos tpos : Pos} {elts : List Expr} {kk : Nat} (hg : Gl X "zip") (hm : X.mg "zip" = none) (ha : PA X [e, e2] ta)
    (hs : starEach [e, e2] X.env = (false, eval e X.env) :: starEach [e2] X.env := by rfl) (hpl : (backTo pos (starEach [e2] X.env)).any (·.1) = false := by rfl) :
    PI X (.Tuple elts kk tpos) (.Call (.Name "zip" p) [e, e2] [] pos) (iZipS X.K ta) := by
  refine ⟨fun pins s σ H R I h => ?_⟩
  refine PyProof.Rows.Call_ (ld_blt I hg hm PyProof.Rows.boot_zip (PyProof.Rows.callWith_type1 (thn (ha.run pos pins s σ H _ I h) fun us s1 ⟨vs, H1, I1, r1, q1⟩ => ?_) hs hpl))
  obtain ⟨a, b, xs, ys, ex, hqx, hqy, q⟩ := q1
  subst ex
  obtain ⟨u, u2, rfl, ru, ru2⟩ := r1.two
  obtain ⟨o1, Hh1, B1, hh1, at1, cl1⟩ := a.begins I1 hqx ru
  obtain ⟨o2, Hh2, B2, hh2, at2, cl2⟩ := b.begins I1 hqy ru2
  refine zip_begins2 B1 B2 hh1 hh2 fun h' hz hTI hTO h1 h2 hsz hk => wpAny_pyIter_zip hz ?_
  have I2 : Inv X pins σ H1 { s1 with heap := h' } := I1.kept (t' := s1.toks) hk
  refine ⟨s1.heap.objs.size + 4, [s1.heap.objs.size + 4, s1.heap.objs.size + 2, s1.heap.objs.size + 3, s1.heap.objs.size, s1.heap.objs.size + 1], _, _, H1, rfl, I2,
    turn_zipS (a := a) (b := b) (zip_sep2 cl1 cl2) (fun c hc => Nat.ne_of_lt (cl1 c hc)) (fun c hc => Nat.ne_of_lt (Nat.lt_succ_of_lt (cl2 c hc))), ⟨hz, hTI, ⟨_, _, hTO⟩, at1 _ _ h1, at2 _ _ h2⟩, fun c hcm => ?_, q⟩
  have e' : c = s1.heap.objs.size + 4 ∨ c = s1.heap.objs.size + 2 ∨ c = s1.heap.objs.size + 3 ∨ c = s1.heap.objs.size ∨ c = s1.heap.objs.size + 1 := by simpa using hcm
  have hle : s1.heap.objs.size ≤ c := by
    rcases e' with z | z | z | z | z
    · rw [z]; exact Nat.le_add_right _ _
    · rw [z]; exact Nat.le_add_right _ _
    · rw [z]; exact Nat.le_add_right _ _
    · rw [z]; exact Nat.le_refl _
    · rw [z]; exact Nat.le_add_right _ _
  exact I1.fpOk hle (I1.hok.fresh hle)

/-! ### by data -/
/-- what a value is walked along as -/
def srcD (d : D) (S : Sto) : Option (List D × List (Nat × List D)) := match d with
  | .lst xs => some (xs, [])
  | .scr xs => some (xs, [])
  | .tup xs => some (xs, [])
  | .str x => if tooMany x.cps.size then none else some (signs x, [])
  | .ref n => (match S[n]? with
    | some (.lst xs) => some (xs, [(n, xs)])
    | _ => none)
  | _ => none
/-- a source at hand: it stands while it is not written -/
theorem src_at {G : Gm} {η ρ1 : List Addr} {H1 : Hp} {S : Sto} {d : D} {v : V} {xs : List D} {o : List (Nat × List D)} (rs : RS G ρ1 η H1 S) (rd : RD G ρ1 η H1 d v) (h : srcD d S = some (xs, o)) :
    ∃ src : Src, v = src.val ∧ xs.length ≤ sizeLine ∧ (∃ vs, src.seq G.K H1 vs ∧ vs.length = xs.length) ∧ ∀ ρ' η' H' S', Ext ρ1 H1 ρ' H' → (∀ a, a ∈ η' → a ∈ η ∨ H1 a = none) → RS G ρ' η' H' S' → (o.all fun p => okAt p S') = true →
      ∃ vs, src.seq G.K H' vs ∧ RDs G ρ' η' H' xs vs := by
  cases d with
  | lst ys =>
    cases h
    rw [RD] at rd
    obtain ⟨a, vs, ev, ⟨h1, h2, h3⟩, hl, rds⟩ := rd
    exact ⟨.lst a, ev, by rw [← rds.length]; exact hl, ⟨vs, SqL.of h1, rds.length⟩, fun ρ' η' H' S' e hη _ _ => ⟨vs, SqL.of (e.st a _ h1 h2 (fun _ z => nomatch z)).1, rds.mono e hη⟩⟩
  | scr ys =>
    cases h
    rw [RD] at rd
    obtain ⟨a, vs, ev, hL, hl, rds⟩ := rd
    refine ⟨.lst a, ev, by rw [← rds.length]; exact hl, ⟨vs, hL.elim (fun z => .inl z.1) .inr, rds.length⟩, fun ρ' η' H' S' e hη _ _ => ⟨vs, ?_, rds.mono e hη⟩⟩
    rcases hL with ⟨r, n1, n2⟩ | k
    · exact .inl (rd_ext e r n1).1
    · exact .inr k
  | tup ys =>
    cases h
    rw [RD] at rd
    obtain ⟨a, vs, ev, hL, hl, rds⟩ := rd
    refine ⟨.tup a, ev, by rw [← rds.length]; exact hl, ⟨vs, tupAt hL, rds.length⟩, fun ρ' η' H' S' e hη _ _ => ⟨vs, ?_, rds.mono e hη⟩⟩
    rcases hL with ⟨o, r, _, n1⟩ | ⟨o, its, n, h1, h2, _, h3⟩
    · exact .inl (.inr ⟨o, (e.st a _ r n1 (fun _ z => nomatch z)).1⟩)
    · exact .inr ⟨o, its, n, h1, h2, h3⟩
  | str x =>
    cases ht : tooMany x.cps.size with
    | true =>
      have z : srcD (.str x) S = none := by show (if tooMany x.cps.size = true then none else _) = none; rw [ht]; rfl
      rw [z] at h
      cases h
    | false =>
      have z : srcD (.str x) S = some (signs x, []) := by show (if tooMany x.cps.size = true then none else _) = _; rw [ht]; rfl
      rw [z] at h
      cases h
      rw [RD] at rd
      have r0 : ∀ ρ η H, RDs G ρ η H (signs x) (x.cps.toList.map fun c => V.str ⟨#[c]⟩) := fun ρ η H => by
        unfold signs
        have z := rds_strs (G := G) (ρ := ρ) (η := η) (H := H) (x.cps.toList.map fun c => ⟨#[c]⟩)
        rw [List.map_map, List.map_map] at z
        exact z
      exact ⟨.str x, rd, by unfold signs; simp only [List.length_map, Array.length_toList]; exact le_line ht, ⟨_, rfl, (r0 ρ1 η H1).length⟩, fun ρ' η' H' S' e hη _ _ => ⟨_, rfl, r0 _ _ _⟩⟩
  | ref n =>
    cases hn : S[n]? with
    | none =>
      have z : srcD (.ref n) S = none := by unfold srcD; dsimp only; rw [hn]
      rw [z] at h
      cases h
    | some u =>
      cases u with
      | lst ys =>
        have z : srcD (.ref n) S = some (ys, [(n, ys)]) := by unfold srcD; dsimp only; rw [hn]
        rw [z] at h
        cases h
        rw [RD] at rd
        obtain ⟨a, ha, ev⟩ := rd
        obtain ⟨vs, h2, hz, rds⟩ := rs.ob n a _ ha hn
        refine ⟨.lst a, ev, by rw [← rds.length]; exact hz, ⟨vs, SqL.of h2, rds.length⟩, fun ρ' η' H' S' e hη rs' ok => ?_⟩
        have ok2 : ∃ zs, S'[n]? = some (.lst zs) ∧ zs = xs := by
          have ok3 : okAt (n, xs) S' = true := by simpa using ok
          unfold okAt at ok3
          dsimp only at ok3
          split at ok3
          · exact ⟨_, by assumption, of_decide_eq_true ok3⟩
          · cases ok3
        obtain ⟨zs, g1, g3⟩ := ok2
        rw [g3] at g1
        obtain ⟨us, g2, _, rds'⟩ := rs'.ob n a _ (e.at ha) g1
        exact ⟨us, SqL.of g2, rds'⟩
      | dn ks ds =>
        have z : srcD (.ref n) S = none := by unfold srcD; dsimp only; rw [hn]
        rw [z] at h
        cases h
      | dl ks ds =>
        have z : srcD (.ref n) S = none := by unfold srcD; dsimp only; rw [hn]
        rw [z] at h
        cases h
      | dk kvs =>
        have z : srcD (.ref n) S = none := by unfold srcD; dsimp only; rw [hn]
        rw [z] at h
        cases h
      | ins c fs =>
        have z : srcD (.ref n) S = none := by unfold srcD; dsimp only; rw [hn]
        rw [z] at h
        cases h
  | _ => cases h
/-- a pair that a walk has made -/
theorem pair_new {G : Gm} {ρ η : List Addr} {H : Hp} {S : Sto} {xs : List D} {p : Addr} {o : Obj} {vs : List V} (rs : RS G ρ η H S) (hp : H p = none) (ho : o.dict = none) (hl : vs.length ≤ sizeLine) (r : RDs G ρ η H xs vs) :
    Same H (upd H p (.frz o (.tup vs))) ∧ RD G ρ η (upd H p (.frz o (.tup vs))) (.tup xs) (.ref p) := tup_new rs hp ho hl r
def enumD (xs : List D) : List D := (List.range xs.length).zipWith (fun i d => .tup [.int (i : Nat), d]) xs
theorem enumD_get {xs : List D} {i : Nat} {d : D} (h : (enumD xs)[i]? = some d) : ∃ x, xs[i]? = some x ∧ d = .tup [.int (i : Nat), x] := by
  unfold enumD at h
  rw [List.getElem?_zipWith] at h
  cases hx : xs[i]? with
  | none => rw [hx] at h; split at h <;> simp_all
  | some x =>
    have hi : i < xs.length := (List.getElem?_eq_some_iff.mp hx).1
    rw [hx, List.getElem?_range hi] at h
    exact ⟨x, rfl, (Option.some.inj h).symm⟩
theorem enumD_len (xs : List D) : (enumD xs).length = xs.length := by unfold enumD; simp

section
variable {G : Gm} {X : Cx} {W : WX}
def fEnum (g : FL) : FI := fun σ S => (g σ S).bind fun ds S1 => match ds with
  | [d] => (match srcD d S1 with
    | some (xs, o) => .ok ⟨enumD xs, o⟩ S1
    | none => .stuck)
  | _ => .stuck
theorem ji_enum [F : Fits G X] {elts : List Expr} {kk : Nat} {tpos p pos : Pos} {e : Expr} {g : FL} (hm : X.mg "enumerate" = none) (ha : JA G X W [e] g) (hg : Gl X "enumerate" := by rfl) (hs : starEach [e] X.env = [(false, eval e X.env)] := by rfl) :
    JI G X W (.Tuple elts kk tpos) (.Call (.Name "enumerate" p) [e] [] pos) (fEnum g) := by
  refine ⟨PI.weak (pi_enumS hg hm ha.pa hs) ?_⟩
  rintro σ H R ⟨ρ, η, σd, S, rσ, rs, p⟩
  refine LA.of rσ rs p fun ds S1 ρ1 H1 vs e1 rσ1 rs1 rds p1 => ?_
  match ds, p1, rds with
  | [d], p1, rds =>
    obtain ⟨v, rfl, rv⟩ := rds.one
    dsimp only at p1
    cases hq : srcD d S1 with
    | none =>
      rw [hq] at p1
      exact p1.elim
    | some xo =>
      obtain ⟨xs, o⟩ := xo
      rw [hq] at p1
      obtain ⟨src, ev, hl, ⟨us, hu, hul⟩, keep⟩ := src_at rs1 rv hq
      rw [ev]
      refine ⟨src, us, rfl, F.K ▸ hu, ?_⟩
      rw [← F.K]
      refine p1 ρ1 H1 _ e1 rs1 ⟨by rw [enumD_len]; exact hl, fun ρ' η' H' S' e' hη rs' ok i => ?_⟩
      obtain ⟨ws, hw, rw'⟩ := keep ρ' η' H' S' e' hη rs' ok
      refine ⟨fun d' hd => ?_, fun hi => ⟨ws, hw, by rw [rw'.length, ← hi, enumD_len]⟩⟩
      obtain ⟨x, hx, rfl⟩ := enumD_get hd
      obtain ⟨w, hww, rww⟩ := rw'.get hx
      refine ⟨⟨ws, w, hw, hww⟩, fun z H'' y => ?_⟩
      obtain ⟨T, ob, y', rfl, hT, hd', rfl, hy⟩ := y
      have z := hy ws hw
      rw [hww] at z
      cases z
      exact pair_new rs' hT hd' (by show 2 ≤ sizeLine; decide) (RDs.cons (by rw [RD]) (RDs.cons rww RDs.nil))
  | [], p1, rds => exact p1.elim
  | _ :: _ :: _, p1, rds => exact p1.elim
def fZip (g : FL) : FI := fun σ S => (g σ S).bind fun ds S1 => match ds with
  | [d, e] => (match srcD d S1, srcD e S1 with
    | some (xs, o), some (ys, q) => .ok ⟨xs.zipWith (fun x y => .tup [x, y]) ys, o ++ q⟩ S1
    | _, _ => .stuck)
  | _ => .stuck
theorem ji_zip [F : Fits G X] {elts : List Expr} {kk : Nat} {tpos p pos : Pos} {e e2 : Expr} {g : FL} (hm : X.mg "zip" = none) (ha : JA G X W [e, e2] g) (hg : Gl X "zip" := by rfl) (hs : starEach [e, e2] X.env = (false, eval e X.env) :: starEach [e2] X.env := by rfl)
    (hpl : (backTo pos (starEach [e2] X.env)).any (·.1) = false := by rfl) : JI G X W (.Tuple elts kk tpos) (.Call (.Name "zip" p) [e, e2] [] pos) (fZip g) := by
  refine ⟨PI.weak (pi_zipS hg hm ha.pa hs hpl) ?_⟩
  rintro σ H R ⟨ρ, η, σd, S, rσ, rs, p⟩
  refine LA.of rσ rs p fun ds S1 ρ1 H1 vs e1 rσ1 rs1 rds p1 => ?_
  match ds, p1, rds with
  | [d, d2], p1, rds =>
    obtain ⟨v, v2, rfl, rv, rv2⟩ := rds.two
    dsimp only at p1
    cases hq : srcD d S1 with
    | none =>
      rw [hq] at p1
      exact p1.elim
    | some xo =>
      cases hq2 : srcD d2 S1 with
      | none =>
        rw [hq, hq2] at p1
        exact p1.elim
      | some yo =>
        obtain ⟨xs, o⟩ := xo
        obtain ⟨ys, o2⟩ := yo
        rw [hq, hq2] at p1
        obtain ⟨src, ev, hl, ⟨us, hu, hul⟩, keep⟩ := src_at rs1 rv hq
        obtain ⟨src2, ev2, hl2, ⟨us2, hu2, hul2⟩, keep2⟩ := src_at rs1 rv2 hq2
        rw [ev, ev2]
        refine ⟨src, src2, us, us2, rfl, F.K ▸ hu, F.K ▸ hu2, ?_⟩
        rw [← F.K]
        refine p1 ρ1 H1 _ e1 rs1 ⟨by rw [List.length_zipWith]; exact Nat.le_trans (Nat.min_le_left _ _) hl, fun ρ' η' H' S' e' hη rs' ok i => ?_⟩
        have ok' : (o.all fun p => okAt p S') = true ∧ (o2.all fun p => okAt p S') = true := by
          unfold okLive at ok
          dsimp only at ok
          rw [List.all_append, Bool.and_eq_true] at ok
          exact ok
        obtain ⟨ws, hw, rw'⟩ := keep ρ' η' H' S' e' hη rs' ok'.1
        obtain ⟨ws2, hw2, rw2⟩ := keep2 ρ' η' H' S' e' hη rs' ok'.2
        refine ⟨fun d' hd => ?_, fun hi => ⟨ws, ws2, hw, hw2, ?_⟩⟩
        · rw [List.getElem?_zipWith] at hd
          cases hx : xs[i]? with
          | none => rw [hx] at hd; cases hd
          | some x =>
            cases hy : ys[i]? with
            | none => rw [hx, hy] at hd; cases hd
            | some y =>
              rw [hx, hy] at hd
              cases hd
              obtain ⟨w, hww, rww⟩ := rw'.get hx
              obtain ⟨w2, hww2, rww2⟩ := rw2.get hy
              refine ⟨⟨ws, ws2, w, w2, hw, hw2, hww, hww2⟩, fun z H'' yy => ?_⟩
              obtain ⟨T, ob, y1, y2, rfl, hT, hd', rfl, hy1, hy2⟩ := yy
              have z := hy1 ws hw
              rw [hww] at z
              cases z
              have z := hy2 ws2 hw2
              rw [hww2] at z
              cases z
              exact pair_new rs' hT hd' (by show 2 ≤ sizeLine; decide) (RDs.cons rww (RDs.cons rww2 RDs.nil))
        · rw [rw'.length, rw2.length]
          have h3 : min xs.length ys.length = i := by rw [← List.length_zipWith]; exact hi
          omega
  | [], p1, rds => exact p1.elim
  | [_], p1, rds => exact p1.elim
  | _ :: _ :: _ :: _, p1, rds => exact p1.elim
end
end Fx

/-! Fx10: isinstance, chains, a written table, += , calls without arguments. -/
namespace Fx
open PySem PySem.Spec L2

/-! ### isinstance(x, T), T a built-in type -/
inductive Ty where
  | non | bl | int | str | tup | lst
  deriving DecidableEq
def Ty.name : Ty → String
  | .non => "NoneType"
  | .bl => "bool"
  | .int => "int"
  | .str => "str"
  | .tup => "tuple"
  | .lst => "list"
def Ty.is (a T : Ty) : Bool := decide (a = T) || (decide (a = .bl) && decide (T = .int))
theorem Ty.kit (a T : Ty) : kitB a.name T.name = some (a.is T) := by cases a <;> cases T <;> decide +kernel
def tyN (d : D) (S : Sto) : Option Ty := match d with
  | .non => some .non
  | .bl _ => some .bl
  | .int _ => some .int
  | .str _ => some .str
  | .tup _ => some .tup
  | .lst _ => some .lst
  | .scr _ => some .lst
  | .ref n => (match S[n]? with
    | some (.lst _) => some .lst
    | _ => none)
  | _ => none
theorem tyN_at {G : Gm} {ρ η : List Addr} {H : Hp} {S : Sto} {d : D} {v : V} {t : Ty} (rs : RS G ρ η H S) (rd : RD G ρ η H d v) (h : tyN d S = some t) : TyX G.K H v (.type t.name) := by
  cases d with
  | non => cases h; rw [RD] at rd; subst rd; exact .base .non
  | bl b => cases h; rw [RD] at rd; subst rd; exact .base (.bl b)
  | int b => cases h; rw [RD] at rd; subst rd; exact .base (.int b)
  | str b => cases h; rw [RD] at rd; subst rd; exact .base (.str b)
  | tup xs =>
    cases h
    rw [RD] at rd
    obtain ⟨a, vs, rfl, ht, _, _⟩ := rd
    rcases ht with ⟨o, e, _, _⟩ | ⟨o, its, n, h1, h2, _, _⟩
    · exact .fTuple e
    · exact .kTuple h1 h2
  | lst xs =>
    cases h
    rw [RD] at rd
    obtain ⟨a, vs, rfl, hL, _, _⟩ := rd
    exact .base (.lst hL.1)
  | scr xs =>
    cases h
    rw [RD] at rd
    obtain ⟨a, vs, rfl, hL, _, _⟩ := rd
    rcases hL with ⟨r, _, _⟩ | ⟨o, its, n, h1, h2, _⟩
    · rcases r with r | ⟨o, r⟩
      · exact .base (.lst r)
      · exact .base (.frz r)
    · exact .kList h1 h2
  | ref n =>
    unfold tyN at h
    dsimp only at h
    split at h
    · rename_i xs hn
      cases h
      rw [RD] at rd
      obtain ⟨a, ha, rfl⟩ := rd
      obtain ⟨vs, h2, _, _⟩ := rs.ob n a _ ha hn
      exact .base (.lst h2)
    · cases h
  | _ => cases h
def fIsi (T : Ty) (f : FE) : FE := fun σ S => (f σ S).bind fun d S1 => match tyN d S1 with
  | some t => .ok (.bl (t.is T)) S1
  | none => .stuck
section
variable {G : Gm} {X : Cx} {W : WX} {a b c e : Expr} {fa fb fc f : FE} {pos p p2 : Pos}
theorem je_isi [F : Fits G X] {y : Str} (T : Ty) (hm : X.mg "isinstance" = none) (hm2 : X.mg y = none) (he : JE G X W e f) (hv : bootBuiltins y = some (.type T.name) := by decide +kernel) (hv0 : bootBuiltins "isinstance" = some (.builtin "isinstance") := by decide +kernel) (hg : Gl X "isinstance" := by rfl) (hg2 : Gl X y := by rfl)
    (hn : y ≠ "__name__" := by decide) (hdb : (y == ("__debug__" : Str)) = false := by rfl) (hs : starEach [e, .Name y p2] X.env = (false, eval e X.env) :: starEach [.Name y p2] X.env := by rfl) (hpl : (backTo pos (starEach [.Name y p2] X.env)).any (·.1) = false := by rfl) :
    JE G X W (.Call (.Name "isinstance" p) [e, .Name y p2] [] pos) (fIsi T f) := by
  have pt : PE X (.Name y p2) (tC (.ty T.name)) := pe_bltn hg2 hm2 hv rfl hn hdb
  have h0 : (("isinstance" : Str) ≠ "__name__") := by decide
  refine ⟨PE.weak (pe_callB call_isi hg hm hv0 (pa_cons he.pe (pa_cons pt pa_nil) hs) h0 rfl hs hpl) ?_⟩
  rintro σ H Q ⟨ρ, η, σd, S, rσ, rs, pp⟩
  refine LE.of rσ rs pp fun x S1 ρ1 H1 u e1 rσ1 rs1 rx p1 => ?_
  cases hq : tyN x S1 with
  | none =>
    rw [hq] at p1
    exact p1.elim
  | some t =>
    rw [hq] at p1
    exact ⟨u, .ty T.name, .type t.name, .type T.name, t.is T, rfl, .ty _, F.K ▸ tyN_at rs1 rx hq, kit_ty (Ty.kit t T), p1 ρ1 H1 _ e1 rs1 (by rw [RD])⟩

/-! ### a op b op c -/
theorem je_chain {o o' : CmpOp} {r r' : R2} {op op' : D → D → Sto → Option D} (ho : OpR X (compareOp o) r) (l : Lnk G r op) (ho' : OpR X (compareOp o') r') (l' : Lnk G r' op') (ha : JE G X W a fa) (hb : JE G X W b fb) (hc : JE G X W c fc)
    (hm : lastMarks [o, o'] [b, c] = false := by with_unfolding_all rfl) : JE G X W (.Compare a [o, o'] [b, c] pos) (fChain op op' fa fb fc) := by
  refine ⟨PE.weak (pe_chain ho ho' ha.pe hb.pe hc.pe hm) ?_⟩
  rintro σ H Q ⟨ρ, η, σd, S, rσ, rs, pp⟩
  refine LE.of rσ rs pp fun x S1 ρ1 H1 u e1 rσ1 rs1 rx p1 => ?_
  refine LE.of rσ1 rs1 p1 fun y S2 ρ2 H2 v e2 rσ2 rs2 ry p2 => ?_
  cases hq : op x y S2 with
  | none =>
    rw [hq] at p2
    exact p2.elim
  | some d =>
    rw [hq] at p2
    refine l ρ2 η H2 S2 x y u v d _ rs2 (rx.ext e2) ry hq fun H3 z k rz => ?_
    have e3 := Ext.of_same (ρ := ρ2) k
    cases d with
    | bl q =>
      rw [RD] at rz
      refine ⟨q, rz, ?_⟩
      cases q with
      | false => exact p2 ρ2 H3 (.bl false) ((e1.trans e2).trans e3) (rs2.same k) (by rw [RD])
      | true =>
        refine LE.of (rσ2.ext e3) (rs2.same k) (p2.shift e3) fun w S3 ρ4 H4 w' e4 rσ4 rs4 rw' p4 => ?_
        have p5 := p4.imp (k' := KE G η ρ4 H4 Q) fun d S k => k.shift (((e1.trans e2).trans e3).trans e4)
        obtain ⟨d, e, h⟩ := opStep rs4 p5
        exact l' ρ4 η H4 S3 y w v w' d Q rs4 (ry.ext (e3.trans e4)) rw' e h
    | _ => exact p2.elim

/-! ### a written table of ints by texts -/
structure TabAt (G : Gm) (mg : Str → Option Value) (x : Str) (kvs : List (Str × Int)) : Prop where
  at_ : ∃ a es n, mg x = some (.ref a) ∧ KDict G.K G.w a es n ∧ ∀ z, match kvs.lookup z with
    | some i => ∃ u, PySem.W.nsIn G.K a z = some (some u) ∧ RelV (.int i) u
    | none => PySem.W.nsIn G.K a z = some none
def fTabIx (kvs : List (Str × Int)) (f : FE) : FE := fun σ S => (f σ S).bind fun d S1 => match d with
  | .str z => (match kvs.lookup z with
    | some i => .ok (.int i) S1
    | none => .stuck)
  | _ => .stuck
def fTabIn (neg : Bool) (kvs : List (Str × Int)) (f : FE) : FE := fun σ S => (f σ S).bind fun d S1 => match d with
  | .str z => .ok (.bl ((kvs.lookup z).isSome != neg)) S1
  | _ => .stuck
theorem je_tabIx [F : Fits G X] {x : Str} {kvs : List (Str × Int)} (t : TabAt G X.mg x kvs) (he : JE G X W e f) (hg : Gl X x := by rfl) (hd : (x == ("__debug__" : Str)) = false := by rfl) (hs : PlainIx e := by exact fun _ _ => rfl) :
    JE G X W (.Subscript (.Name x p) e pos) (fTabIx kvs f) := by
  obtain ⟨d, es, n, hm, kd, vals⟩ := t.at_
  have h1 : PE X (.Name x p) (tC (.ref d)) := pe_glob hg hm rfl hd
  refine ⟨PE.weak (pe_ix ix_kdict h1 he.pe hs) ?_⟩
  rintro σ H Q ⟨ρ, η, σd, S, rσ, rs, pp⟩
  refine LE.of rσ rs pp fun y S1 ρ1 H1 u e1 rσ1 rs1 ry p1 => ?_
  cases y with
  | str z =>
    rw [RD] at ry
    subst ry
    have hv := vals z
    dsimp only at p1
    cases hl : kvs.lookup z with
    | none =>
      rw [hl] at p1
      exact p1.elim
    | some i =>
      rw [hl] at p1 hv
      obtain ⟨w, hw, rw'⟩ := hv
      exact ⟨d, z, .int i, rfl, rfl, ⟨es, n, w, F.K ▸ kd.at_, F.w ▸ kd.lit, F.K ▸ hw, rw'⟩, p1 ρ1 H1 _ e1 rs1 (by rw [RD])⟩
  | _ => exact p1.elim
theorem je_tabIn [F : Fits G X] {x : Str} {kvs : List (Str × Int)} (t : TabAt G X.mg x kvs) (he : JE G X W e f) (hg : Gl X x := by rfl) (hd : (x == ("__debug__" : Str)) = false := by rfl) (hm : behindInMarks .In (.Name x p) = false := by first | exact nomark _ | rfl) :
    JE G X W (.Compare e [.In] [.Name x p] pos) (fTabIn false kvs f) := by
  obtain ⟨d, es, n, hmg, kd, vals⟩ := t.at_
  have h1 : PE X (.Name x p) (tC (.ref d)) := pe_glob hg hmg rfl hd
  have kd' : KDict X.K X.w d es n := F.w ▸ F.K ▸ kd
  refine ⟨PE.weak (pe_cmpR (op_in_kd kd') he.pe h1 hm) ?_⟩
  rintro σ H Q ⟨ρ, η, σd, S, rσ, rs, pp⟩
  refine LE.of rσ rs pp fun y S1 ρ1 H1 u e1 rσ1 rs1 ry p1 => ?_
  cases y with
  | str z =>
    rw [RD] at ry
    subst ry
    have hv := vals z
    cases hl : kvs.lookup z with
    | none =>
      rw [hl] at hv
      refine ⟨z, none, rfl, rfl, F.K ▸ hv, p1 ρ1 H1 _ e1 rs1 (by rw [RD, hl]; rfl)⟩
    | some i =>
      rw [hl] at hv
      obtain ⟨w, hw, rw'⟩ := hv
      exact ⟨z, some w, rfl, rfl, F.K ▸ hw, p1 ρ1 H1 _ e1 rs1 (by rw [RD, hl]; rfl)⟩
  | _ => exact p1.elim
theorem jt_tabIn [F : Fits G X] {x : Str} {kvs : List (Str × Int)} (t : TabAt G X.mg x kvs) (he : JE G X W e f) (hg : Gl X x := by rfl) (hd : (x == ("__debug__" : Str)) = false := by rfl) (hm : behindInMarks .In (.Name x p) = false := by first | exact nomark _ | rfl) :
    JT G X W (.Compare e [.In] [.Name x p] pos) (fTest (fTabIn false kvs f)) := by
  obtain ⟨d, es, n, hmg, kd, vals⟩ := t.at_
  have h1 : PE X (.Name x p) (tC (.ref d)) := pe_glob hg hmg rfl hd
  have kd' : KDict X.K X.w d es n := F.w ▸ F.K ▸ kd
  refine ⟨PT.weak (pt_cmpR (op_in_kd kd') he.pe h1 hm) ?_⟩
  intro σ H Q hh
  have hh2 : tB (LE G W (fTabIn false kvs f)) σ H Q := LE.test σ H Q hh
  obtain ⟨ρ, η, σd, S, rσ, rs, pp⟩ := hh2
  refine LE.of rσ rs pp fun y S1 ρ1 H1 u e1 rσ1 rs1 ry p1 => ?_
  cases y with
  | str z =>
    rw [RD] at ry
    subst ry
    have hv := vals z
    cases hl : kvs.lookup z with
    | none =>
      rw [hl] at hv
      refine ⟨z, none, rfl, rfl, F.K ▸ hv, p1 ρ1 H1 _ e1 rs1 (by rw [RD, hl]; rfl)⟩
    | some i =>
      rw [hl] at hv
      obtain ⟨w, hw, rw'⟩ := hv
      exact ⟨z, some w, rfl, rfl, F.K ▸ hw, p1 ρ1 H1 _ e1 rs1 (by rw [RD, hl]; rfl)⟩
  | _ => exact p1.elim
theorem je_tabNotIn [F : Fits G X] {x : Str} {kvs : List (Str × Int)} (t : TabAt G X.mg x kvs) (he : JE G X W e f) (hg : Gl X x := by rfl) (hd : (x == ("__debug__" : Str)) = false := by rfl) (hm : behindInMarks .NotIn (.Name x p) = false := by first | exact nomark _ | rfl) :
    JE G X W (.Compare e [.NotIn] [.Name x p] pos) (fTabIn true kvs f) := by
  obtain ⟨d, es, n, hmg, kd, vals⟩ := t.at_
  have h1 : PE X (.Name x p) (tC (.ref d)) := pe_glob hg hmg rfl hd
  have kd' : KDict X.K X.w d es n := F.w ▸ F.K ▸ kd
  refine ⟨PE.weak (pe_cmpR (op_notIn_kd kd') he.pe h1 hm) ?_⟩
  rintro σ H Q ⟨ρ, η, σd, S, rσ, rs, pp⟩
  refine LE.of rσ rs pp fun y S1 ρ1 H1 u e1 rσ1 rs1 ry p1 => ?_
  cases y with
  | str z =>
    rw [RD] at ry
    subst ry
    have hv := vals z
    cases hl : kvs.lookup z with
    | none =>
      rw [hl] at hv
      refine ⟨z, none, rfl, rfl, F.K ▸ hv, p1 ρ1 H1 _ e1 rs1 (by rw [RD, hl]; rfl)⟩
    | some i =>
      rw [hl] at hv
      obtain ⟨w, hw, rw'⟩ := hv
      exact ⟨z, some w, rfl, rfl, F.K ▸ hw, p1 ρ1 H1 _ e1 rs1 (by rw [RD, hl]; rfl)⟩
  | _ => exact p1.elim

theorem jt_tabNotIn [F : Fits G X] {x : Str} {kvs : List (Str × Int)} (t : TabAt G X.mg x kvs) (he : JE G X W e f) (hg : Gl X x := by rfl) (hd : (x == ("__debug__" : Str)) = false := by rfl) (hm : behindInMarks .NotIn (.Name x p) = false := by first | exact nomark _ | rfl) :
    JT G X W (.Compare e [.NotIn] [.Name x p] pos) (fTest (fTabIn true kvs f)) := by
  obtain ⟨d, es, n, hmg, kd, vals⟩ := t.at_
  have h1 : PE X (.Name x p) (tC (.ref d)) := pe_glob hg hmg rfl hd
  have kd' : KDict X.K X.w d es n := F.w ▸ F.K ▸ kd
  refine ⟨PT.weak (pt_cmpR (op_notIn_kd kd') he.pe h1 hm) ?_⟩
  intro σ H Q hh
  have hh2 : tB (LE G W (fTabIn true kvs f)) σ H Q := LE.test σ H Q hh
  obtain ⟨ρ, η, σd, S, rσ, rs, pp⟩ := hh2
  refine LE.of rσ rs pp fun y S1 ρ1 H1 u e1 rσ1 rs1 ry p1 => ?_
  cases y with
  | str z =>
    rw [RD] at ry
    subst ry
    have hv := vals z
    cases hl : kvs.lookup z with
    | none =>
      rw [hl] at hv
      refine ⟨z, none, rfl, rfl, F.K ▸ hv, p1 ρ1 H1 _ e1 rs1 (by rw [RD, hl]; rfl)⟩
    | some i =>
      rw [hl] at hv
      obtain ⟨w, hw, rw'⟩ := hv
      exact ⟨z, some w, rfl, rfl, F.K ▸ hw, p1 ρ1 H1 _ e1 rs1 (by rw [RD, hl]; rfl)⟩
  | _ => exact p1.elim

/-! ### x[::-1] of a text -/
def revStr (x : Str) : Str := ⟨x.cps.toList.reverse.toArray⟩
theorem rev_ix (n : Nat) : Builtin.Str.strSliceIndices none none (-1) n = (List.range n).reverse := by
  unfold Builtin.Str.strSliceIndices
  simp only [show ¬ ((-1 : Int) > 0) by decide, if_false]
  rw [PySem.W.krv_sliceRange, PySem.W.krv_range]
theorem rev_made (x : Str) (t : Tok) (k : Tok) : sliceMade x t none none (some (-1, k)) = .str (revStr x) := by
  unfold sliceMade
  have h1 : ((Option.map (·.1) (some ((-1 : Int), k))).getD 1 == 1 && (slicePicked x none none (some (-1, k))).length == x.length) = false := rfl
  rw [h1, if_neg Bool.false_ne_true]
  show Made.str ⟨((Builtin.Str.strSliceIndices none none (-1) x.length).filterMap (x.cps[·]?)).toArray⟩ = _
  rw [rev_ix, List.filterMap_reverse, show x.length = x.cps.size from rfl, PySem.W.krv_all]
  rfl
def tRevS (te : TE) : TE := fun σ H Q => te σ H fun x H1 => ∃ z, x = .str z ∧ z.cps.size ≤ sizeLine ∧ Q (.str (revStr z)) H1
theorem pe_revS {k : Nat} {p1 p2 p3 : Pos} {te : TE} (he : PE X e te) : PE X (.Subscript e (.Slice none none (some (.UnaryOp .USub (.Constant (.int 1) k p1) p2)) p3) pos) (tRevS te) := by
  refine ⟨fun pins s σ H Q I h => ?_⟩
  refine PyProof.Rows.Subscript_ (thn (he.run pins s σ H _ I h) fun v s1 ⟨x, H1, I1, r1, q1⟩ => ?_)
  obtain ⟨z, ex, hz, q⟩ := q1
  subst ex
  obtain ⟨t, rfl⟩ := (show ∃ t, v = Value.str z t from r1)
  have hst : PO X (some (.UnaryOp .USub (.Constant (.int 1) k p1) p2)) (tPart (tUn (rU fun i => .int (-i)) (tC (.int 1)))) := po_some (pe_un un_neg pe_int)
  refine wpAny_Slice (thn (po_none.run pins s1 σ H1 (fun o H2 => o = none ∧ H2 = H1) I1 ⟨rfl, rfl⟩) fun vl s2 ⟨l, H2, I2, pl, el, e2⟩ => ?_)
  subst el e2
  refine thn (po_none.run pins s2 σ H2 (fun o H3 => o = none ∧ H3 = H2) I2 ⟨rfl, rfl⟩) fun vu s3 ⟨u, H3, I3, pu, eu, e3⟩ => ?_
  subst eu e3
  refine thn (hst.run pins s3 σ H3 (fun o H4 => o = some (-1) ∧ H4 = H3) I3 ⟨1, rfl, -1, rfl, rfl, rfl⟩) fun vs s4 ⟨o, H4, I4, ps, eo, e4⟩ => ?_
  subst eo e4
  have I5 : Inv X pins σ H4 { s4 with heap := s4.heap.push { cls := .type "slice", data := .fields #[vl, vu, vs] } } := I4.kept (t' := s4.toks) fun b ob q => Heap.get?_push_of_some _ q
  cases pl
  cases pu
  cases ps with
  | int i tk =>
    refine PyProof.Rows.tail_any (ops := [.str z t, .ref s4.heap.objs.size]) (typeIs_str _ z t) F.slot_str_getitem.lookup ?_ (by with_unfolding_all rfl)
    refine wpAny_getItem_str_slice (l := none) (u := none) (st := some (-1, tk)) ⟨_, Heap.get?_push_size _ rfl, rfl, rfl⟩ rfl ?_
    rw [rev_made]
    refine ⟨?_, .str (revStr z), H4, I5.tok _, ⟨_, rfl⟩, q⟩
    show ((z.cps.toList.reverse).toArray).size ≤ sizeLine
    simpa using hz
def fRevS (f : FE) : FE := fun σ S => (f σ S).bind fun d S1 => match d with
  | .str z => if tooMany z.cps.size = true then .stuck else .ok (.str (revStr z)) S1
  | _ => .stuck
theorem je_revS {k : Nat} {p1 p2 p3 : Pos} (he : JE G X W e f) : JE G X W (.Subscript e (.Slice none none (some (.UnaryOp .USub (.Constant (.int 1) k p1) p2)) p3) pos) (fRevS f) := by
  refine ⟨PE.weak (pe_revS he.pe) ?_⟩
  rintro σ H Q ⟨ρ, η, σd, S, rσ, rs, pp⟩
  refine LE.of rσ rs pp fun x S1 ρ1 H1 u e1 rσ1 rs1 rx p1 => ?_
  cases x with
  | str z =>
    rw [RD] at rx
    dsimp only at p1
    cases ht : tooMany z.cps.size with
    | true =>
      rw [ht] at p1
      exact p1.elim
    | false =>
      rw [ht] at p1
      exact ⟨z, rx, le_line ht, p1 ρ1 H1 _ e1 rs1 (by rw [RD])⟩
  | _ => exact p1.elim

/-! ### name op= e -/
def LnkIp (G : Gm) (t : TIp) (op : D → D → Sto → Option (D × Sto)) : Prop := ∀ ρ η H S x y u v d S' (Q : VK), RS G ρ η H S → RD G ρ η H x u → RD G ρ η H y v → op x y S = some (d, S') →
  (∀ H' z, Ext ρ H ρ H' → RS G ρ η H' S' → RD G ρ η H' d z → Q z H') → t u v H Q
def sAug (i : Nat) (op : D → D → Sto → Option (D × Sto)) (f : FE) : FS := fun σ S => match σ[i]? with
  | some (some x) => (f σ S).bindS σ fun y S1 => (match op x y S1 with
    | some (d, S2) => .nx (σ.set i (some d)) S2
    | none => .stuck)
  | _ => .stuck
def ipInt (g : Int → Int → Int) (ok : Int → Int → Bool) : D → D → Sto → Option (D × Sto) := fun x y S => match x, y with
  | .int i, .int j => if ok i j then some (.int (g i j), S) else none
  | _, _ => none
theorem lnk_ipI {G : Gm} (g : Int → Int → Int) (ok : Int → Int → Bool) : LnkIp G (fun x y H Q => ∃ i j, x = .int i ∧ y = .int j ∧ ok i j = true ∧ Q (.int (g i j)) H) (ipInt g ok) := by
  intro ρ η H S x y u v d S' Q rs rx ry h k
  unfold ipInt at h
  split at h
  · rename_i i j
    split at h
    · rename_i hok
      cases h
      rw [RD] at rx ry
      exact ⟨i, j, rx, ry, hok, k H _ (Ext.refl ρ H) rs (by rw [RD])⟩
    · cases h
  · cases h
theorem ipn_add : PIp X .Add (fun x y H Q => ∃ i j, x = .int i ∧ y = .int j ∧ (fun _ _ => true : Int → Int → Bool) i j = true ∧ Q (.int ((fun i j => i + j) i j)) H) := fun pins s σ H x y v u Q I r1 r2 ⟨i, j, e1, e2, _, q⟩ => ip_add pins s σ H x y v u Q I r1 r2 ⟨i, j, e1, e2, q⟩
theorem ipn_sub : PIp X .Sub (fun x y H Q => ∃ i j, x = .int i ∧ y = .int j ∧ (fun _ _ => true : Int → Int → Bool) i j = true ∧ Q (.int ((fun i j => i - j) i j)) H) := fun pins s σ H x y v u Q I r1 r2 ⟨i, j, e1, e2, _, q⟩ => ip_sub pins s σ H x y v u Q I r1 r2 ⟨i, j, e1, e2, q⟩
def mulOk (i j : Int) : Bool := in64 i || in64 j
theorem ipn_mul : PIp X .Mult (fun x y H Q => ∃ i j, x = .int i ∧ y = .int j ∧ mulOk i j = true ∧ Q (.int ((fun i j => i * j) i j)) H) := by
  intro pins s σ H x y v u Q I r1 r2 h
  obtain ⟨i, j, e1, e2, hk, q⟩ := h
  subst e1; subst e2
  obtain ⟨t, rfl⟩ := r1
  obtain ⟨t', rfl⟩ := r2
  have hc : CMul i j := by
    unfold mulOk at hk
    rw [Bool.or_eq_true] at hk
    exact hk.elim (fun z => .inl (of_decide_eq_true z)) fun z => .inr (of_decide_eq_true z)
  exact PyProof.Rows.imul_int ⟨.int _, H, I.tok _, ⟨_, rfl⟩, q⟩ hc.ok
def ipExt : D → D → Sto → Option (D × Sto) := fun x y S => match lstO x S with
  | some (n, xs) => (match seqM y S with
    | some ys => if tooMany (xs.length + ys.length) then none else some (x, S.set n (.lst (xs ++ ys)))
    | none => none)
  | none => none
theorem lnk_ipExt {G : Gm} : LnkIp G rExt2 ipExt := by
  intro ρ η H S x y u v d S' Q rs rx ry h k
  unfold ipExt at h
  split at h
  · rename_i n xs hx
    split at h
    · rename_i ys hy
      split at h
      · cases h
      · rename_i hf
        cases h
        obtain ⟨a, us, rfl, ha, e, hl, r⟩ := lstO_at rs rx hx
        obtain ⟨c, zs, rfl, e2, hl2, r2⟩ := seqM_at rs ry hy
        have hle : us.length + zs.length ≤ sizeLine := by rw [r.length, r2.length]; exact le_line (by simpa using hf)
        obtain ⟨ex, rs'⟩ := lst_write (us := us ++ zs) rs ha e (by simp; omega) (r.append r2)
        exact ⟨a, c, us, zs, rfl, rfl, e, e2, hle, k _ _ ex rs' (rx.ext ex)⟩
    · cases h
  · cases h
theorem js_aug (i : Nat) {x : Str} {pos' : Pos} {o : Operator} {t : TIp} {op : D → D → Sto → Option (D × Sto)} (hN : X.N.Nodup) (ho : PIp X o t) (l : LnkIp G t op) (he : JE G X W e f) (hi : X.N[i]? = some x := by rfl) (hx : locB X.env.scope x = true := by rfl)
    (hf : X.fn x = true ∨ X.env.scope.names.lookup x = some .local := by first | exact .inl rfl | exact .inr rfl) : JS G X W (.AugAssign (.Name x pos') o e pos) (sAug i op f) := by
  refine ⟨PS.weak (ps_aug hN hi (loc_of hx) he.pe ho hf) ?_⟩
  rintro E σ H ⟨ρ, η, σd, S, rσ, rs, pp⟩
  unfold sAug at pp
  split at pp
  · rename_i d hd
    obtain ⟨v, hv, rv⟩ := rσ.at_ i d hd
    refine ⟨v, hv, LE.ofS rσ rs pp fun y S1 ρ1 H1 w e1 rσ1 rs1 ry p1 => ?_⟩
    revert p1
    cases hq : op d y S1 with
    | none => exact fun p1 => p1.elim
    | some z =>
      intro p1
      exact l ρ1 η H1 S1 d y v w z.1 z.2 _ rs1 (rv.ext e1) ry hq fun H2 z' e2 rs2 rz => p1 ρ1 H2 _ e2 ((rσ1.ext e2).set i rz) rs2
  · exact pp.elim

/-! ### a, b = x, y -/
def sPar2 (i j : Nat) (g : FL) : FS := fun σ S => (g σ S).bindS σ fun ds S1 => match ds with
  | [d, e] => .nx ((σ.set i (some d)).set j (some e)) S1
  | _ => .stuck
def sPar3 (i j k : Nat) (g : FL) : FS := fun σ S => (g σ S).bindS σ fun ds S1 => match ds with
  | [d, e, f] => .nx (((σ.set i (some d)).set j (some e)).set k (some f)) S1
  | _ => .stuck
theorem js_par2 (i j : Nat) {x y : Str} {g : FL} {px py pt : Pos} {kt k2 pt2} (hc : X.calm = true) (hN : X.N.Nodup) (hij : i ≠ j) (ha : JA G X W [a, b] g) (hi : X.N[i]? = some x := by rfl) (hj : X.N[j]? = some y := by rfl)
    (hx : X.env.scope.names.lookup x = some .local := by rfl) (hy : X.env.scope.names.lookup y = some .local := by rfl)
    (hw : swappedStores [.Tuple [.Name x px, .Name y py] kt pt] (.Tuple [a, b] k2 pt2) X.env = pure (some [x, y]) := by rfl)
    (hs : swapsWithSole [.Tuple [.Name x px, .Name y py] kt pt] (.Tuple [a, b] k2 pt2) pos.line X.env = pure false := by rfl) :
    JS G X W (.Assign [.Tuple [.Name x px, .Name y py] kt pt] (.Tuple [a, b] k2 pt2) pos) (sPar2 i j g) := by
  refine ⟨PS.weak (ps_par hc hN hi hj hij hx hy ha.pa hw hs) ?_⟩
  rintro E σ H ⟨ρ, η, σd, S, rσ, rs, pp⟩
  refine LA.ofS rσ rs pp fun ds S1 ρ1 H1 vs e1 rσ1 rs1 rds p1 => ?_
  match ds, p1, rds with
  | [d, e], p1, rds =>
    obtain ⟨v, w, rfl, rv, rw'⟩ := rds.two
    exact ⟨v, w, rfl, p1 ρ1 H1 _ (Ext.refl ρ1 H1) ((rσ1.set i rv).set j rw') rs1⟩
  | [], p1, rds => exact p1.elim
  | [_], p1, rds => exact p1.elim
  | _ :: _ :: _ :: _, p1, rds => exact p1.elim
theorem js_par3 (i j l : Nat) {x y z : Str} {g : FL} {px py pz pt : Pos} {kt k2 pt2} (hc : X.calm = true) (hN : X.N.Nodup) (hij : i ≠ j) (hil : i ≠ l) (hjl : j ≠ l) (ha : JA G X W [a, b, c] g) (hi : X.N[i]? = some x := by rfl) (hj : X.N[j]? = some y := by rfl) (hl : X.N[l]? = some z := by rfl)
    (hx : X.env.scope.names.lookup x = some .local := by rfl) (hy : X.env.scope.names.lookup y = some .local := by rfl) (hz : X.env.scope.names.lookup z = some .local := by rfl)
    (hw : swappedStores [.Tuple [.Name x px, .Name y py, .Name z pz] kt pt] (.Tuple [a, b, c] k2 pt2) X.env = pure (some [x, y, z]) := by rfl)
    (hs : swapsWithSole [.Tuple [.Name x px, .Name y py, .Name z pz] kt pt] (.Tuple [a, b, c] k2 pt2) pos.line X.env = pure false := by rfl) :
    JS G X W (.Assign [.Tuple [.Name x px, .Name y py, .Name z pz] kt pt] (.Tuple [a, b, c] k2 pt2) pos) (sPar3 i j l g) := by
  refine ⟨PS.weak (ps_par3 hc hN hi hj hl hij hil hjl hx hy hz ha.pa hw hs) ?_⟩
  rintro E σ H ⟨ρ, η, σd, S, rσ, rs, pp⟩
  refine LA.ofS rσ rs pp fun ds S1 ρ1 H1 vs e1 rσ1 rs1 rds p1 => ?_
  match ds, p1, rds with
  | [d, e, f], p1, rds =>
    rw [RDs] at rds
    obtain ⟨v, r, rfl, rv, rr⟩ := rds
    obtain ⟨w, u, rfl, rw', ru⟩ := rr.two
    exact ⟨v, w, u, rfl, p1 ρ1 H1 _ (Ext.refl ρ1 H1) (((rσ1.set i rv).set j rw').set l ru) rs1⟩
  | [], p1, rds => exact p1.elim
  | [_], p1, rds => exact p1.elim
  | [_, _], p1, rds => exact p1.elim
  | _ :: _ :: _ :: _ :: _, p1, rds => exact p1.elim
/-- a call without arguments -/
theorem je_call0 [F : Fits G X] {x : Str} {ps : List Str} {k j : Nat} {ff : FF} (cc : Callee G X.mg X.base x ps 0 k ff) (h : Here X W j) (hk : k ≤ j) (hg : Gl X x := by rfl) (hdb : (x == ("__debug__" : Str)) = false := by rfl) : JE G X W (.Call (.Name x p) [] [] pos) (fCall ff fNil) := by
  obtain ⟨a, fd, ok, hm, kp, b⟩ := cc.ok
  rw [F.P, F.w, F.K] at ok
  rw [F.K] at kp b
  refine ⟨⟨fun pins s σ H Q I h' => ?_⟩⟩
  obtain ⟨ρ, η, σd, S, rσ, rs, pp⟩ := h'
  refine wpAny_Call_Name_kw (ld_glob I hg hm ?_ hdb)
  exact PySem.W.callWith_K0 I.kIn kp (run_fnS (us := []) (E := WE W) ok (h.room.mono hk) b (passAt h.takes σ) I .nil (sp_of rfl RDs.nil rs pp))
end
end Fx

/-! Fx11: short names for the printed derivations. -/
namespace Fx
open PySem PySem.Spec L2

/-- an operator with its data's answer -/
structure OpC (G : Gm) (X : Cx) (o : CmpOp) (op : D → D → Sto → Option D) : Prop where
  ex : ∃ r, OpR X (compareOp o) r ∧ Lnk G r op
structure OpB (G : Gm) (X : Cx) (o : Operator) (op : D → D → Sto → Option D) : Prop where
  ex : ∃ r, OpR X (binaryOp o) r ∧ Lnk G r op
theorem here_hu {X : Cx} {W : WX} {k : Nat} (h : Here X W k) : X.A.units + 64 < cLine := by have := h.room.un; omega
section
variable {G : Gm} {X : Cx} {W : WX}
theorem o_lt : OpC G X .Lt opLt := ⟨_, op_lt, lnk_ord _⟩
theorem o_le : OpC G X .LtE opLe := ⟨_, op_le, lnk_ord _⟩
theorem o_gt : OpC G X .Gt opGt := ⟨_, op_gt, lnk_ord _⟩
theorem o_ge : OpC G X .GtE opGe := ⟨_, op_ge, lnk_ord _⟩
theorem o_eq [F : Fits G X] {k : Nat} (h : Here X W k) : OpC G X .Eq opEq := ⟨_, op_eqU (here_hu h), F.K ▸ lnk_eq⟩
theorem o_ne [F : Fits G X] {k : Nat} (h : Here X W k) : OpC G X .NotEq opNe := ⟨_, op_neU (here_hu h), F.K ▸ lnk_ne⟩
theorem o_is : OpC G X .Is opIsN := ⟨_, op_isN, lnk_isN⟩
theorem o_isNot : OpC G X .IsNot opNotN := ⟨_, op_notN, lnk_notN⟩
theorem o_in [F : Fits G X] : OpC G X .In opIn := ⟨_, op_inU, F.K ▸ lnk_in⟩
theorem o_notIn [F : Fits G X] : OpC G X .NotIn opNotIn := ⟨_, op_notInU, F.K ▸ lnk_notIn⟩
theorem o_add [F : Fits G X] : OpB G X .Add opAdd := ⟨_, op_addU, F.K ▸ lnk_add⟩
theorem o_sub : OpB G X .Sub opSub := ⟨_, op_sub, lnk_sub⟩
theorem o_mul : OpB G X .Mult opMul := ⟨_, op_mul, lnk_mul⟩
theorem o_div : OpB G X .FloorDiv opDiv := ⟨_, op_fdivN, lnk_div⟩
theorem o_mod : OpB G X .Mod opMod := ⟨_, op_modN, lnk_mod⟩
variable {a b c e : Expr} {es : List Expr} {fa fb fc f : FE} {g : FL} {pos p p2 : Pos} {o o' : CmpOp} {bo : Operator} {op op' : D → D → Sto → Option D}
theorem je_c1 (q : OpC G X o op) (ha : JE G X W a fa) (hb : JE G X W b fb) (hm : behindInMarks o b = false := by first | exact nomark _ | rfl) : JE G X W (.Compare a [o] [b] pos) (fBin op fa fb) :=
  let ⟨_, h, l⟩ := q.ex; je_cmp h l ha hb hm
theorem jt_c1 (q : OpC G X o op) (ha : JE G X W a fa) (hb : JE G X W b fb) (hm : behindInMarks o b = false := by first | exact nomark _ | rfl) : JT G X W (.Compare a [o] [b] pos) (fTest (fBin op fa fb)) :=
  let ⟨_, h, l⟩ := q.ex; jt_cmp h l ha hb hm
theorem je_c2 (q : OpC G X o op) (q' : OpC G X o' op') (ha : JE G X W a fa) (hb : JE G X W b fb) (hc : JE G X W c fc) (hm : lastMarks [o, o'] [b, c] = false := by with_unfolding_all rfl) : JE G X W (.Compare a [o, o'] [b, c] pos) (fChain op op' fa fb fc) :=
  let ⟨_, h, l⟩ := q.ex; let ⟨_, h', l'⟩ := q'.ex; je_chain h l h' l' ha hb hc hm
theorem chain_test {r r' : R2} (l : Lnk G r op) (l' : Lnk G r' op') : ∀ σ H Q, LT G W (fTest (fChain op op' fa fb fc)) σ H Q → tTest (tChain r r' (LE G W fa) (LE G W fb) (LE G W fc)) σ H Q := by
  intro σ H Q h
  have h2 : tB (LE G W (fChain op op' fa fb fc)) σ H Q := LE.test σ H Q h
  obtain ⟨ρ, η, σd, S, rσ, rs, pp⟩ := h2
  refine LE.of rσ rs pp fun x S1 ρ1 H1 u e1 rσ1 rs1 rx p1 => ?_
  refine LE.of rσ1 rs1 p1 fun y S2 ρ2 H2 v e2 rσ2 rs2 ry p2 => ?_
  cases hq : op x y S2 with
  | none =>
    rw [hq] at p2
    exact p2.elim
  | some d =>
    rw [hq] at p2
    refine l ρ2 η H2 S2 x y u v d _ rs2 (rx.ext e2) ry hq fun H3 z k rz => ?_
    have e3 := Ext.of_same (ρ := ρ2) k
    cases d with
    | bl q =>
      rw [RD] at rz
      refine ⟨q, rz, ?_⟩
      cases q with
      | false => exact p2 ρ2 H3 (.bl false) ((e1.trans e2).trans e3) (rs2.same k) (by rw [RD])
      | true =>
        refine LE.of (rσ2.ext e3) (rs2.same k) (p2.shift e3) fun w S3 ρ4 H4 w' e4 rσ4 rs4 rw' p4 => ?_
        have p5 := p4.imp (k' := KE G η ρ4 H4 _) fun d S k => k.shift (((e1.trans e2).trans e3).trans e4)
        obtain ⟨d, e, h⟩ := opStep rs4 p5
        exact l' ρ4 η H4 S3 y w v w' d _ rs4 (ry.ext (e3.trans e4)) rw' e h
    | _ => exact p2.elim
theorem jt_c2 (q : OpC G X o op) (q' : OpC G X o' op') (ha : JE G X W a fa) (hb : JE G X W b fb) (hc : JE G X W c fc) (hm : lastMarks [o, o'] [b, c] = false := by with_unfolding_all rfl) : JT G X W (.Compare a [o, o'] [b, c] pos) (fTest (fChain op op' fa fb fc)) := by
  obtain ⟨r, h, l⟩ := q.ex
  obtain ⟨r', h', l'⟩ := q'.ex
  exact ⟨PT.weak (pt_chain h h' ha.pe hb.pe hc.pe hm) (chain_test l l')⟩
theorem je_b (q : OpB G X bo op) (ha : JE G X W a fa) (hb : JE G X W b fb) : JE G X W (.BinOp a bo b pos) (fBin op fa fb) :=
  let ⟨_, h, l⟩ := q.ex; je_op h l ha hb
theorem je_neg (ha : JE G X W a fa) : JE G X W (.UnaryOp .USub a pos) (fUn opNeg fa) := je_un un_neg lnk_neg ha
theorem jss_never {st : List Stmt} : JSs G X W st sNever := by
  refine ⟨⟨fun pins s σ H D I h => ?_⟩⟩
  obtain ⟨ρ, η, σd, S, rσ, rs, pp⟩ := h
  exact pp.elim

/-! ### builtins -/
theorem je_len [F : Fits G X] (hm : X.mg "len" = none) (ha : JA G X W (e :: es) g) (hg : Gl X "len" := by rfl) (he : starEach (e :: es) X.env = (false, eval e X.env) :: starEach es X.env := by rfl) (hpl : (backTo pos (starEach es X.env)).any (·.1) = false := by rfl) :
    JE G X W (.Call (.Name "len" p) (e :: es) [] pos) (fBi opLen g) := je_bi (r := rLenU X.K) call_lenU (F.K ▸ lnk_len) hm boot_len ha hg (by decide) rfl he hpl
theorem je_int1 (hm : X.mg "int" = none) (ha : JA G X W (e :: es) g) (hg : Gl X "int" := by rfl) (he : starEach (e :: es) X.env = (false, eval e X.env) :: starEach es X.env := by rfl) (hpl : (backTo pos (starEach es X.env)).any (·.1) = false := by rfl) :
    JE G X W (.Call (.Name "int" p) (e :: es) [] pos) (fBi opInt g) := je_ty call_intU lnk_int hm PyProof.Rows.boot_int ha hg (by decide) rfl he hpl
theorem je_str1 (hm : X.mg "str" = none) (ha : JA G X W (e :: es) g) (hg : Gl X "str" := by rfl) (he : starEach (e :: es) X.env = (false, eval e X.env) :: starEach es X.env := by rfl) (hpl : (backTo pos (starEach es X.env)).any (·.1) = false := by rfl) :
    JE G X W (.Call (.Name "str" p) (e :: es) [] pos) (fBi opStr g) := je_ty call_str_int lnk_str hm PyProof.Rows.boot_str ha hg (by decide) rfl he hpl
theorem je_abs (hm : X.mg "abs" = none) (ha : JA G X W (e :: es) g) (hg : Gl X "abs" := by rfl) (he : starEach (e :: es) X.env = (false, eval e X.env) :: starEach es X.env := by rfl) (hpl : (backTo pos (starEach es X.env)).any (·.1) = false := by rfl) :
    JE G X W (.Call (.Name "abs" p) (e :: es) [] pos) (fBi opAbs g) := je_bi call_abs lnk_abs hm PyProof.Rows.boot_abs ha hg (by decide) rfl he hpl
theorem je_max (hc : X.calm = true) (hm : X.mg "max" = none) (ha : JA G X W (e :: es) g) (hg : Gl X "max" := by rfl) (he : starEach (e :: es) X.env = (false, eval e X.env) :: starEach es X.env := by rfl) (hpl : (backTo pos (starEach es X.env)).any (·.1) = false := by rfl) :
    JE G X W (.Call (.Name "max" p) (e :: es) [] pos) (fBi opMax2 g) := je_bi (call_max2 hc) lnk_max2 hm PyProof.Rows.boot_max ha hg (by decide) rfl he hpl
theorem je_all [F : Fits G X] (hc : X.calm = true) (hm : X.mg "all" = none) (ha : JA G X W (e :: es) g) (hg : Gl X "all" := by rfl) (he : starEach (e :: es) X.env = (false, eval e X.env) :: starEach es X.env := by rfl) (hpl : (backTo pos (starEach es X.env)).any (·.1) = false := by rfl) :
    JE G X W (.Call (.Name "all" p) (e :: es) [] pos) (fBi opAll g) := je_bi (r := rAll X.K) (cr_all hc) (F.K ▸ lnk_all) hm PyProof.Rows.boot_all ha hg (by decide) rfl he hpl
theorem je_any [F : Fits G X] (hc : X.calm = true) (hm : X.mg "any" = none) (ha : JA G X W (e :: es) g) (hg : Gl X "any" := by rfl) (he : starEach (e :: es) X.env = (false, eval e X.env) :: starEach es X.env := by rfl) (hpl : (backTo pos (starEach es X.env)).any (·.1) = false := by rfl) :
    JE G X W (.Call (.Name "any" p) (e :: es) [] pos) (fBi opAny g) := je_bi (r := rAny X.K) (cr_any hc) (F.K ▸ lnk_any) hm PyProof.Rows.boot_any ha hg (by decide) rfl he hpl
theorem jl_list [F : Fits G X] (hm : X.mg "list" = none) (ha : JA G X W (e :: es) g) (hg : Gl X "list" := by rfl) (he : starEach (e :: es) X.env = (false, eval e X.env) :: starEach es X.env := by rfl) (hpl : (backTo pos (starEach es X.env)).any (·.1) = false := by rfl) :
    JL G X W (.Call (.Name "list" p) (e :: es) [] pos) (fBiL opList g) := jl_ty (r := fun xs H Q => ∃ p ys, xs = [.ref p] ∧ (SqL X.K H p ys ∨ SqT X.K H p ys) ∧ ∀ l, H l = none → Q (.ref l) (upd H l (.lst ys))) call_list_of (F.K ▸ lnk_list) hm PyProof.Rows.boot_list ha hg (by decide) rfl he hpl
theorem je_tuple [F : Fits G X] (hm : X.mg "tuple" = none) (ha : JA G X W (e :: es) g) (hg : Gl X "tuple" := by rfl) (he : starEach (e :: es) X.env = (false, eval e X.env) :: starEach es X.env := by rfl) (hpl : (backTo pos (starEach es X.env)).any (·.1) = false := by rfl) :
    JE G X W (.Call (.Name "tuple" p) (e :: es) [] pos) (fBi opTuple g) := je_ty (r := rTupOf X.K) call_tupleF (F.K ▸ lnk_tuple) hm PyProof.Rows.boot_tuple ha hg (by decide) rfl he hpl

/-! ### callees -/
theorem callee_of {P : Program} {w : World} {K : PySem.W.Frag} {mg : Str → Option Value} {base : Heap} {cl : Nat → Addr} {tb : List (Addr × Str)} {x qual : Str} {params : Arguments} {body : List Stmt} {scope : Scope} {kws : List (Str × V)} {N ps : List Str} {n k : Nat} {g : FS}
    (D : ∃ f fd, FunD K x qual params body scope [] kws f fd ∧ mg x = some (.ref f)) (S : FnScope N ps scope)
    (hb : ∀ (kV doc pm : Value) (an : Option Addr) (cdv ct : Value) (us : List Value), us.length = ps.length → bindArgs (PySem.W.fnOf x qual params body scope .none kV doc pm an cdv ct) ⟨us, []⟩ = pure (ps.zip us))
    (hn : ps.length = n)
    (h : ∀ (f : Addr) (cdv : Value) (A : Around) (outer : List Env) (s : Shared) (H : Hp) (E : XK), Here (cxOf (L2.CX P w) P w K mg base N qual scope f cdv A outer s H E) (fun cls d _ H => E cls d H) k →
      JSs ⟨P, w, K, cl, tb⟩ (cxOf (L2.CX P w) P w K mg base N qual scope f cdv A outer s H E) (fun cls d _ H => E cls d H) body g) :
    Callee ⟨P, w, K, cl, tb⟩ mg base x ps n (k + 1) (fDef N.length g) := by
  obtain ⟨f, fd, F, hm⟩ := D
  refine ⟨f, fd, ?_, hm, F.kp, F.bindsN hb⟩
  subst hn
  exact fn_body N ps F S fun cdv A outer s H E hr => h f cdv A outer s H E (here_def hr)
theorem Callee.mono {G : Gm} {mg : Str → Option Value} {base : Heap} {x : Str} {ps : List Str} {n j k : Nat} {f : FF} (c : Callee G mg base x ps n j f) (h : j ≤ k) : Callee G mg base x ps n k f :=
  let ⟨a, fd, F, r⟩ := c.ok; ⟨a, fd, F.mono h, r⟩
end

/-! ### methods -/
section
variable {G : Gm} {X : Cx} {W : WX} {o e : Expr} {es : List Expr} {fo : FE} {g : FL} {apos cpos : Pos}
theorem je_append [F : Fits G X] (ho : JE G X W o fo) (ha : JA G X W (e :: es) g) (hbase : attributeBase o "append" X.env (eval o X.env) = eval o X.env := by rfl)
    (hfew : ((backTo cpos (starEach (e :: es) X.env)).all (fun x => !x.1) && (backToKw cpos (keywordEach [] X.env)).all (fun x => x.1.isSome)
      && decide ((e :: es).length + ([] : List Keyword).length + (if ([] : List Keyword).isEmpty then 0 else 1) < 30)) = true := by rfl)
    (hline : (apos.endLine == cpos.line) = true := by rfl) (hs : starEach (e :: es) X.env = (false, eval e X.env) :: starEach es X.env := by rfl) (hplain : (backTo cpos (starEach es X.env)).any (·.1) = false := by rfl) :
    JE G X W (.Call (.Attribute o "append" apos) (e :: es) [] cpos) (fMt isLs opAppend fo g) := je_mt ty_list PySem.F.plainAttrs_list PySem.F.slot_list_append PySem.F.type_list_append mt_append lnk_append ho ha hbase hfew hline hs hplain
theorem je_extend [F : Fits G X] (ho : JE G X W o fo) (ha : JA G X W (e :: es) g) (hbase : attributeBase o "extend" X.env (eval o X.env) = eval o X.env := by rfl)
    (hfew : ((backTo cpos (starEach (e :: es) X.env)).all (fun x => !x.1) && (backToKw cpos (keywordEach [] X.env)).all (fun x => x.1.isSome)
      && decide ((e :: es).length + ([] : List Keyword).length + (if ([] : List Keyword).isEmpty then 0 else 1) < 30)) = true := by rfl)
    (hline : (apos.endLine == cpos.line) = true := by rfl) (hs : starEach (e :: es) X.env = (false, eval e X.env) :: starEach es X.env := by rfl) (hplain : (backTo cpos (starEach es X.env)).any (·.1) = false := by rfl) :
    JE G X W (.Call (.Attribute o "extend" apos) (e :: es) [] cpos) (fMt isLs opExtend fo g) := je_mt ty_list PySem.F.plainAttrs_list PySem.F.slot_list_extend PySem.F.type_list_extend mt_extend lnk_extend ho ha hbase hfew hline hs hplain
theorem je_popAt [F : Fits G X] (ho : JE G X W o fo) (ha : JA G X W (e :: es) g) (hbase : attributeBase o "pop" X.env (eval o X.env) = eval o X.env := by rfl)
    (hfew : ((backTo cpos (starEach (e :: es) X.env)).all (fun x => !x.1) && (backToKw cpos (keywordEach [] X.env)).all (fun x => x.1.isSome)
      && decide ((e :: es).length + ([] : List Keyword).length + (if ([] : List Keyword).isEmpty then 0 else 1) < 30)) = true := by rfl)
    (hline : (apos.endLine == cpos.line) = true := by rfl) (hs : starEach (e :: es) X.env = (false, eval e X.env) :: starEach es X.env := by rfl) (hplain : (backTo cpos (starEach es X.env)).any (·.1) = false := by rfl) :
    JE G X W (.Call (.Attribute o "pop" apos) (e :: es) [] cpos) (fMt isLs opPopAt fo g) := je_mt ty_list PySem.F.plainAttrs_list PySem.F.slot_list_pop PySem.F.type_list_pop mt_popAt lnk_popAt ho ha hbase hfew hline hs hplain
theorem je_pop [F : Fits G X] (ho : JE G X W o fo) (hbase : attributeBase o "pop" X.env (eval o X.env) = eval o X.env := by rfl) (hline : (apos.endLine == cpos.line) = true := by rfl) :
    JE G X W (.Call (.Attribute o "pop" apos) [] [] cpos) (fMt0 isLs opPop fo) := je_mt0 ty_list PySem.F.plainAttrs_list PySem.F.slot_list_pop PySem.F.type_list_pop mt_pop lnk_pop ho hbase hline
theorem je_remove [F : Fits G X] (ho : JE G X W o fo) (ha : JA G X W (e :: es) g) (hbase : attributeBase o "remove" X.env (eval o X.env) = eval o X.env := by rfl)
    (hfew : ((backTo cpos (starEach (e :: es) X.env)).all (fun x => !x.1) && (backToKw cpos (keywordEach [] X.env)).all (fun x => x.1.isSome)
      && decide ((e :: es).length + ([] : List Keyword).length + (if ([] : List Keyword).isEmpty then 0 else 1) < 30)) = true := by rfl)
    (hline : (apos.endLine == cpos.line) = true := by rfl) (hs : starEach (e :: es) X.env = (false, eval e X.env) :: starEach es X.env := by rfl) (hplain : (backTo cpos (starEach es X.env)).any (·.1) = false := by rfl) :
    JE G X W (.Call (.Attribute o "remove" apos) (e :: es) [] cpos) (fMt isLs opRemove fo g) := je_mt ty_list PySem.F.plainAttrs_list PySem.F.slot_list_remove PySem.F.type_list_remove mt_remove lnk_remove ho ha hbase hfew hline hs hplain
theorem je_index [F : Fits G X] (ho : JE G X W o fo) (ha : JA G X W (e :: es) g) (hbase : attributeBase o "index" X.env (eval o X.env) = eval o X.env := by rfl)
    (hfew : ((backTo cpos (starEach (e :: es) X.env)).all (fun x => !x.1) && (backToKw cpos (keywordEach [] X.env)).all (fun x => x.1.isSome)
      && decide ((e :: es).length + ([] : List Keyword).length + (if ([] : List Keyword).isEmpty then 0 else 1) < 30)) = true := by rfl)
    (hline : (apos.endLine == cpos.line) = true := by rfl) (hs : starEach (e :: es) X.env = (false, eval e X.env) :: starEach es X.env := by rfl) (hplain : (backTo cpos (starEach es X.env)).any (·.1) = false := by rfl) :
    JE G X W (.Call (.Attribute o "index" apos) (e :: es) [] cpos) (fMt isLs opIndex fo g) := je_mt (r := rIndex X.K) ty_list PySem.F.plainAttrs_list PySem.F.slot_list_index PySem.F.type_list_index mt_index (F.K ▸ lnk_index) ho ha hbase hfew hline hs hplain
theorem je_countL [F : Fits G X] (ho : JE G X W o fo) (ha : JA G X W (e :: es) g) (hbase : attributeBase o "count" X.env (eval o X.env) = eval o X.env := by rfl)
    (hfew : ((backTo cpos (starEach (e :: es) X.env)).all (fun x => !x.1) && (backToKw cpos (keywordEach [] X.env)).all (fun x => x.1.isSome)
      && decide ((e :: es).length + ([] : List Keyword).length + (if ([] : List Keyword).isEmpty then 0 else 1) < 30)) = true := by rfl)
    (hline : (apos.endLine == cpos.line) = true := by rfl) (hs : starEach (e :: es) X.env = (false, eval e X.env) :: starEach es X.env := by rfl) (hplain : (backTo cpos (starEach es X.env)).any (·.1) = false := by rfl) :
    JE G X W (.Call (.Attribute o "count" apos) (e :: es) [] cpos) (fMt isLs opCntL fo g) := je_mt (r := rCntF X.K) ty_list PySem.F.plainAttrs_list PySem.F.slot_list_count PySem.F.type_list_count mt_cntF (F.K ▸ lnk_cntL) ho ha hbase hfew hline hs hplain
theorem je_countT [F : Fits G X] (ho : JE G X W o fo) (ha : JA G X W (e :: es) g) (hbase : attributeBase o "count" X.env (eval o X.env) = eval o X.env := by rfl)
    (hfew : ((backTo cpos (starEach (e :: es) X.env)).all (fun x => !x.1) && (backToKw cpos (keywordEach [] X.env)).all (fun x => x.1.isSome)
      && decide ((e :: es).length + ([] : List Keyword).length + (if ([] : List Keyword).isEmpty then 0 else 1) < 30)) = true := by rfl)
    (hline : (apos.endLine == cpos.line) = true := by rfl) (hs : starEach (e :: es) X.env = (false, eval e X.env) :: starEach es X.env := by rfl) (hplain : (backTo cpos (starEach es X.env)).any (·.1) = false := by rfl) :
    JE G X W (.Call (.Attribute o "count" apos) (e :: es) [] cpos) (fMt isTp opCntT fo g) := je_mt (r := rCntT X.K) ty_tup PySem.F.plainAttrs_tuple PySem.F.slot_tuple_count PySem.F.type_tuple_count mt_cntT (F.K ▸ lnk_cntT) ho ha hbase hfew hline hs hplain
theorem je_join [F : Fits G X] (ho : JE G X W o fo) (ha : JA G X W (e :: es) g) (hbase : attributeBase o "join" X.env (eval o X.env) = eval o X.env := by rfl)
    (hfew : ((backTo cpos (starEach (e :: es) X.env)).all (fun x => !x.1) && (backToKw cpos (keywordEach [] X.env)).all (fun x => x.1.isSome)
      && decide ((e :: es).length + ([] : List Keyword).length + (if ([] : List Keyword).isEmpty then 0 else 1) < 30)) = true := by rfl)
    (hline : (apos.endLine == cpos.line) = true := by rfl) (hs : starEach (e :: es) X.env = (false, eval e X.env) :: starEach es X.env := by rfl) (hplain : (backTo cpos (starEach es X.env)).any (·.1) = false := by rfl) :
    JE G X W (.Call (.Attribute o "join" apos) (e :: es) [] cpos) (fMt isSt opJoin fo g) := je_mt (r := rJoin X.K) ty_str PySem.F.plainAttrs_str PySem.F.slot_str_join PySem.F.type_str_join mt_join (F.K ▸ lnk_join) ho ha hbase hfew hline hs hplain
theorem jl_split [F : Fits G X] (ho : JE G X W o fo) (ha : JA G X W (e :: es) g) (hbase : attributeBase o "split" X.env (eval o X.env) = eval o X.env := by rfl)
    (hfew : ((backTo cpos (starEach (e :: es) X.env)).all (fun x => !x.1) && (backToKw cpos (keywordEach [] X.env)).all (fun x => x.1.isSome)
      && decide ((e :: es).length + ([] : List Keyword).length + (if ([] : List Keyword).isEmpty then 0 else 1) < 30)) = true := by rfl)
    (hline : (apos.endLine == cpos.line) = true := by rfl) (hs : starEach (e :: es) X.env = (false, eval e X.env) :: starEach es X.env := by rfl) (hplain : (backTo cpos (starEach es X.env)).any (·.1) = false := by rfl) :
    JL G X W (.Call (.Attribute o "split" apos) (e :: es) [] cpos) (fMtL isSt opSplit fo g) := jl_mt (r := rSplit) ty_str PySem.F.plainAttrs_str PySem.F.slot_str_split PySem.F.type_str_split mt_split lnk_split ho ha hbase hfew hline hs hplain
end
end Fx

/-! Fx12: items set, comprehensions by their target. -/
namespace Fx
open PySem PySem.Spec L2
def opSetL (o i d : D) (S : Sto) : Option Sto := match lstO o S, i with
  | some (n, xs), .int k => (match ixN xs.length k with
    | some j => some (S.set n (.lst (xs.set j d)))
    | none => none)
  | _, _ => none
theorem lnk_setL {G : Gm} : LnkSet G rSetL opSetL := by
  intro ρ η H S x y z u v w S' Q rs rx ry rz h k
  unfold opSetL at h
  split at h
  · rename_i n xs i hx
    split at h
    · rename_i j hj
      cases h
      obtain ⟨a, us, rfl, ha, e, hl, r⟩ := lstO_at rs rx hx
      rw [RD] at ry
      subst ry
      obtain ⟨ex, rs'⟩ := lst_write (us := us.set j w) rs ha e (by rw [List.length_set]; exact hl) (RDs.set rz j r)
      exact ⟨a, us, i, j, rfl, rfl, e, by rw [r.length]; exact hj, k _ ex rs'⟩
    · cases h
  · cases h
section
variable {G : Gm} {X : Cx} {W : WX}
theorem jg_setL {o i : Expr} {fo fi : FE} {pos : Pos} {W : WX} (ho : JE G X W o fo) (hi : JE G X W i fi)
    (ha : ∀ v, assign (.Subscript o i pos) X.env v = (do
      let ov ← holding [v] (eval o X.env)
      let iv ← holding [v, ov] (eval i X.env)
      standAt pos
      holding [v, ov, iv] (setItem ov iv v)
      release [v, ov, iv] []) := by intro _; rfl) : JG G X (.Subscript o i pos) (gSub opSetL fo fi) := jg_sub set_list lnk_setL ho hi ha
theorem pgs_nms {es : List Expr} {is : List Nat} {t : TGs} (h : PGs X es t) : PGs X es t := h
theorem jl_lcN (own : List (Str × Nat)) (i : Nat) {elt iter : Expr} {x : Str} {ifs : List Expr} {scope : Scope} {pos px : Pos} {fi : FI} {tt : FT} {te : FE} (hc : X.calm = true) (hN : X.N.Nodup) (hi : JI G X W (.Name x px) iter fi)
    (ht : ∀ (s : Shared) (H : Hp) (C : Addr) (cl : List (Str × Addr)) (fp : List Addr), JTs G (X.blk s H scope (compEnvC scope cl C X.env) fp) ifs tt)
    (he : ∀ (s : Shared) (H : Hp) (C : Addr) (cl : List (Str × Addr)) (fp : List Addr), JE G (X.blk s H scope (compEnvC scope cl C X.env) fp) W0 elt te)
    (ok : blkC X.N X.env.scope scope own = true := by rfl) (hx : X.N[i]? = some x := by rfl) (hl : locB (relabel scope X.env) x = true := by rfl) (hf : (relabel scope X.env).names.lookup x = some .local := by rfl) (hm : own.any (fun p => p.2 == i) = true := by rfl)
    (hs : ∀ x, foldedSetIterable iter X.env x = pure x := by intro _; rfl) : JL G X W (.ListComp elt [⟨.Name x px, iter, ifs, 0⟩] scope pos) (fLc (own.map (·.2)) fi (gNm i) tt te) := by
  have hmem : i ∈ own.map (·.2) := by
    obtain ⟨p, hp, e⟩ := List.any_eq_true.mp hm
    have e' : p.2 = i := by simpa using e
    exact List.mem_map.mpr ⟨p, hp, e'⟩
  exact jl_lc own hc hN hi ok (fun s H C cl fp => pg_name hN hx (loc_of hl) (.inr hf)) (own_name _ i hmem) gNm_keep ht he hs
theorem js_setLcN (own : List (Str × Nat)) (i k : Nat) {fi : FI} {tt : FT} {te : FE} {y : Str} {spos py : Pos} {ff : FE} (hff : ∀ σ H Q, LE G W ff σ H Q → LL G W (fLc (own.map (·.2)) fi (gNm i) tt te) σ H Q) {elt iter : Expr} {x : Str} {ifs : List Expr} {scope : Scope} {pos px : Pos} (hc : X.calm = true) (hN : X.N.Nodup) (hi : JI G X W (.Name x px) iter fi)
    (ht : ∀ (s : Shared) (H : Hp) (C : Addr) (cl : List (Str × Addr)) (fp : List Addr), JTs G (X.blk s H scope (compEnvC scope cl C X.env) fp) ifs tt)
    (he : ∀ (s : Shared) (H : Hp) (C : Addr) (cl : List (Str × Addr)) (fp : List Addr), JE G (X.blk s H scope (compEnvC scope cl C X.env) fp) W0 elt te)
    (ok : blkC X.N X.env.scope scope own = true := by rfl) (hx : X.N[i]? = some x := by rfl) (hl : locB (relabel scope X.env) x = true := by rfl) (hf : (relabel scope X.env).names.lookup x = some .local := by rfl) (hm : own.any (fun p => p.2 == i) = true := by rfl)
    (hy : X.N[k]? = some y := by rfl) (hyl : X.env.scope.names.lookup y = some .local := by rfl) (hsw : swapsWith (.ListComp elt [⟨.Name x px, iter, ifs, 0⟩] scope pos) (some (.Name y py)) spos.line X.env = pure true := by rfl)
    (hs : ∀ x, foldedSetIterable iter X.env x = pure x := by intro _; rfl) : JS G X W (.Assign [.Name y py] (.ListComp elt [⟨.Name x px, iter, ifs, 0⟩] scope pos) spos) (sAsg (gNm k) ff) := by
  have hmem : i ∈ own.map (·.2) := by
    obtain ⟨p, hp, e⟩ := List.any_eq_true.mp hm
    have e' : p.2 = i := by simpa using e
    exact List.mem_map.mpr ⟨p, hp, e'⟩
  exact js_setLc own k hc hN hi ok (fun s H C cl fp => pg_name hN hx (loc_of hl) (.inr hf)) (own_name _ i hmem) gNm_keep ht he hy hyl hsw hs hff
/-- names of a tuple target -/
def nmsOk (N : List Str) (sc : Scope) (own : List (Str × Nat)) : List Expr → List Nat → Bool
  | [], [] => true
  | .Name x _ :: es, i :: is => decide (N[i]? = some x) && (locB sc x && (decide (sc.names.lookup x = some .local) && (own.any (fun p => p.2 == i) && nmsOk N sc own es is)))
  | _, _ => false
theorem nms_pg (hN : X.N.Nodup) {own : List (Str × Nat)} : ∀ (es : List Expr) (is : List Nat), nmsOk X.N X.env.scope own es is = true → (∀ (e : Expr) (es : List Expr), (∃ x p, e = .Name x p) → (assignEach (e :: es) X.env).map (·.2) = assign e X.env :: (assignEach es X.env).map (·.2)) → PGs X es (tgNs is) ∧ ∀ i ∈ is, i ∈ own.map (·.2)
  | [], [], _, _ => ⟨pgs_nil, fun _ h => nomatch h⟩
  | .Name x p :: es, i :: is, h, k => by
    unfold nmsOk at h
    simp only [Bool.and_eq_true, decide_eq_true_eq] at h
    obtain ⟨h1, h2, h3, h4, h5⟩ := h
    obtain ⟨r1, r2⟩ := nms_pg hN es is h5 k
    refine ⟨pgs_cons (pg_name hN h1 (loc_of h2) (.inr h3)) r1 (k _ _ ⟨x, p, rfl⟩), fun j hj => ?_⟩
    rcases List.mem_cons.mp hj with e | hj
    · subst e
      obtain ⟨q, hq, e⟩ := List.any_eq_true.mp h4
      have e' : q.2 = j := by simpa using e
      exact List.mem_map.mpr ⟨q, hq, e'⟩
    · exact r2 j hj
theorem jl_lcT [F : Fits G X] (own : List (Str × Nat)) (is : List Nat) (n : Nat) {elt iter : Expr} {es : List Expr} {k : Nat} {ifs : List Expr} {scope : Scope} {pos px : Pos} {fi : FI} {tt : FT} {te : FE} (hc : X.calm = true) (hN : X.N.Nodup) (hi : JI G X W (.Tuple es k px) iter fi)
    (ht : ∀ (s : Shared) (H : Hp) (C : Addr) (cl : List (Str × Addr)) (fp : List Addr), JTs G (X.blk s H scope (compEnvC scope cl C X.env) fp) ifs tt)
    (he : ∀ (s : Shared) (H : Hp) (C : Addr) (cl : List (Str × Addr)) (fp : List Addr), JE G (X.blk s H scope (compEnvC scope cl C X.env) fp) W0 elt te)
    (ok : blkC X.N X.env.scope scope own = true := by rfl) (hm : nmsOk X.N (relabel scope X.env) own es is = true := by rfl) (hn : es.length = n := by rfl)
    (hs : ∀ x, foldedSetIterable iter X.env x = pure x := by intro _; rfl) : JL G X W (.ListComp elt [⟨.Tuple es k px, iter, ifs, 0⟩] scope pos) (fLc (own.map (·.2)) fi (gTp n (gNs is)) tt te) := by
  have aE : ∀ (env : Env) (e : Expr) (es : List Expr), (∃ x p, e = .Name x p) → (assignEach (e :: es) env).map (·.2) = assign e env :: (assignEach es env).map (·.2) := fun env e es ⟨x, p, z⟩ => by subst z; rfl
  have len : ∀ (env : Env) (es : List Expr) (is : List Nat) (N sc own), nmsOk N sc own es is = true → (assignEach es env).length = es.length ∧ (assignEach es env).findIdx? (·.1) = none := by
    intro env es
    induction es with
    | nil => exact fun _ _ _ _ _ => ⟨rfl, rfl⟩
    | cons e es ih =>
      intro is N sc own h
      cases e with
      | Name x p =>
        cases is with
        | nil => cases h
        | cons i is =>
          unfold nmsOk at h
          simp only [Bool.and_eq_true] at h
          obtain ⟨r1, r2⟩ := ih is N sc own h.2.2.2.2
          have e1 : assignEach (.Name x p :: es) env = (false, assign (.Name x p) env) :: assignEach es env := rfl
          rw [e1]
          refine ⟨by rw [List.length_cons, List.length_cons, r1], ?_⟩
          rw [List.findIdx?_cons]
          show (if false = true then some 0 else _) = none
          rw [if_neg Bool.false_ne_true, r2]
          rfl
      | _ => cases is <;> cases h
  have mem : ∀ i ∈ is, i ∈ own.map (·.2) := by
    have : ∀ (es : List Expr) (is : List Nat) N sc, nmsOk N sc own es is = true → ∀ i ∈ is, i ∈ own.map (·.2) := by
      intro es
      induction es with
      | nil => intro is N sc h; cases is with
        | nil => exact fun _ h => nomatch h
        | cons => cases h
      | cons e es ih =>
        intro is N sc h
        cases e with
        | Name x p =>
          cases is with
          | nil => cases h
          | cons i is =>
            unfold nmsOk at h
            simp only [Bool.and_eq_true] at h
            intro j hj
            rcases List.mem_cons.mp hj with e | hj
            · subst e
              obtain ⟨q, hq, e⟩ := List.any_eq_true.mp h.2.2.2.1
              have e' : q.2 = j := by simpa using e
              exact List.mem_map.mpr ⟨q, hq, e'⟩
            · exact ih is N sc h.2.2.2.2 j hj
        | _ => cases is <;> cases h
    exact this es is _ _ hm
  refine jl_lc own hc hN hi ok (fun s H C cl fp => ?_) (own_tup _ is mem) gTp_keep ht he hs
  have hm' : nmsOk (X.blk s H scope (compEnvC scope cl C X.env) fp).N (X.blk s H scope (compEnvC scope cl C X.env) fp).env.scope own es is = true := hm
  obtain ⟨l1, l2⟩ := len (X.blk s H scope (compEnvC scope cl C X.env) fp).env es is _ _ _ hm'
  rw [F.K]
  exact pg_tup hc (nms_pg (X := X.blk s H scope (compEnvC scope cl C X.env) fp) hN es is hm' fun e es z => aE _ e es z).1 (l1.trans hn) l2
theorem js_setLcT [F : Fits G X] (own : List (Str × Nat)) (is : List Nat) (n kk : Nat) {fi : FI} {tt : FT} {te : FE} {y : Str} {spos py : Pos} {ff : FE} (hff : ∀ σ H Q, LE G W ff σ H Q → LL G W (fLc (own.map (·.2)) fi (gTp n (gNs is)) tt te) σ H Q) {elt iter : Expr} {es : List Expr} {k : Nat} {ifs : List Expr} {scope : Scope} {pos px : Pos} (hc : X.calm = true) (hN : X.N.Nodup) (hi : JI G X W (.Tuple es k px) iter fi)
    (ht : ∀ (s : Shared) (H : Hp) (C : Addr) (cl : List (Str × Addr)) (fp : List Addr), JTs G (X.blk s H scope (compEnvC scope cl C X.env) fp) ifs tt)
    (he : ∀ (s : Shared) (H : Hp) (C : Addr) (cl : List (Str × Addr)) (fp : List Addr), JE G (X.blk s H scope (compEnvC scope cl C X.env) fp) W0 elt te)
    (ok : blkC X.N X.env.scope scope own = true := by rfl) (hm : nmsOk X.N (relabel scope X.env) own es is = true := by rfl) (hn : es.length = n := by rfl)
    (hy : X.N[kk]? = some y := by rfl) (hyl : X.env.scope.names.lookup y = some .local := by rfl) (hsw : swapsWith (.ListComp elt [⟨.Tuple es k px, iter, ifs, 0⟩] scope pos) (some (.Name y py)) spos.line X.env = pure true := by rfl)
    (hs : ∀ x, foldedSetIterable iter X.env x = pure x := by intro _; rfl) : JS G X W (.Assign [.Name y py] (.ListComp elt [⟨.Tuple es k px, iter, ifs, 0⟩] scope pos) spos) (sAsg (gNm kk) ff) := by
  have aE : ∀ (env : Env) (e : Expr) (es : List Expr), (∃ x p, e = .Name x p) → (assignEach (e :: es) env).map (·.2) = assign e env :: (assignEach es env).map (·.2) := fun env e es ⟨x, p, z⟩ => by subst z; rfl
  have len : ∀ (env : Env) (es : List Expr) (is : List Nat) (N sc own), nmsOk N sc own es is = true → (assignEach es env).length = es.length ∧ (assignEach es env).findIdx? (·.1) = none := by
    intro env es
    induction es with
    | nil => exact fun _ _ _ _ _ => ⟨rfl, rfl⟩
    | cons e es ih =>
      intro is N sc own h
      cases e with
      | Name x p =>
        cases is with
        | nil => cases h
        | cons i is =>
          unfold nmsOk at h
          simp only [Bool.and_eq_true] at h
          obtain ⟨r1, r2⟩ := ih is N sc own h.2.2.2.2
          have e1 : assignEach (.Name x p :: es) env = (false, assign (.Name x p) env) :: assignEach es env := rfl
          rw [e1]
          refine ⟨by rw [List.length_cons, List.length_cons, r1], ?_⟩
          rw [List.findIdx?_cons]
          show (if false = true then some 0 else _) = none
          rw [if_neg Bool.false_ne_true, r2]
          rfl
      | _ => cases is <;> cases h
  have mem : ∀ i ∈ is, i ∈ own.map (·.2) := by
    have : ∀ (es : List Expr) (is : List Nat) N sc, nmsOk N sc own es is = true → ∀ i ∈ is, i ∈ own.map (·.2) := by
      intro es
      induction es with
      | nil => intro is N sc h; cases is with
        | nil => exact fun _ h => nomatch h
        | cons => cases h
      | cons e es ih =>
        intro is N sc h
        cases e with
        | Name x p =>
          cases is with
          | nil => cases h
          | cons i is =>
            unfold nmsOk at h
            simp only [Bool.and_eq_true] at h
            intro j hj
            rcases List.mem_cons.mp hj with e | hj
            · subst e
              obtain ⟨q, hq, e⟩ := List.any_eq_true.mp h.2.2.2.1
              have e' : q.2 = j := by simpa using e
              exact List.mem_map.mpr ⟨q, hq, e'⟩
            · exact ih is N sc h.2.2.2.2 j hj
        | _ => cases is <;> cases h
    exact this es is _ _ hm
  refine js_setLc own kk hc hN hi ok (fun s H C cl fp => ?_) (own_tup _ is mem) gTp_keep ht he hy hyl hsw hs hff
  have hm' : nmsOk (X.blk s H scope (compEnvC scope cl C X.env) fp).N (X.blk s H scope (compEnvC scope cl C X.env) fp).env.scope own es is = true := hm
  obtain ⟨l1, l2⟩ := len (X.blk s H scope (compEnvC scope cl C X.env) fp).env es is _ _ _ hm'
  rw [F.K]
  exact pg_tup hc (nms_pg (X := X.blk s H scope (compEnvC scope cl C X.env) fp) hN es is hm' fun e es z => aE _ e es z).1 (l1.trans hn) l2
end
end Fx

/-! Fx13: the head's facts, the end. -/
namespace Fx
open PySem PySem.Spec L2

/-- a written table of ints by texts, looked at -/
def tabB (K : PySem.W.Frag) (x : Str) (kvs : List (Str × Int)) : Bool := match K.lookup (He.ga K x) with
  | some ⟨_, _, .dict es _, _⟩ => (es.toList.all fun e => kvs.any fun p => e.key.isStr p.1) && kvs.all fun p => (match PySem.W.nsIn K (He.ga K x) p.1 with
    | some (some (.int j _)) => decide (j = p.2)
    | _ => false)
  | _ => false
theorem look_mem {z : Str} {i : Int} : ∀ {kvs : List (Str × Int)}, kvs.lookup z = some i → (z, i) ∈ kvs
  | (y, j) :: r, h => by
    rw [List.lookup_cons] at h
    split at h
    · rename_i e
      have e' : z = y := eq_of_beq e
      cases h
      subst e'
      exact List.mem_cons_self
    · exact List.mem_cons_of_mem _ (look_mem h)
theorem look_no {z : Str} : ∀ {kvs : List (Str × Int)}, kvs.lookup z = none → ∀ p ∈ kvs, p.1 ≠ z
  | (y, j) :: r, h, p, hp => by
    rw [List.lookup_cons] at h
    split at h
    · cases h
    · rename_i e
      rcases List.mem_cons.mp hp with rfl | hp
      · exact fun q => by
          have e2 : (z == y) = true := by rw [← q]; exact beq_self_eq_true _
          rw [e2] at e
          cases e
      · exact look_no h p hp
theorem tabAt_of {P : Program} {w : World} {K : PySem.W.Frag} {mg : Str → Option Value} {cl : Nat → Addr} {tb : List (Addr × Str)} {x : Str} {kvs : List (Str × Int)} (b : tabB K x kvs = true) (hm : mg x = some (.ref (He.ga K x))) (kd : ∃ es n, KDict K w (He.ga K x) es n) : TabAt ⟨P, w, K, cl, tb⟩ mg x kvs := by
  obtain ⟨es, n, kd⟩ := kd
  refine ⟨He.ga K x, es, n, hm, kd, fun z => ?_⟩
  unfold tabB at b
  rw [kd.at_] at b
  dsimp only at b
  rw [Bool.and_eq_true] at b
  obtain ⟨b1, b2⟩ := b
  cases hl : kvs.lookup z with
  | some i =>
    have h := List.all_eq_true.mp b2 _ (look_mem hl)
    dsimp only at h ⊢
    split at h
    · rename_i j t e
      exact ⟨_, e, t, by rw [of_decide_eq_true h]⟩
    · cases h
  | none =>
    dsimp only
    unfold PySem.W.nsIn
    show (match K.lookup (He.ga K x) with
      | some ⟨_, _, .dict es _, _⟩ => (match es.toList.find? (·.key.isStr z) with
          | some e => some (some e.val)
          | none => if es.toList.any (·.refKey) then none else some none)
      | _ => none) = some none
    rw [kd.at_]
    dsimp only
    have h1 : es.toList.find? (·.key.isStr z) = none := by
      rw [List.find?_eq_none]
      intro e he q
      obtain ⟨p, hp, hq⟩ := List.any_eq_true.mp (List.all_eq_true.mp b1 e he)
      have hne := look_no hl p hp
      cases hk : e.key with
      | str y t =>
        rw [hk] at q hq
        have q1 : y = z := by simpa [Value.isStr] using q
        have q2 : y = p.1 := by simpa [Value.isStr] using hq
        exact hne (q2.symm.trans q1)
      | _ => rw [hk] at q; simp [Value.isStr] at q
    have h2 : es.toList.any (·.refKey) = false := by
      rw [List.any_eq_false]
      intro e he q
      obtain ⟨p, hp, hq⟩ := List.any_eq_true.mp (List.all_eq_true.mp b1 e he)
      cases hk : e.key with
      | str y t =>
        unfold DictEntry.refKey at q
        rw [hk] at q
        cases q
      | _ => rw [hk] at hq; simp [Value.isStr] at hq
    rw [h1]
    dsimp only
    rw [h2]
    rfl
/-- what the head wants of the law's def -/
theorem law_sp {G : Gm} {f : FF} (h : ∀ ns : List Int, ns.length ≤ 63 → ∃ S, f [.scr (ns.map D.int)] [] = .ok (.bl true) S) (H : Hp) (a : Addr) (ns : List Int) (hl : ns.length ≤ 63) (hS : SqL G.K H a (ns.map V.int)) (hT : LamX.Tabs G.tb H) :
    spF G 1 f [.ref a] H (fun v _ => v = .bl true) fun _ _ _ => False := by
  obtain ⟨S, hf⟩ := h ns hl
  have hints : ∀ ns : List Int, RDs G [] [] H (ns.map D.int) (ns.map V.int) := by
    intro ns
    induction ns with
    | nil => exact RDs.nil
    | cons n ns ih => exact RDs.cons (by rw [RD]) ih
  refine ⟨[], [], [.scr (ns.map D.int)], [], rfl, RDs.cons ?_ RDs.nil, ?_, ?_⟩
  · rw [RD]
    refine ⟨a, ns.map V.int, rfl, ?_, by rw [List.length_map]; exact Nat.le_trans hl (by decide), hints ns⟩
    rcases hS with hS | hS
    · exact .inl ⟨hS, by simp, by simp⟩
    · exact .inr hS
  · exact ⟨rfl, by simp, by simp, by simp, fun n a o h => by simp at h, hT⟩
  · rw [hf]
    intro ρ' H' v e rs rd
    rw [RD] at rd
    exact rd
theorem cx_no {P : Program} {w : World} (H : Hp) (s : Shared) (e : Value) (s' : Shared) (h : L2.CX P w [] H s (fun _ _ _ => False) e s') : False := by
  obtain ⟨a, B, H', cls, d, _, _, _, _, _, _, _, h⟩ := h
  exact h
/-- of every world -/
def CXw (P : Program) : CXT := fun outer H s E e s' => ∃ w, L2.CX P w outer H s E e s'
theorem cxw_no {P : Program} (H : Hp) (s : Shared) (e : Value) (s' : Shared) (h : CXw P [] H s (fun _ _ _ => False) e s') : False := by
  obtain ⟨w, h⟩ := h
  exact cx_no H s e s' h
theorem fn_cxw {P : Program} {w : World} {K : PySem.W.Frag} {mg : Str → Option Value} {base : Heap} {k : Nat} {f : Addr} {fd : FuncData} {ps : List Str} {sp : Sp} (F : FnOk P w K mg base (L2.CX P w) k f fd ps sp) : FnOk P w K mg base (CXw P) k f fd ps sp := by
  refine ⟨F.len, fun A outer s H args us vs Q E hr he hb hv hs => codeAny_mono (F.run A outer s H args us vs Q E hr he hb hv hs) fun r s' hq => ?_⟩
  cases r with
  | error e => exact ⟨w, hq⟩
  | ok fl => cases fl <;> exact hq
end Fx

/-! Fx14: the functions, computed. -/
namespace Fx
open PySem PySem.Spec L2
/-- an answer that may lack -/
def liftO {α : Type} (o : Option α) (S : Sto) : Out α := match o with
  | some d => .ok d S
  | none => .stuck
@[simp] theorem liftO_some {α : Type} {d : α} {S : Sto} : liftO (some d) S = .ok d S := rfl
def liftP (o : Option (D × Sto)) : Out D := match o with
  | some (d, S) => .ok d S
  | none => .stuck
@[simp] theorem liftP_some {d : D} {S : Sto} : liftP (some (d, S)) = .ok d S := rfl
def liftG (o : Option (Sl × Sto)) : OutS := match o with
  | some (σ, S) => .nx σ S
  | none => .stuck
@[simp] theorem liftG_some {σ : Sl} {S : Sto} : liftG (some (σ, S)) = .nx σ S := rfl
def OutS.andThen (o : OutS) (q : FS) : OutS := match o with
  | .nx σ' S' => q σ' S'
  | .rt d S' => .rt d S'
  | .bk σ' S' => .bk σ' S'
  | .ct σ' S' => .ct σ' S'
  | .exc x σ' S' => .exc x σ' S'
  | .stuck => .stuck
@[simp] theorem then_nx {σ : Sl} {S : Sto} {q : FS} : (OutS.nx σ S).andThen q = q σ S := rfl
@[simp] theorem then_rt {d : D} {S : Sto} {q : FS} : (OutS.rt d S).andThen q = .rt d S := rfl
@[simp] theorem then_bk {σ : Sl} {S : Sto} {q : FS} : (OutS.bk σ S).andThen q = .bk σ S := rfl
@[simp] theorem then_ct {σ : Sl} {S : Sto} {q : FS} : (OutS.ct σ S).andThen q = .ct σ S := rfl
@[simp] theorem then_exc {x : Exc} {σ : Sl} {S : Sto} {q : FS} : (OutS.exc x σ S).andThen q = .exc x σ S := rfl
def OutS.fin (o : OutS) : Out D := match o with
  | .nx _ S' => .ok .non S'
  | .rt d S' => .ok d S'
  | .exc x _ S' => .exc x S'
  | _ => .stuck
@[simp] theorem fin_nx {σ : Sl} {S : Sto} : (OutS.nx σ S).fin = .ok .non S := rfl
@[simp] theorem fin_rt {d : D} {S : Sto} : (OutS.rt d S).fin = .ok d S := rfl
@[simp] theorem fin_exc {x : Exc} {σ : Sl} {S : Sto} : (OutS.exc x σ S).fin = .exc x S := rfl
def optS (o : Option Sto) (σ : Sl) : Option (Sl × Sto) := o.bind fun S => some (σ, S)
@[simp] theorem optS_some {σ : Sl} {S : Sto} : optS (some S) σ = some (σ, S) := rfl
def Out.g {α : Type} (o : Out α) (k : α → Sto → Option (Sl × Sto)) : Option (Sl × Sto) := match o with
  | .ok d S => k d S
  | _ => none
@[simp] theorem g_ok {α : Type} {d : α} {S : Sto} {k : α → Sto → Option (Sl × Sto)} : (Out.ok d S).g k = k d S := rfl
def gBind (o : Option (Sl × Sto)) (k : Sl → Sto → Option (Sl × Sto)) : Option (Sl × Sto) := o.bind fun x => k x.1 x.2
@[simp] theorem gBind_some {σ : Sl} {S : Sto} {k : Sl → Sto → Option (Sl × Sto)} : gBind (some (σ, S)) k = k σ S := rfl
/-! each continuation has a name: simp works the parts off from the left -/
section
variable {β : Type}
def kBin2 (op : D → D → Sto → Option D) (x y : D) (S : Sto) : Out D := liftO (op x y S) S
def kBin1 (op : D → D → Sto → Option D) (fb : FE) (σ : Sl) (x : D) (S : Sto) : Out D := (fb σ S).bind (kBin2 op x)
def kUn (op : D → Sto → Option D) (x : D) (S : Sto) : Out D := liftO (op x S) S
def kCh3 (op : D → D → Sto → Option D) (y z : D) (S : Sto) : Out D := liftO (op y z S) S
def kCh2' (op' : D → D → Sto → Option D) (fc : FE) (σ : Sl) (y d : D) (S : Sto) : Out D := match d with
  | .bl true => (fc σ S).bind (kCh3 op' y)
  | .bl false => .ok (.bl false) S
  | _ => .stuck
def kCh2 (op op' : D → D → Sto → Option D) (fc : FE) (σ : Sl) (x y : D) (S : Sto) : Out D := (liftO (op x y S) S).bind (kCh2' op' fc σ y)
def kCh1 (op op' : D → D → Sto → Option D) (fb fc : FE) (σ : Sl) (x : D) (S : Sto) : Out D := (fb σ S).bind (kCh2 op op' fc σ x)
def kTest (d : D) (S : Sto) : Out Bool := match d with
  | .bl b => .ok b S
  | _ => .stuck
def kAndT (u : FT) (σ : Sl) (b : Bool) (S : Sto) : Out Bool := match b with
  | true => u σ S
  | false => .ok false S
def kOrT (u : FT) (σ : Sl) (b : Bool) (S : Sto) : Out Bool := match b with
  | true => .ok true S
  | false => u σ S
def kNotT (b : Bool) (S : Sto) : Out Bool := .ok (!b) S
def kAnd (g : FE) (σ : Sl) (d : D) (S : Sto) : Out D := match d with
  | .bl true => g σ S
  | .bl false => .ok (.bl false) S
  | _ => .stuck
def kOr (g : FE) (σ : Sl) (d : D) (S : Sto) : Out D := match d with
  | .bl true => .ok (.bl true) S
  | .bl false => g σ S
  | _ => .stuck
def kNot (d : D) (S : Sto) : Out D := match d with
  | .bl b => .ok (.bl (!b)) S
  | _ => .stuck
def kIf (f g : FE) (σ : Sl) (b : Bool) (S : Sto) : Out D := match b with
  | true => f σ S
  | false => g σ S
def kCons2 (d : D) (ds : List D) (S : Sto) : Out (List D) := .ok (d :: ds) S
def kCons1 (gl : FL) (σ : Sl) (d : D) (S : Sto) : Out (List D) := (gl σ S).bind (kCons2 d)
def kTup (ds : List D) (S : Sto) : Out D := if tooMany ds.length then .stuck else .ok (.tup ds) S
def kLst (ds : List D) (S : Sto) : Out D := .ok (.lst ds) S
def kNew (ds : List D) (S : Sto) : Out D := .ok (.ref S.length) (S ++ [.lst ds])
def kDisp (ds : List D) (S : Sto) : Out (List D) := if tooMany ds.length then .stuck else .ok ds S
def kBi (op : List D → Sto → Option β) (ds : List D) (S : Sto) : Out β := liftO (op ds S) S
def kMt2 (op : OpM) (x : D) (ds : List D) (S : Sto) : Out D := liftP (op x ds S)
def kMt1 (ty : D → Sto → Bool) (op : OpM) (gl : FL) (σ : Sl) (x : D) (S : Sto) : Out D := if ty x S = true then (gl σ S).bind (kMt2 op x) else .stuck
def kMt0 (ty : D → Sto → Bool) (op : OpM) (x : D) (S : Sto) : Out D := if ty x S = true then liftP (op x [] S) else .stuck
def kMtL2 (op : OpMN) (x : D) (ds : List D) (S : Sto) : Out (List D) := liftO (op x ds S) S
def kMtL1 (ty : D → Sto → Bool) (op : OpMN) (gl : FL) (σ : Sl) (x : D) (S : Sto) : Out (List D) := if ty x S = true then (gl σ S).bind (kMtL2 op x) else .stuck
def kPart (d : D) (S : Sto) : Out (Option Int) := match d with
  | .int i => .ok (some i) S
  | _ => .stuck
def kSl3 (x : D) (lo hi : Option Int) (S : Sto) : Out D := liftO (opSl x lo hi S) S
def kSl2 (fh : FO) (σ : Sl) (x : D) (lo : Option Int) (S : Sto) : Out D := (fh σ S).bind (kSl3 x lo)
def kSl1 (fl fh : FO) (σ : Sl) (x : D) (S : Sto) : Out D := (fl σ S).bind (kSl2 fh σ x)
def kIsi (T : Ty) (d : D) (S : Sto) : Out D := liftO ((tyN d S).map fun t => D.bl (t.is T)) S
def kTabIx (kvs : List (Str × Int)) (d : D) (S : Sto) : Out D := match d with
  | .str z => liftO ((kvs.lookup z).map D.int) S
  | _ => .stuck
def kTabIn (neg : Bool) (kvs : List (Str × Int)) (d : D) (S : Sto) : Out D := match d with
  | .str z => .ok (.bl ((kvs.lookup z).isSome != neg)) S
  | _ => .stuck
def kRevS (d : D) (S : Sto) : Out D := match d with
  | .str z => if tooMany z.cps.size = true then .stuck else .ok (.str (revStr z)) S
  | _ => .stuck
def kExpr (σ : Sl) (_ : D) (S : Sto) : OutS := .nx σ S
def kRet (d : D) (S : Sto) : OutS := .rt d S
def kIfS (p q : FS) (σ : Sl) (b : Bool) (S : Sto) : OutS := match b with
  | true => p σ S
  | false => q σ S
def kAsg (G : FG) (σ : Sl) (d : D) (S : Sto) : OutS := liftG (G d σ S)
def kPar2 (i j : Nat) (σ : Sl) (ds : List D) (S : Sto) : OutS := match ds with
  | [d, e] => .nx ((σ.set i (some d)).set j (some e)) S
  | _ => .stuck
def kPar3 (i j k : Nat) (σ : Sl) (ds : List D) (S : Sto) : OutS := match ds with
  | [d, e, f] => .nx (((σ.set i (some d)).set j (some e)).set k (some f)) S
  | _ => .stuck
def kAug2 (i : Nat) (op : D → D → Sto → Option (D × Sto)) (σ : Sl) (x y : D) (S : Sto) : OutS := (liftP (op x y S)).bindS σ fun d S2 => .nx (σ.set i (some d)) S2
def kAug (i : Nat) (op : D → D → Sto → Option (D × Sto)) (f : FE) (σ : Sl) (S : Sto) (x : Option D) : OutS := match x with
  | some x => (f σ S).bindS σ (kAug2 i op σ x)
  | none => .stuck
def kFor (G : FG) (p : FS) (σ : Sl) (it : ItD) (S : Sto) : OutS := loopF G p (okLive it) it.items σ S
def kSub2 (op : D → D → D → Sto → Option Sto) (d o : D) (σ : Sl) (i : D) (S : Sto) : Option (Sl × Sto) := optS (op o i d S) σ
def kSub1 (op : D → D → D → Sto → Option Sto) (g : FE) (d : D) (σ : Sl) (o : D) (S : Sto) : Option (Sl × Sto) := (g σ S).g (kSub2 op d o σ)
def kIt (d : D) (S : Sto) : Out ItD := liftO (itOf d S) S
def kEnum (ds : List D) (S : Sto) : Out ItD := match ds with
  | [d] => liftO ((srcD d S).map fun p => ⟨enumD p.1, p.2⟩) S
  | _ => .stuck
def kZip (ds : List D) (S : Sto) : Out ItD := match ds with
  | [d, e] => liftO ((srcD d S).bind fun p => (srcD e S).map fun q => ⟨p.1.zipWith (fun x y => .tup [x, y]) q.1, p.2 ++ q.2⟩) S
  | _ => .stuck
def kR1 (ds : List D) (S : Sto) : Out ItD := match ds with
  | [.int j] => if tooMany j.natAbs then .stuck else .ok ⟨rngD 0 j.toNat, []⟩ S
  | _ => .stuck
def kR2 (ds : List D) (S : Sto) : Out ItD := match ds with
  | [.int i, .int j] => if (tooMany (j - i).toNat || (tooMany i.natAbs || tooMany j.natAbs)) = true then .stuck else .ok ⟨rngD i (j - i).toNat, []⟩ S
  | _ => .stuck
def kLc (own : List Nat) (G : FG) (t : FT) (f : FE) (σ : Sl) (it : ItD) (S : Sto) : Out (List D) := lcF own G t f (okLive it) it.items σ S
end
section
variable {σ : Sl} {S : Sto} {d e : D} {f g fa fb fc : FE} {t u : FT} {gl : FL} {i j k : Nat}
@[simp] theorem xVar : fVar i σ S = liftO ((σ[i]?).join) S := by
  show (match σ[i]? with | some (some d) => Out.ok d S | _ => .stuck) = _
  cases σ[i]? with
  | none => rfl
  | some o => cases o <;> rfl
@[simp] theorem xC : fC d σ S = .ok d S := rfl
variable {x y z : D} {b : Bool} {ds : List D} {op op' : D → D → Sto → Option D} {β : Type} {p q : FS} {G : FG} {a c : Int} {w : Str}
@[simp] theorem kBin2_ : kBin2 op x y S = liftO (op x y S) S := rfl
@[simp] theorem kBin1_ : kBin1 op fb σ x S = (fb σ S).bind (kBin2 op x) := rfl
@[simp] theorem kUn_ {o1 : D → Sto → Option D} : kUn o1 x S = liftO (o1 x S) S := rfl
@[simp] theorem kCh3_ : kCh3 op y z S = liftO (op y z S) S := rfl
@[simp] theorem kCh2t : kCh2' op' fc σ y (.bl true) S = (fc σ S).bind (kCh3 op' y) := rfl
@[simp] theorem kCh2f : kCh2' op' fc σ y (.bl false) S = .ok (.bl false) S := rfl
@[simp] theorem kCh2_ : kCh2 op op' fc σ x y S = (liftO (op x y S) S).bind (kCh2' op' fc σ y) := rfl
@[simp] theorem kCh1_ : kCh1 op op' fb fc σ x S = (fb σ S).bind (kCh2 op op' fc σ x) := rfl
@[simp] theorem kTest_ : kTest (.bl b) S = .ok b S := rfl
@[simp] theorem kAndTt : kAndT u σ true S = u σ S := rfl
@[simp] theorem kAndTf : kAndT u σ false S = .ok false S := rfl
@[simp] theorem kOrTt : kOrT u σ true S = .ok true S := rfl
@[simp] theorem kOrTf : kOrT u σ false S = u σ S := rfl
@[simp] theorem kNotT_ : kNotT b S = .ok (!b) S := rfl
@[simp] theorem kAndt : kAnd g σ (.bl true) S = g σ S := rfl
@[simp] theorem kAndf : kAnd g σ (.bl false) S = .ok (.bl false) S := rfl
@[simp] theorem kOrt : kOr g σ (.bl true) S = .ok (.bl true) S := rfl
@[simp] theorem kOrf : kOr g σ (.bl false) S = g σ S := rfl
@[simp] theorem kNot_ : kNot (.bl b) S = .ok (.bl (!b)) S := rfl
@[simp] theorem kIft : kIf f g σ true S = f σ S := rfl
@[simp] theorem kIff : kIf f g σ false S = g σ S := rfl
@[simp] theorem kCons2_ : kCons2 d ds S = .ok (d :: ds) S := rfl
@[simp] theorem kCons1_ : kCons1 gl σ d S = (gl σ S).bind (kCons2 d) := rfl
@[simp] theorem kTup_ : kTup ds S = if tooMany ds.length then .stuck else .ok (.tup ds) S := rfl
@[simp] theorem kLst_ : kLst ds S = .ok (.lst ds) S := rfl
@[simp] theorem kNew_ : kNew ds S = .ok (.ref S.length) (S ++ [.lst ds]) := rfl
@[simp] theorem kDisp_ : kDisp ds S = if tooMany ds.length then .stuck else .ok ds S := rfl
@[simp] theorem kBi_ {o1 : List D → Sto → Option β} : kBi o1 ds S = liftO (o1 ds S) S := rfl
@[simp] theorem kMt2_ {om : OpM} : kMt2 om x ds S = liftP (om x ds S) := rfl
@[simp] theorem kMt1_ {ty : D → Sto → Bool} {om : OpM} : kMt1 ty om gl σ x S = if ty x S = true then (gl σ S).bind (kMt2 om x) else .stuck := rfl
@[simp] theorem kMt0_ {ty : D → Sto → Bool} {om : OpM} : kMt0 ty om x S = if ty x S = true then liftP (om x [] S) else .stuck := rfl
@[simp] theorem kMtL2_ {om : OpMN} : kMtL2 om x ds S = liftO (om x ds S) S := rfl
@[simp] theorem kMtL1_ {ty : D → Sto → Bool} {om : OpMN} : kMtL1 ty om gl σ x S = if ty x S = true then (gl σ S).bind (kMtL2 om x) else .stuck := rfl
@[simp] theorem kPart_ : kPart (.int a) S = .ok (some a) S := rfl
@[simp] theorem kSl3_ {lo hi : Option Int} : kSl3 x lo hi S = liftO (opSl x lo hi S) S := rfl
@[simp] theorem kSl2_ {fh : FO} {lo : Option Int} : kSl2 fh σ x lo S = (fh σ S).bind (kSl3 x lo) := rfl
@[simp] theorem kSl1_ {fl fh : FO} : kSl1 fl fh σ x S = (fl σ S).bind (kSl2 fh σ x) := rfl
@[simp] theorem kIsi_ {T : Ty} : kIsi T d S = liftO ((tyN d S).map fun t => D.bl (t.is T)) S := rfl
@[simp] theorem kTabIx_ {kvs : List (Str × Int)} : kTabIx kvs (.str w) S = liftO ((kvs.lookup w).map D.int) S := rfl
@[simp] theorem kTabIn_ {kvs : List (Str × Int)} : kTabIn b kvs (.str w) S = .ok (.bl ((kvs.lookup w).isSome != b)) S := rfl
@[simp] theorem kRevS_ : kRevS (.str w) S = if tooMany w.cps.size = true then .stuck else .ok (.str (revStr w)) S := rfl
@[simp] theorem kExpr_ : kExpr σ d S = .nx σ S := rfl
@[simp] theorem kRet_ : kRet d S = .rt d S := rfl
@[simp] theorem kIfSt : kIfS p q σ true S = p σ S := rfl
@[simp] theorem kIfSf : kIfS p q σ false S = q σ S := rfl
@[simp] theorem kAsg_ : kAsg G σ d S = liftG (G d σ S) := rfl
@[simp] theorem kPar2_ : kPar2 i j σ [d, e] S = .nx ((σ.set i (some d)).set j (some e)) S := rfl
@[simp] theorem kPar3_ : kPar3 i j k σ [d, e, x] S = .nx (((σ.set i (some d)).set j (some e)).set k (some x)) S := rfl
@[simp] theorem kAug2_ {oa : D → D → Sto → Option (D × Sto)} : kAug2 i oa σ x y S = (liftP (oa x y S)).bindS σ fun d S2 => .nx (σ.set i (some d)) S2 := rfl
@[simp] theorem kAug_ {oa : D → D → Sto → Option (D × Sto)} : kAug i oa f σ S (some x) = (f σ S).bindS σ (kAug2 i oa σ x) := rfl
@[simp] theorem kFor_ {it : ItD} : kFor G p σ it S = loopF G p (okLive it) it.items σ S := rfl
@[simp] theorem kSub2_ {os : D → D → D → Sto → Option Sto} : kSub2 os d x σ y S = optS (os x y d S) σ := rfl
@[simp] theorem kSub1_ {os : D → D → D → Sto → Option Sto} : kSub1 os g d σ x S = (g σ S).g (kSub2 os d x σ) := rfl
@[simp] theorem kIt_ : kIt d S = liftO (itOf d S) S := rfl
@[simp] theorem kEnum_ : kEnum [d] S = liftO ((srcD d S).map fun p => ⟨enumD p.1, p.2⟩) S := rfl
@[simp] theorem kZip_ : kZip [d, e] S = liftO ((srcD d S).bind fun p => (srcD e S).map fun q => ⟨p.1.zipWith (fun x y => .tup [x, y]) q.1, p.2 ++ q.2⟩) S := rfl
@[simp] theorem kR1_ : kR1 [.int a] S = if tooMany a.natAbs then .stuck else .ok ⟨rngD 0 a.toNat, []⟩ S := rfl
@[simp] theorem kR2_ : kR2 [.int a, .int c] S = if (tooMany (c - a).toNat || (tooMany a.natAbs || tooMany c.natAbs)) = true then .stuck else .ok ⟨rngD a (c - a).toNat, []⟩ S := rfl
@[simp] theorem kLc_ {own : List Nat} {it : ItD} : kLc own G t f σ it S = lcF own G t f (okLive it) it.items σ S := rfl
@[simp] theorem xBin : fBin op fa fb σ S = (fa σ S).bind (kBin1 op fb σ) := by
  unfold fBin; refine congrArg _ ?_; funext x S1; show (fb σ S1).bind _ = (fb σ S1).bind _; refine congrArg _ ?_; funext y S2; show _ = liftO (op x y S2) S2; cases op x y S2 <;> rfl
@[simp] theorem xUn {o1 : D → Sto → Option D} : fUn o1 fa σ S = (fa σ S).bind (kUn o1) := by
  unfold fUn; refine congrArg _ ?_; funext x S1; show _ = liftO (o1 x S1) S1; cases o1 x S1 <;> rfl
@[simp] theorem xChain : fChain op op' fa fb fc σ S = (fa σ S).bind (kCh1 op op' fb fc σ) := by
  unfold fChain; refine congrArg _ ?_; funext x S1; show (fb σ S1).bind _ = (fb σ S1).bind _; refine congrArg _ ?_; funext y S2; show _ = (liftO (op x y S2) S2).bind (kCh2' op' fc σ y); cases op x y S2 with
  | none => rfl
  | some d => cases d with
    | bl b => cases b with
      | true => show (fc σ S2).bind _ = (fc σ S2).bind _; refine congrArg _ ?_; funext z S3; show _ = liftO (op' y z S3) S3; cases op' y z S3 <;> rfl
      | false => rfl
    | _ => rfl
@[simp] theorem xTest : fTest f σ S = (f σ S).bind (kTest) := by
  unfold fTest; refine congrArg _ ?_; funext x S1; cases x <;> rfl
@[simp] theorem xAndT : fAndT t u σ S = (t σ S).bind (kAndT u σ) := by
  unfold fAndT; refine congrArg _ ?_; funext x S1; cases x <;> rfl
@[simp] theorem xOrT : fOrT t u σ S = (t σ S).bind (kOrT u σ) := by
  unfold fOrT; refine congrArg _ ?_; funext x S1; cases x <;> rfl
@[simp] theorem xNotT : fNotT t σ S = (t σ S).bind (kNotT) := by
  unfold fNotT; refine congrArg _ ?_; funext x S1; rfl
@[simp] theorem xAnd : fAnd f g σ S = (f σ S).bind (kAnd g σ) := by
  unfold fAnd; refine congrArg _ ?_; funext x S1; cases x with
  | bl b => cases b <;> rfl
  | _ => rfl
@[simp] theorem xOr : fOr f g σ S = (f σ S).bind (kOr g σ) := by
  unfold fOr; refine congrArg _ ?_; funext x S1; cases x with
  | bl b => cases b <;> rfl
  | _ => rfl
@[simp] theorem xNot : fNot f σ S = (f σ S).bind (kNot) := by
  unfold fNot; refine congrArg _ ?_; funext x S1; cases x <;> rfl
@[simp] theorem xIf : fIf t f g σ S = (t σ S).bind (kIf f g σ) := by
  unfold fIf; refine congrArg _ ?_; funext x S1; cases x <;> rfl
@[simp] theorem xYes : fYes σ S = .ok true S := rfl
@[simp] theorem xNil : fNil σ S = .ok [] S := rfl
@[simp] theorem xCons : fCons f gl σ S = (f σ S).bind (kCons1 gl σ) := by
  unfold fCons; refine congrArg _ ?_; funext x S1; rfl
@[simp] theorem xTup : fTup gl σ S = (gl σ S).bind (kTup) := by
  unfold fTup; refine congrArg _ ?_; funext x S1; rfl
@[simp] theorem xLst : fLst gl σ S = (gl σ S).bind (kLst) := by
  unfold fLst; refine congrArg _ ?_; funext x S1; rfl
@[simp] theorem xNew : fNew gl σ S = (gl σ S).bind (kNew) := by
  unfold fNew; refine congrArg _ ?_; funext x S1; rfl
@[simp] theorem xDisp : fDisp gl σ S = (gl σ S).bind (kDisp) := by
  unfold fDisp; refine congrArg _ ?_; funext x S1; rfl
@[simp] theorem xCall {ff : FF} : fCall ff gl σ S = (gl σ S).bind ff := rfl
@[simp] theorem xArity {ff : FF} {n : Nat} : arity n ff ds S = if ds.length = n then ff ds S else .stuck := rfl
@[simp] theorem xBi {o1 : List D → Sto → Option D} : fBi o1 gl σ S = (gl σ S).bind (kBi o1) := by
  unfold fBi; refine congrArg _ ?_; funext x S1; show _ = liftO (o1 x S1) S1; cases o1 x S1 <;> rfl
@[simp] theorem xBiL {o1 : List D → Sto → Option (List D)} : fBiL o1 gl σ S = (gl σ S).bind (kBi o1) := by
  unfold fBiL; refine congrArg _ ?_; funext x S1; show _ = liftO (o1 x S1) S1; cases o1 x S1 <;> rfl
@[simp] theorem xMt {ty : D → Sto → Bool} {om : OpM} : fMt ty om f gl σ S = (f σ S).bind (kMt1 ty om gl σ) := by
  unfold fMt; refine congrArg _ ?_; funext x S1; show _ = (if ty x S1 = true then (gl σ S1).bind (kMt2 om x) else .stuck); split
  · refine congrArg _ ?_; funext ds S2; show _ = liftP (om x ds S2); cases om x ds S2 <;> rfl
  · rfl
@[simp] theorem xMt0 {ty : D → Sto → Bool} {om : OpM} : fMt0 ty om f σ S = (f σ S).bind (kMt0 ty om) := by
  unfold fMt0; refine congrArg _ ?_; funext x S1; show _ = (if ty x S1 = true then liftP (om x [] S1) else .stuck); split
  · cases om x [] S1 <;> rfl
  · rfl
@[simp] theorem xMtL {ty : D → Sto → Bool} {om : OpMN} : fMtL ty om f gl σ S = (f σ S).bind (kMtL1 ty om gl σ) := by
  unfold fMtL; refine congrArg _ ?_; funext x S1; show _ = (if ty x S1 = true then (gl σ S1).bind (kMtL2 om x) else .stuck); split
  · refine congrArg _ ?_; funext ds S2; show _ = liftO (om x ds S2) S2; cases om x ds S2 <;> rfl
  · rfl
@[simp] theorem xNoPart : fNoPart σ S = .ok none S := rfl
@[simp] theorem xPart : fPart f σ S = (f σ S).bind (kPart) := by
  unfold fPart; refine congrArg _ ?_; funext x S1; cases x <;> rfl
@[simp] theorem xSl {fl fh : FO} : fSl f fl fh σ S = (f σ S).bind (kSl1 fl fh σ) := by
  unfold fSl; refine congrArg _ ?_; funext x S1; show (fl σ S1).bind _ = (fl σ S1).bind _; refine congrArg _ ?_; funext y S2; show (fh σ S2).bind _ = (fh σ S2).bind _; refine congrArg _ ?_; funext z S3; show _ = liftO (opSl x y z S3) S3; cases opSl x y z S3 <;> rfl
@[simp] theorem xIsi {T : Ty} : fIsi T f σ S = (f σ S).bind (kIsi T) := by
  unfold fIsi; refine congrArg _ ?_; funext x S1; show _ = liftO ((tyN x S1).map fun t => D.bl (t.is T)) S1; cases tyN x S1 <;> rfl
@[simp] theorem xTabIx {kvs : List (Str × Int)} : fTabIx kvs f σ S = (f σ S).bind (kTabIx kvs) := by
  unfold fTabIx; refine congrArg _ ?_; funext x S1; cases x with
  | str z => show _ = liftO ((kvs.lookup z).map D.int) S1; show (match kvs.lookup z with | some i => Out.ok (D.int i) S1 | none => .stuck) = _; cases kvs.lookup z <;> rfl
  | _ => rfl
@[simp] theorem xTabIn {kvs : List (Str × Int)} : fTabIn b kvs f σ S = (f σ S).bind (kTabIn b kvs) := by
  unfold fTabIn; refine congrArg _ ?_; funext x S1; cases x <;> rfl
@[simp] theorem xRevS : fRevS f σ S = (f σ S).bind (kRevS) := by
  unfold fRevS; refine congrArg _ ?_; funext x S1; cases x <;> rfl
@[simp] theorem sxNil : sNil σ S = .nx σ S := rfl
@[simp] theorem sxSeq : sSeq p q σ S = (p σ S).andThen q := by
  unfold sSeq; cases p σ S <;> rfl
@[simp] theorem sxExpr : sExpr f σ S = (f σ S).bindS σ (kExpr σ) := by
  unfold sExpr; refine congrArg _ ?_; funext x S1; rfl
@[simp] theorem sxRet : sRet f σ S = (f σ S).bindS σ (kRet) := by
  unfold sRet; refine congrArg _ ?_; funext x S1; rfl
@[simp] theorem sxBreak : sBreak σ S = .bk σ S := rfl
@[simp] theorem sxIf : sIf t p q σ S = (t σ S).bindS σ (kIfS p q σ) := by
  unfold sIf; refine congrArg _ ?_; funext x S1; cases x <;> rfl
@[simp] theorem sxAsg : sAsg G f σ S = (f σ S).bindS σ (kAsg G σ) := by
  unfold sAsg; refine congrArg _ ?_; funext x S1; show _ = liftG (G x σ S1); cases G x σ S1 <;> rfl
@[simp] theorem sxPar2 : sPar2 i j gl σ S = (gl σ S).bindS σ (kPar2 i j σ) := by
  unfold sPar2; refine congrArg _ ?_; funext x S1; rfl
@[simp] theorem sxPar3 : sPar3 i j k gl σ S = (gl σ S).bindS σ (kPar3 i j k σ) := by
  unfold sPar3; refine congrArg _ ?_; funext x S1; rfl
@[simp] theorem sxAug {oa : D → D → Sto → Option (D × Sto)} : sAug i oa f σ S = kAug i oa f σ S (σ[i]?).join := by
  unfold sAug
  cases σ[i]? with
  | none => rfl
  | some o => cases o with
    | none => rfl
    | some x => show (f σ S).bindS σ _ = (f σ S).bindS σ _; refine congrArg _ ?_; funext y S1; show _ = (liftP (oa x y S1)).bindS σ fun d S2 => .nx (σ.set i (some d)) S2; cases oa x y S1 <;> rfl
@[simp] theorem sxFor {fi : FI} : sFor fi G p σ S = (fi σ S).bindS σ (kFor G p σ) := by
  unfold sFor; refine congrArg _ ?_; funext x S1; rfl
@[simp] theorem gxNm : gNm i d σ S = some (σ.set i (some d), S) := rfl
@[simp] theorem gxNil : gsNil [] σ S = some (σ, S) := rfl
@[simp] theorem gxCons {gs : FGs} : gsCons G gs (d :: ds) σ S = gBind (G d σ S) (gs ds) := by
  unfold gBind; rfl
@[simp] theorem gxTp {n : Nat} {gs : FGs} : gTp n gs (.tup ds) σ S = if ds.length = n then gs ds σ S else none := rfl
theorem gxNs0 : gNs [] ds = gsNil ds := rfl
theorem gxNs {is : List Nat} : gNs (i :: is) = gsCons (gNm i) (gNs is) := rfl
@[simp] theorem gxSub {os : D → D → D → Sto → Option Sto} : gSub os f g d σ S = (f σ S).g (kSub1 os g d σ) := by
  show (match f σ S with
  | .ok o S1 => (match g σ S1 with
    | .ok i S2 => (os o i d S2).bind fun S3 => some (σ, S3)
    | _ => none)
  | _ => none) = _
  cases f σ S with
  | ok o S1 =>
    show (match g σ S1 with
    | .ok i S2 => (os o i d S2).bind fun S3 => some (σ, S3)
    | _ => none) = (g σ S1).g _
    cases g σ S1 <;> rfl
  | _ => rfl
@[simp] theorem fxDef {n : Nat} : fDef n p ds S = (p (ds.map some ++ List.replicate (n - ds.length) none) S).fin := by
  unfold fDef; cases p (ds.map some ++ List.replicate (n - ds.length) none) S <;> rfl
@[simp] theorem ixIt : fIt f σ S = (f σ S).bind (kIt) := by
  unfold fIt; refine congrArg _ ?_; funext x S1; show _ = liftO (itOf x S1) S1; cases itOf x S1 <;> rfl
@[simp] theorem ixEnum : fEnum gl σ S = (gl σ S).bind (kEnum) := by
  unfold fEnum; refine congrArg _ ?_; funext x S1; match x with
  | [] => rfl
  | [d] => show (match srcD d S1 with | some (xs, o) => Out.ok (⟨enumD xs, o⟩ : ItD) S1 | none => .stuck) = liftO ((srcD d S1).map fun p => (⟨enumD p.1, p.2⟩ : ItD)) S1; cases srcD d S1 <;> rfl
  | _ :: _ :: _ => rfl
@[simp] theorem ixZip : fZip gl σ S = (gl σ S).bind (kZip) := by
  unfold fZip; refine congrArg _ ?_; funext x S1; match x with
  | [] => rfl
  | [_] => rfl
  | [d, e] => show (match srcD d S1, srcD e S1 with | some (xs, o), some (ys, q) => Out.ok (⟨xs.zipWith (fun x y => .tup [x, y]) ys, o ++ q⟩ : ItD) S1 | _, _ => .stuck) = liftO ((srcD d S1).bind fun p => (srcD e S1).map fun q => (⟨p.1.zipWith (fun x y => .tup [x, y]) q.1, p.2 ++ q.2⟩ : ItD)) S1; cases srcD d S1 <;> cases srcD e S1 <;> rfl
  | _ :: _ :: _ :: _ => rfl
@[simp] theorem ixR1 : fRng1 gl σ S = (gl σ S).bind (kR1) := by
  unfold fRng1; refine congrArg _ ?_; funext x S1; rfl
@[simp] theorem ixR2 : fRng2 gl σ S = (gl σ S).bind (kR2) := by
  unfold fRng2; refine congrArg _ ?_; funext x S1; rfl
@[simp] theorem ixLc {own : List Nat} {fi : FI} : fLc own fi G t f σ S = (fi σ S).bind (kLc own G t f σ) := by
  unfold fLc; refine congrArg _ ?_; funext x S1; rfl
-- operators
@[simp] theorem oEqII {a b : Int} : opEq (.int a) (.int b) S = some (.bl (decide (a = b))) := rfl
@[simp] theorem oEqSS {a b : Str} : opEq (.str a) (.str b) S = some (.bl (decide (a = b))) := rfl
@[simp] theorem oEqNI {b : Int} : opEq .non (.int b) S = some (.bl false) := rfl
@[simp] theorem oEqIN {b : Int} : opEq (.int b) .non S = some (.bl false) := rfl
@[simp] theorem oEqNN : opEq .non .non S = some (.bl true) := rfl
@[simp] theorem oNeII {a b : Int} : opNe (.int a) (.int b) S = some (.bl (!decide (a = b))) := rfl
@[simp] theorem oNeSS {a b : Str} : opNe (.str a) (.str b) S = some (.bl (!decide (a = b))) := rfl
@[simp] theorem oNeBB {a b : Bool} : opNe (.bl a) (.bl b) S = some (.bl (!decide (a = b))) := rfl
@[simp] theorem oAddII {a b : Int} : opAdd (.int a) (.int b) S = some (.int (a + b)) := rfl
@[simp] theorem oAddSS {a b : Str} : opAdd (.str a) (.str b) S = if tooMany (a.length + b.length) then none else some (.str (a ++ b)) := rfl
@[simp] theorem oSubII {a b : Int} : opSub (.int a) (.int b) S = some (.int (a - b)) := rfl
@[simp] theorem oMulII {a b : Int} : opMul (.int a) (.int b) S = if in64 a || in64 b then some (.int (a * b)) else none := rfl
@[simp] theorem oDivII {a b : Int} : opDiv (.int a) (.int b) S = if b ≠ 0 ∧ b.natAbs < 1073741824 then some (.int (a.fdiv b)) else none := rfl
@[simp] theorem oNegI {a : Int} : opNeg (.int a) S = some (.int (-a)) := rfl
@[simp] theorem oOrd {p : Int → Int → Bool} {a b : Int} : opOrd p (.int a) (.int b) S = some (.bl (p a b)) := rfl
@[simp] theorem oIsN {x : D} : opIsN x .non S = some (.bl (isNon x)) := rfl
@[simp] theorem oNotN {x : D} : opNotN x .non S = some (.bl (!isNon x)) := rfl
@[simp] theorem oIxT {xs : List D} {k : Int} : opIx (.tup xs) (.int k) S = L2.atI xs k := rfl
@[simp] theorem oIxL {xs : List D} {k : Int} : opIx (.lst xs) (.int k) S = L2.atI xs k := rfl
@[simp] theorem oIxR {n : Nat} {k : Int} : opIx (.ref n) (.int k) S = (seqL (.ref n) S).bind fun xs => L2.atI xs k := rfl
@[simp] theorem oIxS {z : Str} {k : Int} : opIx (.str z) (.int k) S = if tooMany z.length then none else (L2.atI z.cps.toList k).map fun c => .str ⟨#[c]⟩ := rfl
@[simp] theorem seqLr {n : Nat} : seqL (.ref n) S = (match S[n]? with
  | some (.lst xs) => some xs
  | _ => none) := rfl
@[simp] theorem seqLl {xs : List D} : seqL (.lst xs) S = some xs := rfl
@[simp] theorem seqLs {xs : List D} : seqL (.scr xs) S = some xs := rfl
@[simp] theorem seqMl {xs : List D} : seqM (.lst xs) S = some xs := rfl
@[simp] theorem seqMr {n : Nat} : seqM (.ref n) S = (match S[n]? with
  | some (.lst xs) => some xs
  | _ => none) := rfl
@[simp] theorem lstOr {n : Nat} : lstO (.ref n) S = (match S[n]? with
    | some (.lst xs) => some (n, xs)
    | _ => none) := rfl
@[simp] theorem isLsR {x : D} : isLs x S = (seqL x S).isSome := rfl
@[simp] theorem isStS {x : Str} : isSt (.str x) S = true := rfl
@[simp] theorem isTpT {xs : List D} : isTp (.tup xs) S = true := rfl
@[simp] theorem lenDt {xs : List D} : lenD (.tup xs) S = some (.int xs.length) := rfl
@[simp] theorem lenDl {xs : List D} : lenD (.lst xs) S = some (.int xs.length) := rfl
@[simp] theorem lenDc {xs : List D} : lenD (.scr xs) S = some (.int xs.length) := rfl
@[simp] theorem lenDr {n : Nat} : lenD (.ref n) S = (seqL (.ref n) S).map fun xs => .int (xs.length : Nat) := rfl
@[simp] theorem lenDs {z : Str} : lenD (.str z) S = if tooMany z.length then none else some (.int (z.length : Nat)) := rfl
@[simp] theorem intDi {a : Int} : intD (.int a) S = some (.int a) := rfl
@[simp] theorem intDb {a : Bool} : intD (.bl a) S = some (.int (if a then 1 else 0)) := rfl
@[simp] theorem seqAt_ {xs : List D} : seqA (.tup xs) S = some xs := rfl
@[simp] theorem seqAl {xs : List D} : seqA (.lst xs) S = some xs := rfl
@[simp] theorem seqAc {xs : List D} : seqA (.scr xs) S = some xs := rfl
@[simp] theorem seqAr {n : Nat} : seqA (.ref n) S = seqL (.ref n) S := rfl
@[simp] theorem lenT {xs : List D} : opLen [.tup xs] S = some (.int xs.length) := rfl
@[simp] theorem lenL {xs : List D} : opLen [.lst xs] S = some (.int xs.length) := rfl
@[simp] theorem int_i {a : Int} : opInt [.int a] S = some (.int a) := rfl
@[simp] theorem int_b {a : Bool} : opInt [.bl a] S = some (.int (if a then 1 else 0)) := rfl
theorem atI0 {α : Type} {x : α} {xs : List α} : L2.atI (x :: xs) 0 = some x := by
  unfold L2.atI L2.ixN
  simp
theorem atI_nat {α : Type} {xs : List α} {k : Nat} (h : k < xs.length) : L2.atI xs (k : Int) = some xs[k] := by
  unfold L2.atI L2.ixN
  have h1 : (0 : Int) ≤ (k : Int) := Int.natCast_nonneg k
  have h2 : (k : Int) < (xs.length : Int) := by omega
  simp [h1, h2, h]
end
end Fx
namespace Fx
open PySem PySem.Spec L2
@[simp] theorem oModII {S : Sto} {a b : Int} : opMod (.int a) (.int b) S = if b ≠ 0 then some (.int (a.fmod b)) else none := rfl
/-! ### == of plain data -/
mutual
def nice : D → Bool
  | .non => true
  | .int _ => true
  | .str x => PyData.strOk x
  | .tup xs => niceA xs
  | .lst xs => niceA xs
  | _ => false
def niceA : List D → Bool
  | [] => true
  | x :: xs => nice x && niceA xs
end
mutual
def dep : D → Nat
  | .tup xs => depA xs + 1
  | .lst xs => depA xs + 1
  | _ => 0
def depA : List D → Nat
  | [] => 0
  | x :: xs => max (dep x) (depA xs)
end
mutual
def toP : D → PyData
  | .int i => .int i
  | .str x => .str x
  | .tup xs => .tuple (toPs xs)
  | .lst xs => .list (toPs xs)
  | _ => .none
def toPs : List D → List PyData
  | [] => []
  | x :: xs => toP x :: toPs xs
end
mutual
theorem nice_pd (r : Nat → Option PyData) : ∀ d : D, nice d = true → pd r d = some (toP d) ∧ (toP d).canLay0 = true ∧ (toP d).depth = dep d
  | .non, _ => ⟨rfl, rfl, rfl⟩
  | .int i, _ => ⟨rfl, rfl, rfl⟩
  | .str x, h => ⟨rfl, h, rfl⟩
  | .tup xs, h => by
    obtain ⟨h1, h2, h3⟩ := nice_pds r xs h
    refine ⟨?_, ?_, ?_⟩
    · rw [pd, h1]; rfl
    · rw [toP, PyData.canLay0]; exact h2
    · rw [toP, PyData.depth, dep, h3]
  | .lst xs, h => by
    obtain ⟨h1, h2, h3⟩ := nice_pds r xs h
    refine ⟨?_, ?_, ?_⟩
    · rw [pd, h1]; rfl
    · rw [toP, PyData.canLay0]; exact h2
    · rw [toP, PyData.depth, dep, h3]
theorem nice_pds (r : Nat → Option PyData) : ∀ ds : List D, niceA ds = true → pds r ds = some (toPs ds) ∧ PyData.canLayAll0 (toPs ds) = true ∧ PyData.depthAll (toPs ds) = depA ds
  | [], _ => ⟨rfl, rfl, rfl⟩
  | d :: ds, h => by
    rw [niceA, Bool.and_eq_true] at h
    obtain ⟨h1, h2, h3⟩ := nice_pd r d h.1
    obtain ⟨k1, k2, k3⟩ := nice_pds r ds h.2
    refine ⟨?_, ?_, ?_⟩
    · rw [pds, h1, k1]; rfl
    · rw [toPs, PyData.canLayAll0, h2, k2]; rfl
    · rw [toPs, PyData.depthAll, depA, h3, k3]
end
mutual
theorem nice_eqv : ∀ a b : D, nice a = true → nice b = true → PyData.eqv (toP a) (toP b) = D.beq a b
  | .non, b, _, h => by cases b <;> first | rfl | (simp [nice] at h; done) | (simp [toP, PyData.eqv, D.beq])
  | .int i, b, _, h => by cases b <;> first | rfl | (simp [nice] at h; done) | (simp [toP, PyData.eqv, D.beq]) | skip
  | .str x, b, _, h => by cases b <;> first | rfl | (simp [nice] at h; done) | (simp [toP, PyData.eqv, D.beq]) | skip
  | .tup xs, b, h, k => by
    cases b with
    | tup ys => rw [toP, toP, PyData.eqv, D.beq]; exact nice_eqvs xs ys h k
    | _ => first | rfl | (simp [nice] at k; done) | (simp [toP, PyData.eqv, D.beq])
  | .lst xs, b, h, k => by
    cases b with
    | lst ys => rw [toP, toP, PyData.eqv, D.beq]; exact nice_eqvs xs ys h k
    | _ => first | rfl | (simp [nice] at k; done) | (simp [toP, PyData.eqv, D.beq])
theorem nice_eqvs : ∀ a b : List D, niceA a = true → niceA b = true → PyData.eqvAll (toPs a) (toPs b) = D.beqs a b
  | [], b, _, _ => by cases b <;> rfl
  | a :: as, b, h, k => by
    cases b with
    | nil => rfl
    | cons b bs =>
      rw [niceA, Bool.and_eq_true] at h k
      rw [toPs, toPs, PyData.eqvAll, D.beqs, nice_eqv a b h.1 k.1, nice_eqvs as bs h.2 k.2]
end
/-- what a list in the store stands for -/
def derefL (S : Sto) : D → D
  | .ref n => (match S[n]? with
    | some (.lst xs) => .lst xs
    | _ => .ref n)
  | d => d
theorem pd_deref {S : Sto} {d : D} (h : nice (derefL S d) = true) : pdS S d = some (toP (derefL S d)) := by
  cases d with
  | ref n =>
    unfold derefL at h ⊢
    dsimp only at h ⊢
    cases hn : S[n]? with
    | none => rw [hn] at h; cases h
    | some o =>
      cases o with
      | lst xs =>
        rw [hn] at h
        dsimp only at h ⊢
        show rdS S n = _
        unfold rdS
        rw [hn]
        show (pds0 xs).map PyData.list = _
        have h1 := (nice_pds (fun _ => none) xs h).1
        show (pds (fun _ => none) xs).map PyData.list = _
        rw [h1]
        rfl
      | _ => rw [hn] at h; cases h
  | _ => exact (nice_pd _ _ h).1
theorem eqDeep_nice {S : Sto} {x y : D} (hx : nice (derefL S x) = true) (hy : nice (derefL S y) = true) (dx : dep (derefL S x) ≤ 64) (dy : dep (derefL S y) ≤ 64) : eqDeep x y S = some (decide (derefL S x = derefL S y)) := by
  unfold eqDeep
  rw [pd_deref hx, pd_deref hy]
  have s1 : SeqAt.shaped (toP (derefL S x)) = true := by
    obtain ⟨_, h2, h3⟩ := nice_pd (fun _ => none) _ hx
    unfold SeqAt.shaped
    rw [h2, h3]
    simpa using dx
  have s2 : SeqAt.shaped (toP (derefL S y)) = true := by
    obtain ⟨_, h2, h3⟩ := nice_pd (fun _ => none) _ hy
    unfold SeqAt.shaped
    rw [h2, h3]
    simpa using dy
  dsimp only
  rw [s1, s2, nice_eqv _ _ hx hy]
  simp only [Bool.and_self, if_true]
  congr 1
  by_cases h : derefL S x = derefL S y
  · rw [h, D.beq_self]; simp
  · rw [decide_eq_false h]
    cases hb : D.beq (derefL S x) (derefL S y) with
    | false => rfl
    | true => exact absurd (D.beq_eq hb) h
theorem niceA_ints : ∀ ns : List Int, niceA (ns.map D.int) = true
  | [] => rfl
  | n :: ns => by rw [List.map_cons, niceA, niceA_ints ns]; rfl
theorem depA_ints : ∀ ns : List Int, depA (ns.map D.int) = 0
  | [] => rfl
  | n :: ns => by rw [List.map_cons, depA, depA_ints ns]; rfl
/-- the emptiness of the script's list -/
theorem eq_nil {S : Sto} {n : Nat} {ns : List Int} (h : S[n]? = some (.lst (ns.map D.int))) : opEq (.ref n) (.lst []) S = some (.bl ns.isEmpty) := by
  have e1 : derefL S (.ref n) = .lst (ns.map D.int) := by unfold derefL; dsimp only; rw [h]
  have e2 : derefL S (.lst []) = .lst [] := rfl
  show (eqDeep (.ref n) (.lst []) S).map D.bl = _
  rw [eqDeep_nice (by rw [e1]; exact niceA_ints ns) rfl (by rw [e1]; show depA _ + 1 ≤ 64; rw [depA_ints]; decide) (by rw [e2]; decide), e1, e2]
  cases ns with
  | nil => rfl
  | cons n ns =>
    show some (D.bl (decide _)) = _
    rw [decide_eq_false (by simp)]
    rfl

/-! ### loops -/
section
variable {own : List Nat} {g : FG} {tt : FT} {te : FE} {ok : Sto → Bool} {σ : Sl} {S : Sto}
/-- a comprehension that changes the store, all items taken -/
theorem lcF_inv {items : List D} (J : Sto → Prop) (Y : D → D → Prop) (h0 : ∀ S, J S → ok S = true)
    (h : ∀ d ∈ items, ∀ S, J S → ∃ σ1, g d (wipeD σ own) S = some (σ1, S) ∧ tt σ1 S = .ok true S ∧ ∃ y S', te σ1 S = .ok y S' ∧ J S' ∧ Y d y) :
    ∀ S, J S → ∃ ys S', lcF own g tt te ok items σ S = .ok ys S' ∧ J S' ∧ Paired Y items ys := by
  induction items with
  | nil =>
    intro S hS
    refine ⟨[], S, ?_, hS, .nil⟩
    unfold lcF
    rw [if_pos (h0 S hS)]
  | cons d ds ih =>
    intro S hS
    obtain ⟨σ1, e1, e2, y, S', e3, hS', hY⟩ := h d List.mem_cons_self S hS
    obtain ⟨ys, S2, e4, hS2, hYs⟩ := ih (fun x hx => h x (List.mem_cons_of_mem _ hx)) S' hS'
    refine ⟨y :: ys, S2, ?_, hS2, .cons hY hYs⟩
    unfold lcF
    rw [if_pos (h0 S hS), e1]
    dsimp only
    rw [e2]
    dsimp only
    rw [e3]
    dsimp only
    rw [e4]
/-- a comprehension that only reads -/
theorem lcF_pure {items : List D} (p : D → Bool) (f : D → D) (h0 : ok S = true)
    (h : ∀ d ∈ items, ∃ σ1, g d (wipeD σ own) S = some (σ1, S) ∧ tt σ1 S = .ok (p d) S ∧ (p d = true → te σ1 S = .ok (f d) S)) :
    lcF own g tt te ok items σ S = .ok ((items.filter p).map f) S := by
  induction items with
  | nil =>
    unfold lcF
    rw [if_pos h0]
    rfl
  | cons d ds ih =>
    obtain ⟨σ1, e1, e2, e3⟩ := h d List.mem_cons_self
    have e4 := ih fun x hx => h x (List.mem_cons_of_mem _ hx)
    unfold lcF
    rw [if_pos h0, e1]
    dsimp only
    rw [e2]
    cases hp : p d with
    | true =>
      dsimp only
      rw [e3 hp]
      dsimp only
      rw [e4, List.filter_cons_of_pos hp]
      rfl
    | false =>
      dsimp only
      rw [e4, List.filter_cons_of_neg (by simp [hp])]
/-- the same, of encoded items -/
theorem lcF_map {α : Type} (xs : List α) (enc f : α → D) (h0 : ok S = true)
    (h : ∀ x ∈ xs, ∃ σ1, g (enc x) (wipeD σ own) S = some (σ1, S) ∧ tt σ1 S = .ok true S ∧ te σ1 S = .ok (f x) S) : lcF own g tt te ok (xs.map enc) σ S = .ok (xs.map f) S := by
  induction xs with
  | nil =>
    show lcF own g tt te ok [] σ S = _
    unfold lcF
    rw [if_pos h0]
    rfl
  | cons x xs ih =>
    obtain ⟨σ1, e1, e2, e3⟩ := h x List.mem_cons_self
    have e4 := ih fun y hy => h y (List.mem_cons_of_mem _ hy)
    show lcF own g tt te ok (enc x :: xs.map enc) σ S = _
    unfold lcF
    rw [if_pos h0, e1]
    dsimp only
    rw [e2]
    dsimp only
    rw [e3]
    dsimp only
    rw [e4]
    rfl
variable {b : FS}
/-- a loop, by what stands ahead of each turn -/
theorem loopF_inv (J : List D → Sl → Sto → Prop) (Kp : Sl → Sto → Prop) (h0 : ∀ ds σ S, J ds σ S → ok S = true) (hend : ∀ σ S, J [] σ S → Kp σ S)
    (h : ∀ d ds σ S, J (d :: ds) σ S → ∃ σ1 S1, g d σ S = some (σ1, S1) ∧ ((∃ σ' S', b σ1 S1 = .nx σ' S' ∧ J ds σ' S') ∨ ∃ σ' S', b σ1 S1 = .bk σ' S' ∧ Kp σ' S')) :
    ∀ ds σ S, J ds σ S → ∃ σ' S', loopF g b ok ds σ S = .nx σ' S' ∧ Kp σ' S' := by
  intro ds
  induction ds with
  | nil =>
    intro σ S hJ
    refine ⟨σ, S, ?_, hend σ S hJ⟩
    unfold loopF
    rw [if_pos (h0 _ σ S hJ)]
  | cons d ds ih =>
    intro σ S hJ
    obtain ⟨σ1, S1, e1, h2⟩ := h d ds σ S hJ
    unfold loopF
    rw [if_pos (h0 _ σ S hJ), e1]
    dsimp only
    rcases h2 with ⟨σ', S', e2, hJ'⟩ | ⟨σ', S', e2, hK⟩
    · rw [e2]
      exact ih σ' S' hJ'
    · rw [e2]
      exact ⟨σ', S', rfl, hK⟩
end
theorem wipe1 {σ : Sl} {i : Nat} : wipeD σ [i] = σ.set i none := rfl
theorem okLive_nil {xs : List D} {S : Sto} : okLive ⟨xs, []⟩ S = true := rfl
end Fx

/-! Fx15: dicts whose keys are tuples. -/
namespace Fx
open PySem PySem.Spec L2
section
variable {G : Gm} {X : Cx} {ρ η : List Addr} {pins : List (Addr × Obj)} {σ : L2.St} {H : Hp} {s : Shared}
mutual
/-- a datum is a key in the heap -/
theorem nis_of (hK : X.K = G.K) (I : Inv X pins σ H s) : ∀ (d : D) (v : V) (u : Value) (k : NestedKey), RD G ρ η H d v → RelV v u → nk d = some k → NestedIs s.heap k u
  | .non, v, u, k, rd, ru, e => by
    rw [RD] at rd
    subst rd
    cases e
    cases (show u = Value.none from ru)
    exact .none
  | .int i, v, u, k, rd, ru, e => by
    rw [RD] at rd
    subst rd
    cases e
    obtain ⟨t, rfl⟩ := (show ∃ t, u = Value.int i t from ru)
    exact .int i t
  | .str x, v, u, k, rd, ru, e => by
    rw [RD] at rd
    subst rd
    cases e
    obtain ⟨t, rfl⟩ := (show ∃ t, u = Value.str x t from ru)
    exact .text x t
  | .tup ds, v, u, k, rd, ru, e => by
    rw [RD] at rd
    obtain ⟨a, vs, rfl, ht, hl, rds⟩ := rd
    cases (show u = Value.ref a from ru)
    rw [nk] at e
    obtain ⟨ks, hks, rfl⟩ := Option.map_eq_some_iff.mp e
    have q : SqT X.K H a vs := by rw [hK]; exact tupAt ht
    obtain ⟨its, rv, ⟨o, ho, hc, n, hd⟩, hz⟩ := I.tuple q
    exact .tup ho hc hd (by
      have := nises_of hK I ds vs its ks rds rv hks
      simpa using this)
  | .bl _, _, _, _, _, _, e => nomatch e
  | .lst _, _, _, _, _, _, e => nomatch e
  | .dct _ _, _, _, _, _, _, e => nomatch e
  | .ref _, _, _, _, _, _, e => nomatch e
  | .scr _, _, _, _, _, _, e => nomatch e
theorem nises_of (hK : X.K = G.K) (I : Inv X pins σ H s) : ∀ (ds : List D) (vs : List V) (us : List Value) (ks : List NestedKey), RDs G ρ η H ds vs → Vals vs us → nks ds = some ks → NestedAll s.heap ks us
  | [], vs, us, ks, rd, ru, e => by
    rw [RDs] at rd
    subst rd
    cases ru
    cases e
    exact .nil
  | d :: ds, vs, us, ks, rd, ru, e => by
    rw [RDs] at rd
    obtain ⟨v, r, rfl, r1, r2⟩ := rd
    cases ru with
    | cons ru rr =>
      rw [nks] at e
      cases h1 : nk d with
      | none => rw [h1] at e; cases e
      | some k =>
        cases h2 : nks ds with
        | none => rw [h1, h2] at e; cases e
        | some kk =>
          rw [h1, h2] at e
          cases e
          exact .cons (nis_of hK I d v _ k r1 ru h1) (nises_of hK I ds r _ kk r2 rr h2)
end
end
mutual
theorem nk_inj : ∀ (a b : D) (k : NestedKey), nk a = some k → nk b = some k → a = b
  | .non, b, k, h1, h2 => by
    cases h1
    cases b with
    | non => rfl
    | tup ds => rw [nk] at h2; obtain ⟨_, _, e⟩ := Option.map_eq_some_iff.mp h2; cases e
    | _ => cases h2
  | .int i, b, k, h1, h2 => by
    cases h1
    cases b with
    | int j => cases h2; rfl
    | tup ds => rw [nk] at h2; obtain ⟨_, _, e⟩ := Option.map_eq_some_iff.mp h2; cases e
    | _ => cases h2
  | .str i, b, k, h1, h2 => by
    cases h1
    cases b with
    | str j => cases h2; rfl
    | tup ds => rw [nk] at h2; obtain ⟨_, _, e⟩ := Option.map_eq_some_iff.mp h2; cases e
    | _ => cases h2
  | .tup as, b, k, h1, h2 => by
    rw [nk] at h1
    obtain ⟨ks, e1, rfl⟩ := Option.map_eq_some_iff.mp h1
    cases b with
    | tup bs =>
      rw [nk] at h2
      obtain ⟨ks', e2, e3⟩ := Option.map_eq_some_iff.mp h2
      cases e3
      rw [nks_inj as bs ks e1 e2]
    | _ => cases h2
  | .bl _, _, _, h, _ => nomatch h
  | .lst _, _, _, h, _ => nomatch h
  | .dct _ _, _, _, h, _ => nomatch h
  | .ref _, _, _, h, _ => nomatch h
  | .scr _, _, _, h, _ => nomatch h
theorem nks_inj : ∀ (as bs : List D) (ks : List NestedKey), nks as = some ks → nks bs = some ks → as = bs
  | [], bs, ks, h1, h2 => by
    cases h1
    cases bs with
    | nil => rfl
    | cons b bs =>
      rw [nks] at h2
      cases h3 : nk b with
      | none => rw [h3] at h2; cases h2
      | some k => cases h4 : nks bs with
        | none => rw [h3, h4] at h2; cases h2
        | some kk => rw [h3, h4] at h2; cases h2
  | a :: as, bs, ks, h1, h2 => by
    rw [nks] at h1
    cases h3 : nk a with
    | none => rw [h3] at h1; cases h1
    | some k =>
      cases h4 : nks as with
      | none => rw [h3, h4] at h1; cases h1
      | some kk =>
        rw [h3, h4] at h1
        cases h1
        cases bs with
        | nil => cases h2
        | cons b bs =>
          rw [nks] at h2
          cases h5 : nk b with
          | none => rw [h5] at h2; cases h2
          | some k' => cases h6 : nks bs with
            | none => rw [h5, h6] at h2; cases h2
            | some kk' =>
              rw [h5, h6] at h2
              cases h2
              rw [nk_inj a b k h3 h5, nks_inj as bs kk h4 h6]
end
/-- what is at x, by data -/
def findK : List D → List D → D → Option D
  | k :: ks, d :: ds, x => if k = x then some d else findK ks ds x
  | _, _, _ => none
/-- the entries, by data -/
theorem atKey_find {G : Gm} {ρ η : List Addr} {H : Hp} {x : D} {k : NestedKey} (hx : nk x = some k) : ∀ (ks ds : List D) (xs : List (NestedKey × Addr × Value)) (vs : List V), nks ks = some (xs.map (·.1)) → Vals vs (xs.map (·.2.2)) → RDs G ρ η H ds vs →
    (atKey xs k = none ∧ findK ks ds x = none ∧ x ∉ ks) ∨ ∃ p d v, atKey xs k = some p ∧ findK ks ds x = some d ∧ RD G ρ η H d v ∧ RelV v p.2 ∧ x ∈ ks
  | [], ds, xs, vs, hk, _, _ => by
    cases xs with
    | nil => exact .inl ⟨rfl, rfl, by simp⟩
    | cons y xs => rw [nks] at hk; cases hk
  | a :: ks, ds, xs, vs, hk, hv, hd => by
    cases xs with
    | nil =>
      rw [nks] at hk
      cases h3 : nk a with
      | none => rw [h3] at hk; cases hk
      | some k' => cases h4 : nks ks with
        | none => rw [h3, h4] at hk; cases hk
        | some kk => rw [h3, h4] at hk; cases hk
    | cons y xs =>
      rw [nks] at hk
      cases h3 : nk a with
      | none => rw [h3] at hk; cases hk
      | some k' =>
        cases h4 : nks ks with
        | none => rw [h3, h4] at hk; cases hk
        | some kk =>
          rw [h3, h4] at hk
          have hk1 : k' :: kk = y.1 :: xs.map (·.1) := Option.some.inj hk
          injection hk1 with e1 e2
          subst e2
          cases vs with
          | nil => cases hv
          | cons v vs =>
            cases hv with
            | cons rv rvs =>
              cases ds with
              | nil => rw [RDs] at hd; cases hd
              | cons d ds =>
                rw [RDs] at hd
                obtain ⟨v', r, e, rd, rr⟩ := hd
                cases e
                by_cases q : a = x
                · subst q
                  rw [hx] at h3
                  cases h3
                  refine .inr ⟨y.2, d, v, ?_, ?_, rd, rv, List.mem_cons_self⟩
                  · unfold atKey
                    rw [List.find?_cons_of_pos (by simpa using e1.symm)]
                    rfl
                  · unfold findK
                    rw [if_pos rfl]
                · have hne : ¬ y.1 = k := fun z => q (nk_inj a x k (by rw [h3, e1]; exact congrArg some z) hx)
                  have e1 : atKey (y :: xs) k = atKey xs k := by
                    unfold atKey
                    rw [List.find?_cons_of_neg (by simpa using hne)]
                  have e2 : findK (a :: ks) (d :: ds) x = findK ks ds x := by
                    show (if a = x then some d else findK ks ds x) = _
                    rw [if_neg q]
                  rw [e1, e2]
                  rcases atKey_find hx ks ds xs vs h4 rvs rr with ⟨g1, g2, g3⟩ | ⟨p, d', v', g1, g2, g3, g4, g5⟩
                  · exact .inl ⟨g1, g2, fun z => (List.mem_cons.mp z).elim (fun w => q w.symm) g3⟩
                  · exact .inr ⟨p, d', v', g1, g2, g3, g4, List.mem_cons_of_mem _ g5⟩

/-- a dict of the store -/
def dnS (x : D) (S : Sto) : Option (Nat × List D × List D) := match x with
  | .ref n => (match S[n]? with
    | some (.dn ks ds) => some (n, ks, ds)
    | some (.dl ks ds) => some (n, ks, ds)
    | _ => none)
  | _ => none
/-- .. that may be written -/
def dnW (x : D) (S : Sto) : Option (Nat × List D × List D) := match x with
  | .ref n => (match S[n]? with
    | some (.dn ks ds) => some (n, ks, ds)
    | _ => none)
  | _ => none
def tupK (x : D) : Option NestedKey := match x with
  | .tup ds => (nk (.tup ds)).bind fun k => if k.depth ≤ 8 then some k else none
  | _ => none
theorem tupK_at {x : D} {k : NestedKey} (h : tupK x = some k) : (∃ ds, x = .tup ds) ∧ nk x = some k ∧ k.depth ≤ 8 := by
  unfold tupK at h
  cases x with
  | tup ds =>
    dsimp only at h
    cases hq : nk (.tup ds) with
    | none => rw [hq] at h; cases h
    | some k' =>
      rw [hq] at h
      have h2 : (if k'.depth ≤ 8 then some k' else none) = some k := h
      split at h2
      · cases h2
        exact ⟨⟨ds, rfl⟩, rfl, by assumption⟩
      · cases h2
  | _ => cases h
/-- a key at hand, and a dict -/
structure KeyAt (G : Gm) (H : Hp) (x : V) (k : NestedKey) : Prop where
  ex : ∃ ρ η ds, RD G ρ η H (.tup ds) x ∧ nk (.tup ds) = some k ∧ k.depth ≤ 8
structure DnAt (G : Gm) (H : Hp) (a : Addr) (xs : List (NestedKey × Addr × Value)) : Prop where
  ext : Rd H a (.ext (dnO G a xs))
  low : (a == sysModules) = false
  nd : (xs.map (·.1)).Nodup
  dp : ∀ x ∈ xs, x.1.depth ≤ 8
  len : xs.length ≤ sizeLine
  keys : ∃ ρ η ks, nks ks = some (xs.map (·.1)) ∧ RDs G ρ η H ks (xs.map fun x => V.ref x.2.1)
section
variable {G : Gm} {X : Cx} {pins : List (Addr × Obj)} {σ : L2.St} {H : Hp} {s : Shared}
theorem key_is [F : Fits G X] (I : Inv X pins σ H s) {x : V} {u : Value} {k : NestedKey} (h : KeyAt G H x k) (r : RelV x u) : ∃ p, u = .ref p ∧ (nestedKind X.prog X.w).is s.heap k p := by
  obtain ⟨ρ, η, ds, rd, hk, hd⟩ := h.ex
  have ni := nis_of F.K.symm I (.tup ds) x u k rd r hk
  rw [RD] at rd
  obtain ⟨a, vs, rfl, _⟩ := rd
  cases (show u = Value.ref a from r)
  exact ⟨a, rfl, ni, hd⟩
theorem nes_each {h : Heap} : ∀ (xs : List (NestedKey × Addr × Value)), NestedAll h (xs.map (·.1)) (xs.map fun x => Value.ref x.2.1) → ∀ x ∈ xs, NestedIs h x.1 (.ref x.2.1)
  | [], _, x, hx => nomatch hx
  | y :: xs, q, x, hx => by
    cases q with
    | cons q1 q2 =>
      rcases List.mem_cons.mp hx with rfl | hx
      · exact q1
      · exact nes_each xs q2 x hx
theorem refs_vals : ∀ (xs : List (NestedKey × Addr × Value)), Vals (xs.map fun x => V.ref x.2.1) (xs.map fun x => Value.ref x.2.1)
  | [] => .nil
  | _ :: xs => .cons rfl (refs_vals xs)
theorem dict_of [F : Fits G X] (I : Inv X pins σ H s) {a : Addr} {xs : List (NestedKey × Addr × Value)} (d : DnAt G H a xs) : s.heap.DictOfH (nestedKind X.prog X.w) a xs := by
  obtain ⟨⟨o, es, ep, h1, h2, h3, h4⟩, _, _⟩ := (show dnO G a xs s.heap ∧ _ from d.ext.ok I.hok)
  obtain ⟨ρ, η, ks, hk, rk⟩ := d.keys
  have na := nises_of F.K.symm I ks _ _ _ rk (refs_vals xs) hk
  rw [F.P, F.w] at h4
  exact ⟨o, es, ep, h1, h2, h3, h4, fun x hx => ⟨nes_each xs na x hx, d.dp x hx⟩, d.nd⟩
theorem room_in1 {A : Around} (h : A.units + 64 < cLine) {P : Program} {w : World} : (nestedKind P w).room A.in1 := by
  show A.in1.units + 8 < cLine
  have : A.in1.units = A.units + 1 := rfl
  omega

def rInDn (G : Gm) (neg : Bool) : R2 := fun x y H Q => ∃ k a xs, KeyAt G H x k ∧ y = .ref a ∧ DnAt G H a xs ∧ Q (.bl ((atKey xs k).isSome != neg)) H
theorem op_inDn [F : Fits G X] (hu : X.A.units + 64 < cLine) : OpR X (compareOp .In) (rInDn G false) := by
  intro pins s σ H x y v u Q I rx ry h
  obtain ⟨k, a, xs, kx, rfl, dn, q⟩ := h
  obtain ⟨p, rfl, ki⟩ := key_is I kx rx
  cases (show u = Value.ref a from ry)
  refine wpAny_in_heap (room_in1 hu) ki dn.low (dict_of I dn) ⟨.bl _, H, I.tok _, rfl, ?_⟩
  have e : ((atKey xs k).isSome != false) = (atKey xs k).isSome := by cases (atKey xs k).isSome <;> rfl
  rw [e] at q
  exact q
theorem op_notInDn [F : Fits G X] (hu : X.A.units + 64 < cLine) : OpR X (compareOp .NotIn) (rInDn G true) := by
  intro pins s σ H x y v u Q I rx ry h
  obtain ⟨k, a, xs, kx, rfl, dn, q⟩ := h
  obtain ⟨p, rfl, ki⟩ := key_is I kx rx
  cases (show u = Value.ref a from ry)
  have e : ((atKey xs k).isSome != true) = !(valueAt (pairsH xs) k).isSome := by
    rw [valueAt_pairsH, Option.isSome_map]
    cases (atKey xs k).isSome <;> rfl
  rw [e] at q
  exact notIn_keyed (room_in1 hu) ki dn.low ⟨xs, dict_of I dn, rfl⟩ ⟨.bl _, H, I.tok _, rfl, q⟩
def rIxDn (G : Gm) : R2 := fun x y H Q => ∃ k a xs p v, x = .ref a ∧ DnAt G H a xs ∧ KeyAt G H y k ∧ atKey xs k = some p ∧ RelV v p.2 ∧ Q v H
theorem ix_dn [F : Fits G X] (hu : X.A.units + 64 < cLine) : IxR X (rIxDn G) := by
  intro value slice pins s σ H x y v u Q I rx ry h hs
  obtain ⟨k, a, xs, p, w, rfl, dn, ky, hp, rw', q⟩ := h
  cases (show v = Value.ref a from rx)
  obtain ⟨b, rfl, ki⟩ := key_is I ky ry
  have hm := dict_of I dn
  exact PyProof.Rows.tail_any hm.typeIs slot_dict_getitem.lookup (wpAny_getItem_heap (room_in1 hu) ki hm hp ⟨w, H, I.tok _, rw', q⟩) hs
def rSetDn (G : Gm) : TSet := fun o i v H Q => ∃ k a xs, o = .ref a ∧ DnAt G H a xs ∧ H a = some (.ext (dnO G a xs)) ∧ KeyAt G H i k ∧ ∀ p w, i = .ref p → RelV v w → Q (upd H a (.ext (dnO G a (storedH xs k p w))))
theorem set_dn [F : Fits G X] (hu : X.A.units + 64 < cLine) : PSet X (rSetDn G) := by
  intro pins s σ H o i v ov iv u Q I ro ri rv h
  obtain ⟨k, a, xs, rfl, dn, dne, ki, q⟩ := h
  cases (show ov = Value.ref a from ro)
  obtain ⟨b, rfl, kk⟩ := key_is I ki ri
  have ei : i = .ref b := by
    cases i with
    | ref c => cases (show Value.ref b = Value.ref c from ri); rfl
    | non => cases ri
    | bl _ => cases ri
    | int _ => obtain ⟨_, e⟩ := ri; cases e
    | str _ => obtain ⟨_, e⟩ := ri; cases e
    | byt _ => obtain ⟨_, e⟩ := ri; cases e
    | flt _ => obtain ⟨_, e⟩ := ri; cases e
    | ty _ => cases ri
  refine wpAny_setItem_heap (room_in1 hu) kk (dict_of I dn) (fun h' hm sb => ?_) dn.len
  obtain ⟨ob, es, ep, g1, g2, g3, g4, g5, g6⟩ := hm
  refine ⟨_, I.write (x := a) (e := a) (by rw [dne]; exact True.intro) (.inl rfl) (fun c w hc hw => (sb.2 c hc).trans hw) ⟨_, g1⟩ ?_, q b u ei rv⟩
  refine ⟨⟨ob, es, ep, g1, g2, g3, by rw [F.P, F.w]; exact g4⟩, ⟨ob, g1⟩, fun h1 h2 hq hk => ?_⟩
  obtain ⟨o1, es1, ep1, a1, a2, a3, a4⟩ := hq
  exact ⟨o1, es1, ep1, hk _ a1, a2, a3, a4⟩
end

/-! ### by data -/
theorem dn_at {G : Gm} {ρ η : List Addr} {H : Hp} {S : Sto} {x : D} {v : V} {n : Nat} {ks ds : List D} (rs : RS G ρ η H S) (rx : RD G ρ η H x v) (h : dnS x S = some (n, ks, ds)) : ∃ a xs vs, v = .ref a ∧ ρ[n]? = some a ∧ DnAt G H a xs ∧ nks ks = some (xs.map (·.1)) ∧ Vals vs (xs.map (·.2.2)) ∧ RDs G ρ η H ks (xs.map fun x => V.ref x.2.1) ∧ RDs G ρ η H ds vs := by
  unfold dnS at h
  split at h
  · split at h
    · rename_i ks' ds' hn
      cases h
      rw [RD] at rx
      obtain ⟨a, ha, rfl⟩ := rx
      obtain ⟨xs, vs, e, ⟨h1, h2, h3, h4, h5⟩, hv, rk, rd⟩ := rs.ob n a _ ha hn
      exact ⟨a, xs, vs, rfl, ha, ⟨.inl e, h4, h2, h3, h5, ρ, η, ks, h1, rk⟩, h1, hv, rk, rd⟩
    · rename_i ks' ds' hn
      cases h
      rw [RD] at rx
      obtain ⟨a, ha, rfl⟩ := rx
      obtain ⟨od, xs, vs, e, ⟨h1, h2, h3, h4, h5⟩, hv, rk, rd⟩ := rs.ob n a _ ha hn
      exact ⟨a, xs, vs, rfl, ha, ⟨.inr ⟨od, e⟩, h4, h2, h3, h5, ρ, η, ks, h1, rk⟩, h1, hv, rk, rd⟩
    · cases h
  · cases h
theorem dnW_S {x : D} {S : Sto} {r : Nat × List D × List D} (h : dnW x S = some r) : dnS x S = some r := by
  unfold dnW at h
  unfold dnS
  split at h
  · split at h
    · rename_i hn
      simp only [hn]
      exact h
    · cases h
  · cases h
theorem dnW_at {G : Gm} {ρ η : List Addr} {H : Hp} {S : Sto} {x : D} {v : V} {n : Nat} {ks ds : List D} (rs : RS G ρ η H S) (rx : RD G ρ η H x v) (h : dnW x S = some (n, ks, ds)) : ∃ a xs vs, v = .ref a ∧ ρ[n]? = some a ∧ (DnAt G H a xs ∧ H a = some (.ext (dnO G a xs))) ∧ nks ks = some (xs.map (·.1)) ∧ Vals vs (xs.map (·.2.2)) ∧ RDs G ρ η H ks (xs.map fun x => V.ref x.2.1) ∧ RDs G ρ η H ds vs := by
  unfold dnW at h
  split at h
  · split at h
    · rename_i ks' ds' hn
      cases h
      rw [RD] at rx
      obtain ⟨a, ha, rfl⟩ := rx
      obtain ⟨xs, vs, e, ⟨h1, h2, h3, h4, h5⟩, hv, rk, rd⟩ := rs.ob n a _ ha hn
      exact ⟨a, xs, vs, rfl, ha, ⟨⟨.inl e, h4, h2, h3, h5, ρ, η, ks, h1, rk⟩, e⟩, h1, hv, rk, rd⟩
    · cases h
  · cases h
theorem key_at {G : Gm} {ρ η : List Addr} {H : Hp} {x : D} {v : V} {k : NestedKey} (rx : RD G ρ η H x v) (h : tupK x = some k) : KeyAt G H v k := by
  obtain ⟨⟨ds, rfl⟩, h1, h2⟩ := tupK_at h
  exact ⟨ρ, η, ds, rx, h1, h2⟩
def opInDn (neg : Bool) (x y : D) (S : Sto) : Option D := match tupK x, dnS y S with
  | some _, some (_, ks, _) => some (.bl (decide (x ∈ ks) != neg))
  | _, _ => none
theorem lnk_inDn {G : Gm} {neg : Bool} : Lnk G (rInDn G neg) (opInDn neg) := by
  intro ρ η H S x y u v d Q rs rx ry h k
  unfold opInDn at h
  split at h
  · rename_i kk n ks ds hk hd
    cases h
    obtain ⟨a, xs, vs, rfl, ha, dn, h1, h2, h3, h4⟩ := dn_at rs ry hd
    refine ⟨kk, a, xs, key_at rx hk, rfl, dn, k H _ (Same.refl H) ?_⟩
    have : (atKey xs kk).isSome = decide (x ∈ ks) := by
      rcases atKey_find (tupK_at hk).2.1 ks ds xs vs h1 h2 h4 with ⟨g1, _, g3⟩ | ⟨p, _, _, g1, _, _, _, g5⟩
      · rw [g1, decide_eq_false g3]; rfl
      · rw [g1, decide_eq_true g5]; rfl
    rw [RD, this]
  · cases h
def opIxDn (x y : D) (S : Sto) : Option D := match tupK y, dnS x S with
  | some _, some (_, ks, ds) => findK ks ds y
  | _, _ => none
theorem lnk_ixDn {G : Gm} : Lnk G (rIxDn G) opIxDn := by
  intro ρ η H S x y u v d Q rs rx ry h k
  unfold opIxDn at h
  split at h
  · rename_i kk n ks ds hk hd
    obtain ⟨a, xs, vs, rfl, ha, dn, h1, h2, h3, h4⟩ := dn_at rs rx hd
    rcases atKey_find (tupK_at hk).2.1 ks ds xs vs h1 h2 h4 with ⟨_, g2, _⟩ | ⟨p, d', v', g1, g2, g3, g4, _⟩
    · rw [g2] at h; cases h
    · rw [g2] at h
      cases h
      exact ⟨kk, a, xs, p, v', rfl, dn, key_at ry hk, g1, g4, k H _ (Same.refl H) g3⟩
  · cases h
/-- either rule -/
def opOr (op op' : D → D → Sto → Option D) (x y : D) (S : Sto) : Option D := match op x y S with
  | some d => some d
  | none => op' x y S
theorem Lnk.or {G : Gm} {r r' : R2} {op op' : D → D → Sto → Option D} (l : Lnk G r op) (l' : Lnk G r' op') : Lnk G (fun x y H Q => r x y H Q ∨ r' x y H Q) (opOr op op') := by
  intro ρ η H S x y u v d Q rs rx ry h k
  unfold opOr at h
  cases hq : op x y S with
  | some e =>
    rw [hq] at h
    cases h
    exact .inl (l ρ η H S x y u v d Q rs rx ry hq k)
  | none => rw [hq] at h; exact .inr (l' ρ η H S x y u v d Q rs rx ry h k)

/-- d[x] = v -/
def setK : List D → List D → D → D → List D
  | k :: ks, d :: ds, x, v => if k = x then v :: ds else d :: setK ks ds x v
  | _, _, _, _ => []
def opSetDn (o i d : D) (S : Sto) : Option Sto := match tupK i, dnW o S with
  | some _, some (n, ks, ds) => if i ∈ ks then some (S.set n (.dn ks (setK ks ds i d))) else if fewer ks.length then some (S.set n (.dn (ks ++ [i]) (ds ++ [d]))) else none
  | _, _ => none
theorem nks_snoc : ∀ (ks : List D) (kk : List NestedKey) (x : D) (k : NestedKey), nks ks = some kk → nk x = some k → nks (ks ++ [x]) = some (kk ++ [k])
  | [], kk, x, k, h, hx => by
    cases h
    show (match nk x, nks [] with
      | some k, some ks => some (k :: ks)
      | _, _ => none) = _
    rw [hx]
    rfl
  | a :: ks, kk, x, k, h, hx => by
    rw [nks] at h
    cases h1 : nk a with
    | none => rw [h1] at h; cases h
    | some a' =>
      cases h2 : nks ks with
      | none => rw [h1, h2] at h; cases h
      | some k' =>
        rw [h1, h2] at h
        cases h
        show (match nk a, nks (ks ++ [x]) with
          | some k, some ks => some (k :: ks)
          | _, _ => none) = _
        rw [h1, nks_snoc ks k' x k h2 hx]
        rfl
theorem nks_len : ∀ (ks : List D) (kk : List NestedKey), nks ks = some kk → kk.length = ks.length
  | [], kk, h => by cases h; rfl
  | a :: ks, kk, h => by
    rw [nks] at h
    cases h1 : nk a with
    | none => rw [h1] at h; cases h
    | some a' =>
      cases h2 : nks ks with
      | none => rw [h1, h2] at h; cases h
      | some k' =>
        rw [h1, h2] at h
        cases h
        rw [List.length_cons, nks_len ks k' h2, List.length_cons]
theorem nks_mem {x : D} {k : NestedKey} (hx : nk x = some k) : ∀ (ks : List D) (kk : List NestedKey), nks ks = some kk → (k ∈ kk ↔ x ∈ ks)
  | [], kk, h => by cases h; simp
  | a :: ks, kk, h => by
    rw [nks] at h
    cases h1 : nk a with
    | none => rw [h1] at h; cases h
    | some a' =>
      cases h2 : nks ks with
      | none => rw [h1, h2] at h; cases h
      | some k' =>
        rw [h1, h2] at h
        cases h
        rw [List.mem_cons, List.mem_cons, nks_mem hx ks k' h2]
        constructor
        · rintro (e | e)
          · subst e; exact .inl (nk_inj x a k hx h1)
          · exact .inr e
        · rintro (e | e)
          · subst e; rw [hx] at h1; cases h1; exact .inl rfl
          · exact .inr e
/-- the values after the change -/
theorem put_vals {G : Gm} {ρ η : List Addr} {H : Hp} {x d : D} {k : NestedKey} {v : V} {w : Value} (hx : nk x = some k) (rd : RD G ρ η H d v) (rv : RelV v w) : ∀ (ks ds : List D) (xs : List (NestedKey × Addr × Value)) (vs : List V), (xs.map (·.1)).Nodup → nks ks = some (xs.map (·.1)) → Vals vs (xs.map (·.2.2)) → RDs G ρ η H ds vs →
    ∃ us, Vals us ((xs.map (putAt k w)).map (·.2.2)) ∧ RDs G ρ η H (setK ks ds x d) us
  | [], ds, xs, vs, nd, hk, hv, hd => by
    cases xs with
    | nil => exact ⟨[], .nil, by cases ds <;> exact RDs.nil⟩
    | cons y xs => rw [nks] at hk; cases hk
  | a :: ks, ds, xs, vs, nd, hk, hv, hd => by
    cases xs with
    | nil =>
      have := nks_len _ _ hk
      simp at this
    | cons y xs =>
      have hk0 := hk
      rw [nks] at hk
      cases h3 : nk a with
      | none => rw [h3] at hk; cases hk
      | some k' =>
        cases h4 : nks ks with
        | none => rw [h3, h4] at hk; cases hk
        | some kk =>
          rw [h3, h4] at hk
          have hk1 : k' :: kk = y.1 :: xs.map (·.1) := Option.some.inj hk
          injection hk1 with e1 e2
          subst e2
          cases vs with
          | nil => cases hv
          | cons u vs =>
            cases hv with
            | cons ru rvs =>
              cases ds with
              | nil => rw [RDs] at hd; cases hd
              | cons d0 ds =>
                rw [RDs] at hd
                obtain ⟨v', r, e, rd0, rr⟩ := hd
                cases e
                rw [List.map_cons, List.nodup_cons] at nd
                by_cases q : a = x
                · subst q
                  rw [hx] at h3
                  cases h3
                  have es : setK (a :: ks) (d0 :: ds) a d = d :: ds := by
                    show (if a = a then d :: ds else _) = _
                    rw [if_pos rfl]
                  have hno : k ∉ xs.map (·.1) := by rw [e1]; exact nd.1
                  refine ⟨v :: vs, ?_, ?_⟩
                  · rw [List.map_cons, List.map_cons, map_putAt_of_not_mem xs k w hno]
                    have : putAt k w y = (y.1, y.2.1, w) := by unfold putAt; rw [if_pos e1.symm]
                    rw [this]
                    exact .cons rv rvs
                  · rw [es]
                    exact RDs.cons rd rr
                · have es : setK (a :: ks) (d0 :: ds) x d = d0 :: setK ks ds x d := by
                    show (if a = x then _ else _) = _
                    rw [if_neg q]
                  obtain ⟨us, g1, g2⟩ := put_vals hx rd rv ks ds xs vs nd.2 h4 rvs rr
                  have hne : ¬ y.1 = k := fun z => q (nk_inj a x k (by rw [h3, e1]; exact congrArg some z) hx)
                  refine ⟨u :: us, ?_, ?_⟩
                  · rw [List.map_cons, List.map_cons]
                    have : putAt k w y = y := by unfold putAt; rw [if_neg hne]
                    rw [this]
                    exact .cons ru g1
                  · rw [es]
                    exact RDs.cons rd0 g2
theorem addr_putAt (k : NestedKey) (w : Value) : ∀ xs : List (NestedKey × Addr × Value), (xs.map (putAt k w)).map (fun x => V.ref x.2.1) = xs.map fun x => V.ref x.2.1
  | [] => rfl
  | x :: xs => by
    rw [List.map_cons, List.map_cons, List.map_cons, addr_putAt k w xs]
    congr 1
    unfold putAt
    split <;> rfl
theorem lnk_setDn {G : Gm} : LnkSet G (rSetDn G) opSetDn := by
  intro ρ η H S x y z u v w S' Q rs rx ry rz h k
  unfold opSetDn at h
  split at h
  · rename_i kk n ks ds hk hd
    obtain ⟨a, xs, vs, rfl, ha, ⟨dn, dne⟩, h1, h2, h3, h4⟩ := dnW_at rs rx hd
    obtain ⟨⟨tds, rfl⟩, hnk, hdep⟩ := tupK_at hk
    have ama : a ∈ ρ := List.mem_of_getElem? ha
    refine ⟨kk, a, xs, rfl, dn, dne, key_at ry hk, fun p wv ei rv => ?_⟩
    have nz : ∀ o u, H a ≠ some (.frz o u) := fun o u z => by rw [dne] at z; cases z
    have ex : Ext ρ H ρ (upd H a (.ext (dnO G a (storedH xs kk p wv)))) := ⟨⟨[], by simp⟩, fun b o hb nb _ => ⟨by rw [upd_ne (fun (q : b = a) => nb (by rw [q]; exact ama))]; exact hb, nb⟩, fun b w y q => by rw [upd_ne (fun (e : b = a) => nz w y (e ▸ q))]; exact q⟩
    split at h
    · rename_i hin
      cases h
      have hsome : (atKey xs kk).isSome = true := by
        rcases atKey_find hnk ks ds xs vs h1 h2 h4 with ⟨_, _, g3⟩ | ⟨q, _, _, g1, _⟩
        · exact absurd hin g3
        · rw [g1]; rfl
      have est : storedH xs kk p wv = xs.map (putAt kk wv) := by unfold storedH; rw [if_pos hsome]
      obtain ⟨us, g1, g2⟩ := put_vals hnk rz rv ks ds xs vs dn.nd h1 h2 h4
      have new : RO G ρ η (upd H a (.ext (dnO G a (storedH xs kk p wv)))) a (.dn ks (setK ks ds (.tup tds) z)) := by
        refine ⟨storedH xs kk p wv, us, upd_same, ⟨?_, ?_, ?_, dn.low, ?_⟩, ?_, ?_, g2.ext ex⟩
        · rw [est, keys_map_putAt]; exact h1
        · rw [est, keys_map_putAt]; exact dn.nd
        · rw [est]
          intro x hx
          obtain ⟨y, hy, rfl⟩ := List.mem_map.mp hx
          have := dn.dp y hy
          unfold putAt
          split <;> exact this
        · rw [est, List.length_map]; exact dn.len
        · rw [est]; exact g1
        · have e5 : (storedH xs kk p wv).map (fun x => V.ref x.2.1) = xs.map fun x => V.ref x.2.1 := by rw [est, addr_putAt]
          rw [e5]
          exact h3.ext ex
      exact k _ ex (rs.write ha new nz).1
    · rename_i hin
      split at h
      · rename_i hf
        cases h
        have hnone : (atKey xs kk).isSome = false := by
          rcases atKey_find hnk ks ds xs vs h1 h2 h4 with ⟨g1, _, _⟩ | ⟨q, _, _, _, _, _, _, g5⟩
          · rw [g1]; rfl
          · exact absurd g5 hin
        have est : storedH xs kk p wv = xs ++ [(kk, p, wv)] := by
          unfold storedH
          rw [if_neg (by rw [hnone]; exact Bool.false_ne_true)]
        have hlen : xs.length = ks.length := by
          have := nks_len ks _ h1
          rw [List.length_map] at this
          exact this
        have hmem : kk ∉ xs.map (·.1) := fun q => hin ((nks_mem hnk ks _ h1).mp q)
        have new : RO G ρ η (upd H a (.ext (dnO G a (storedH xs kk p wv)))) a (.dn (ks ++ [.tup tds]) (ds ++ [z])) := by
          refine ⟨storedH xs kk p wv, vs ++ [w], upd_same, ⟨?_, ?_, ?_, dn.low, ?_⟩, ?_, ?_, (h4.append (RDs.cons rz RDs.nil)).ext ex⟩
          · rw [est, List.map_append]; exact nks_snoc ks _ _ _ h1 hnk
          · rw [est, List.map_append]
            refine List.nodup_append.mpr ⟨dn.nd, by simp, ?_⟩
            intro b hb c hc
            have : c = kk := by simpa using hc
            subst this
            exact fun e => hmem (e ▸ hb)
          · rw [est]
            intro x hx
            rcases List.mem_append.mp hx with hx | hx
            · exact dn.dp x hx
            · have := List.mem_singleton.mp hx
              subst this
              exact hdep
          · rw [est, List.length_append, List.length_singleton, hlen]
            exact lt_line hf
          · rw [est, List.map_append]
            exact Vals.append h2 (.cons rv .nil)
          · have e5 : (storedH xs kk p wv).map (fun x => V.ref x.2.1) = xs.map (fun x => V.ref x.2.1) ++ [v] := by rw [est, List.map_append, ei]; rfl
            rw [e5]
            exact (h3.append (RDs.cons ry RDs.nil)).ext ex
        exact k _ ex (rs.write ha new nz).1
      · cases h
  · cases h

/-! ### {} -/
def tDnNew (G : Gm) : TE := fun _ H Q => ∀ a, H a = none → (a == sysModules) = false → Q (.ref a) (upd H a (.ext (dnO G a [])))
section
variable {G : Gm} {X : Cx} {W : WX} {pos : Pos}
theorem pe_dnNew : PE X (.Dict [] [] pos) (tDnNew G) := by
  refine ⟨fun pins s σ H Q I h => ?_⟩
  refine wpAny_Dict_empty ?_
  have hf := I.hok.fresh (Nat.le_refl s.heap.objs.size)
  have hlow : (s.heap.objs.size == sysModules) = false := beq_eq_false_iff_ne.mpr (Ne.symm (Nat.ne_of_lt I.big))
  refine ⟨.ref s.heap.objs.size, _, I.laid (t' := s.toks) (o := .ext (dnO G s.heap.objs.size [])) (fun b ob q => Heap.get?_push_of_some _ q) (Nat.le_refl _) ?_, rfl, h _ hf hlow⟩
  refine ⟨⟨_, #[], 0, Heap.get?_push_size _ rfl, ⟨rfl, rfl, rfl⟩, rfl, rfl⟩, ⟨_, Heap.get?_push_size _ rfl⟩, fun h1 h2 hq hk => ?_⟩
  obtain ⟨o1, es1, ep1, a1, a2, a3, a4⟩ := hq
  exact ⟨o1, es1, ep1, hk _ a1, a2, a3, a4⟩
def fDn : FE := fun _ S => .ok (.ref S.length) (S ++ [.dn [] []])
theorem je_dn : JE G X W (.Dict [] [] pos) fDn := by
  refine ⟨PE.weak (pe_dnNew (G := G)) ?_⟩
  rintro σ H Q ⟨ρ, η, σd, S, rσ, rs, p⟩
  intro a ha hlow
  have sm : Same H (upd H a (.ext (dnO G a []))) := fun b u e => by rw [upd_ne (ne_of_none e ha)]; exact e
  have rs1 := rs.hide ha sm ⟨_, upd_same, fun _ z => nomatch z⟩
  have nt : ∀ o vs, (upd H a (.ext (dnO G a []))) a ≠ some (.frz o (.tup vs)) := fun o vs z => by
    rw [upd_same] at z
    cases z
  have na : a ∉ η := (rs.fresh ha).2
  have ro : RO G (ρ ++ [a]) η (upd H a (.ext (dnO G a []))) a (.dn [] []) := ⟨[], [], upd_same, ⟨rfl, List.nodup_nil, (fun _ h => nomatch h), hlow, Nat.zero_le _⟩, .nil, RDs.nil, RDs.nil⟩
  refine p (ρ ++ [a]) _ (.ref a) (ext_adopt rs (Ext.of_same sm) (Nul.of ha)) (rs1.adopt na nt (fun l z => by rw [upd_same] at z; cases z) ro) ?_
  rw [RD]
  exact ⟨a, by rw [← rs.len, List.getElem?_append_right (Nat.le_refl _)]; simp, rfl⟩
end

/-! ### {k: v} -/
theorem wpAny_Dict_entries {prog : Program} {w : World} {K : Type} [DecidableEq K] {knd : HeapKind prog w K} {A : Around} {E : Value → Shared → Prop} {s : Shared} {env : Env} {keys : List (Option Expr)} {values : List Expr} {pos : Pos} {Q : Value → Shared → Prop} (hu : knd.room A)
    (hall : keys.all (·.isSome) = true) (hl : keys.length = values.length) (h0 : keys ≠ []) (hlen : keys.length ≤ 15)
    (h : wpAny (model prog w) A (evalPairs (pairTrees keys values env pos)) (fun vs s₁ => ∃ ps, CarriesH knd s₁.heap vs ps ∧ s₁.heap.DictOfH knd s.heap.objs.size [] ∧
      ∀ h' tk, h'.DictOfH knd s.heap.objs.size (storedAllH [] ps) → Heap.SameBut s.heap.objs.size s₁.heap h' → Q (.ref s.heap.objs.size) { s₁ with heap := h', toks := tk }) E
      { s with heap := s.heap.push { cls := .type "dict", data := .dict #[] } }) :
    wpAny (model prog w) A (eval (.Dict keys values pos) env) Q E s := by
  have hn := pairTrees_length keys values env pos hall hl
  have hp0 : pairTrees keys values env pos ≠ [] := by
    intro he
    rw [he] at hn
    exact h0 (List.length_eq_zero_iff.mp hn.symm)
  rw [arm_eval_Dict, zip_pairTrees keys values env pos hall hl, dictDisplay_pairs _ hp0 (by rw [hn]; omega)]
  exact wpAny_bind (wpAny_standAt (wpAny_bind (wpAny_subDictH (knd := knd) (Q := fun d s' => wpAny (model prog w) A (pure (Value.ref d)) Q E s') hu (by rw [hn]; exact hlen)
    (wpAny_mono h (fun vs s₁ h₁ => by obtain ⟨ps, hc, hm, hq⟩ := h₁; exact ⟨ps, hc, hm, fun h' tk a b => wpAny_pure (hq h' tk a b)⟩) fun _ _ e => e))))
def tDn1 (G : Gm) (tk tv : TE) : TE := fun σ H Q => ∀ p, H p = none → (p == sysModules) = false → tk σ (upd H p (.ext (dnO G p []))) fun x H1 => tv σ H1 fun y H2 =>
  H2 p = some (.ext (dnO G p [])) ∧ ∃ k, KeyAt G H2 x k ∧ ∀ q w, x = .ref q → RelV y w → Q (.ref p) (upd H2 p (.ext (dnO G p [(k, q, w)])))
section
variable {G : Gm} {X : Cx} {W : WX} {pos : Pos} {a b : Expr} {fa fb : FE}
theorem ext_ok {P : Program} {w : World} {H : Hp} {h : Heap} {a : Addr} {xs : List (NestedKey × Addr × Value)} (hq : dnO G a xs h) : ObjOk P w H h a (.ext (dnO G a xs)) := by
  obtain ⟨o, es, ep, g1, g2, g3, g4⟩ := hq
  refine ⟨⟨o, es, ep, g1, g2, g3, g4⟩, ⟨o, g1⟩, fun h1 h2 hq hk => ?_⟩
  obtain ⟨o1, es1, ep1, a1, a2, a3, a4⟩ := hq
  exact ⟨o1, es1, ep1, hk _ a1, a2, a3, a4⟩
theorem pe_dn1 [F : Fits G X] {tk tv : TE} (hu : X.A.units + 64 < cLine) (hk : PE X a tk) (hv : PE X b tv) : PE X (.Dict [some a] [b] pos) (tDn1 G tk tv) := by
  refine ⟨fun pins s σ H Q I h => ?_⟩
  have hf := I.hok.fresh (Nat.le_refl s.heap.objs.size)
  have hlow : (s.heap.objs.size == sysModules) = false := beq_eq_false_iff_ne.mpr (Ne.symm (Nat.ne_of_lt I.big))
  have I1 : Inv X pins σ (upd H s.heap.objs.size (.ext (dnO G s.heap.objs.size []))) { s with heap := s.heap.push { cls := .type "dict", data := .dict #[] } } :=
    I.laid (t' := s.toks) (fun b ob q => Heap.get?_push_of_some _ q) (Nat.le_refl _) (ext_ok ⟨_, #[], 0, Heap.get?_push_size _ rfl, ⟨rfl, rfl, rfl⟩, rfl, rfl⟩)
  refine wpAny_Dict_entries (knd := nestedKind X.prog X.w) (by show X.A.units + 8 < cLine; omega) rfl rfl (by simp) (by show 1 ≤ 15; decide) ?_
  refine pairTrees_cons_walk (thn (hk.run pins _ σ _ _ I1 (h _ hf hlow)) fun u s1 ⟨x, H1, I2, rx, q1⟩ => thn (hv.run pins s1 σ H1 _ I2 q1) fun w2 s2 ⟨y, H2, I3, ry, q2⟩ => ?_)
  refine pairTrees_nil_walk ?_
  obtain ⟨e2, k, kx, q3⟩ := q2
  obtain ⟨p, rfl, ki⟩ := key_is I3 kx rx
  have ei : x = .ref p := by
    cases x with
    | ref c => cases (show Value.ref p = Value.ref c from rx); rfl
    | non => cases rx
    | bl _ => cases rx
    | int _ => obtain ⟨_, e⟩ := rx; cases e
    | str _ => obtain ⟨_, e⟩ := rx; cases e
    | byt _ => obtain ⟨_, e⟩ := rx; cases e
    | flt _ => obtain ⟨_, e⟩ := rx; cases e
    | ty _ => cases rx
  have d0 : s2.heap.DictOfH (nestedKind X.prog X.w) s.heap.objs.size [] := by
    obtain ⟨⟨o, es, ep, h1, h2, h3, h4⟩, _, _⟩ := (show dnO G s.heap.objs.size [] s2.heap ∧ _ from I3.hok _ _ e2)
    exact ⟨o, es, ep, h1, h2, h3, h4, (fun _ h => nomatch h), List.nodup_nil⟩
  refine ⟨[(k, p, w2)], ⟨rfl, rfl, ki, True.intro⟩, d0, fun h' tk hm sb => ?_⟩
  obtain ⟨ob, es, ep, g1, g2, g3, g4, g5, g6⟩ := hm
  refine ⟨.ref s.heap.objs.size, _, I3.write (x := s.heap.objs.size) (e := s.heap.objs.size) (by rw [e2]; exact True.intro) (.inl rfl) (fun c w hc hw => (sb.2 c hc).trans hw) ⟨_, g1⟩ (ext_ok ⟨ob, es, ep, g1, g2, g3, by rw [F.P, F.w]; exact g4⟩), rfl, q3 p w2 ei ry⟩

section
variable {ρ η : List Addr} {H : Hp}
def PlainH (u : HO) : Prop := (∀ o vs, u ≠ .frz o (.tup vs)) ∧ (∀ l, u ≠ .xd l) ∧ (∀ ps, u ≠ .tbl ps) ∧ ∀ c q, u ≠ LamX.CodeO c q
theorem odd_dn {a : Addr} {xs : List (NestedKey × Addr × Value)} : PlainH (.ext (dnO G a xs)) := by
  refine ⟨(fun _ _ z => nomatch z), (fun _ z => nomatch z), (fun _ z => nomatch z), fun c q z => ?_⟩
  exact code_dn z.symm
mutual
theorem RD.hidU {D : Addr} {u w : HO} (hD : H D = some u) (nt : PlainH u) : ∀ {d : Fx.D} {v : V}, RD G ρ (D :: η) H d v → RD G ρ (D :: η) (upd H D w) d v
  | .non, v, h => by rw [RD] at h ⊢; exact h
  | .bl _, v, h => by rw [RD] at h ⊢; exact h
  | .int _, v, h => by rw [RD] at h ⊢; exact h
  | .str _, v, h => by rw [RD] at h ⊢; exact h
  | .tup ds, v, h => by
    rw [RD] at h ⊢
    obtain ⟨a, vs, e1, h1, hl, h2⟩ := h
    refine ⟨a, vs, e1, ?_, hl, RDs.hidU hD nt h2⟩
    rcases h1 with ⟨o, r, q, n⟩ | k
    · refine .inl ⟨o, ?_, q, n⟩
      rw [upd_ne (fun z => by subst z; rw [r] at hD; exact nt.1 _ _ (Option.some.inj hD).symm)]
      exact r
    · exact .inr k
  | .lst ds, v, h => by
    rw [RD] at h ⊢
    obtain ⟨a, vs, e1, ⟨r, n1, n2⟩, hl, h2⟩ := h
    have na : a ≠ D := fun z => n2 (z ▸ List.mem_cons_self)
    exact ⟨a, vs, e1, ⟨by rw [upd_ne na]; exact r, n1, n2⟩, hl, RDs.hidU hD nt h2⟩
  | .scr ds, v, h => by
    rw [RD] at h ⊢
    obtain ⟨a, vs, e1, q, hl, h2⟩ := h
    refine ⟨a, vs, e1, ?_, hl, RDs.hidU hD nt h2⟩
    rcases q with ⟨r, n1, n2⟩ | k
    · have na : a ≠ D := fun z => n2 (z ▸ List.mem_cons_self)
      refine .inl ⟨?_, n1, n2⟩
      rcases r with r | ⟨o, r⟩
      · exact .inl (by rw [upd_ne na]; exact r)
      · exact .inr ⟨o, by rw [upd_ne na]; exact r⟩
    · exact .inr k
  | .exn a d c fs, v, h => by
    rw [RD] at h ⊢
    refine ⟨h.1, h.2.imp id fun ⟨dd, e1, e2, e3⟩ => ⟨dd, e1, ?_, e3⟩⟩
    rw [upd_ne (fun z => by subst z; rw [e2] at hD; exact nt.2.1 _ (Option.some.inj hD).symm)]
    exact e2
  | .dct ks ds, v, h => by
    rw [RD] at h ⊢
    obtain ⟨a, xs, vs, e1, ⟨r, n1, n2⟩, q, hv, h2, h3⟩ := h
    have na : a ≠ D := fun z => n2 (z ▸ List.mem_cons_self)
    exact ⟨a, xs, vs, e1, ⟨by rw [upd_ne na]; exact r, n1, n2⟩, q, hv, RDs.hidU hD nt h2, RDs.hidU hD nt h3⟩
  | .ref n, v, h => by rw [RD] at h ⊢; exact h
theorem RDs.hidU {D : Addr} {u w : HO} (hD : H D = some u) (nt : PlainH u) : ∀ {ds : List Fx.D} {vs : List V}, RDs G ρ (D :: η) H ds vs → RDs G ρ (D :: η) (upd H D w) ds vs
  | [], vs, h => by rw [RDs] at h ⊢; exact h
  | d :: ds, vs, h => by
    rw [RDs] at h ⊢
    obtain ⟨v, r, e1, h1, h2⟩ := h
    exact ⟨v, r, e1, RD.hidU hD nt h1, RDs.hidU hD nt h2⟩
end
theorem RS.hidU {D : Addr} {u w : HO} {S : Sto} (r : RS G ρ (D :: η) H S) (hD : H D = some u) (nt : PlainH u) (ntw : ∀ ps, w ≠ .tbl ps) : RS G ρ (D :: η) (upd H D w) S := by
  have nD : D ∉ ρ := fun z => r.dis D z List.mem_cons_self
  refine ⟨r.len, r.nd, r.dis, fun b hb => ?_, fun n a o h1 h2 => ?_, tabs_hid r.tab hD nt.2.2.1 nt.2.2.2⟩
  · by_cases q : b = D
    · exact ⟨w, by rw [q, upd_same], ntw⟩
    · obtain ⟨o, e1, e2⟩ := r.hid b hb
      exact ⟨o, by rw [upd_ne q]; exact e1, e2⟩
  · have na : a ≠ D := fun z => nD (z ▸ List.mem_of_getElem? h1)
    have q := r.ob n a o h1 h2
    cases o with
    | lst ds => obtain ⟨vs, e, z, u⟩ := q; exact ⟨vs, (upd_ne na).trans e, z, u.hidU hD nt⟩
    | dn ks ds => obtain ⟨xs, vs, e, z, u, t, y⟩ := q; exact ⟨xs, vs, (upd_ne na).trans e, z, u, t.hidU hD nt, y.hidU hD nt⟩
    | dl ks ds => obtain ⟨od, xs, vs, e, z, u, t, y⟩ := q; exact ⟨od, xs, vs, (upd_ne na).trans e, z, u, t.hidU hD nt, y.hidU hD nt⟩
    | dk kvs => obtain ⟨l, e, z, u, t⟩ := q; exact ⟨l, (upd_ne na).trans e, z, u, t.hidU hD nt⟩
    | ins c fs => obtain ⟨dx, l, e, u, t⟩ := q; exact ⟨dx, l, (upd_ne na).trans e, u, t.hidU hD nt⟩
end
theorem RX.unhide {ρ η : List Addr} {H : Hp} {c : Addr} {x : Exc} {C : Value} {dd : Option Addr} (r : RX G ρ (c :: η) H x C dd) : RX G ρ η H x C dd := by
  obtain ⟨h1, h2⟩ := r
  refine ⟨h1, h2.imp id ?_⟩
  rintro ⟨d, l, g1, g2, g3, g4⟩
  exact ⟨d, l, g1, g2, g3, g4.unhide⟩
theorem Post.hide {α : Type} {ρ η : List Addr} {σ : L2.St} {H H1 : Hp} {c : Addr} {o : Out α} {k : α → Sto → Prop} (p : Post G η σ W ρ H o k) (e0 : Ext ρ H ρ H1) : Post G (c :: η) σ W ρ H1 o k := by
  cases o with
  | ok a S => exact p
  | exc x S => exact fun ρ' H' C dd e rs rx => p ρ' H' C dd (e0.trans e) rs.unhide rx.unhide
  | stuck => exact p
def fDn1 (fa fb : FE) : FE := fun σ S => (fa σ S).bind fun x S1 => (fb σ S1).bind fun y S2 => match tupK x with
  | some _ => .ok (.ref S2.length) (S2 ++ [.dn [x] [y]])
  | none => .stuck
theorem je_dn1 [F : Fits G X] {k0 : Nat} (h : Here X W k0) (ha : JE G X W a fa) (hb : JE G X W b fb) : JE G X W (.Dict [some a] [b] pos) (fDn1 fa fb) := by
  refine ⟨PE.weak (pe_dn1 (G := G) (here_hu h) ha.pe hb.pe) ?_⟩
  rintro σ H Q ⟨ρ, η, σd, S, rσ, rs, p⟩
  intro c hc hlow
  have sm : Same H (upd H c (.ext (dnO G c []))) := fun b u e => by rw [upd_ne (ne_of_none e hc)]; exact e
  have e0 := Ext.of_same (ρ := ρ) sm
  have rs0 := rs.hide hc sm ⟨_, upd_same, fun _ z => nomatch z⟩
  have rσ0 : RSl G ρ (c :: η) (upd H c (.ext (dnO G c []))) σd σ := rσ.mono e0 fun x hx => by
    rcases List.mem_cons.mp hx with e | hx
    · exact .inr (e ▸ hc)
    · exact .inl hx
  refine LE.of rσ0 rs0 (Post.hide p e0) fun x S1 ρ1 H1 u e1 rσ1 rs1 rx p1 => ?_
  refine LE.of rσ1 rs1 p1 fun y S2 ρ2 H2 v e2 rσ2 rs2 ry p2 => ?_
  have nc : c ∉ ρ := (rs.fresh hc).1
  have na : c ∉ η := (rs.fresh hc).2
  have hc1 : (upd H c (.ext (dnO G c []))) c = some (.ext (dnO G c [])) := upd_same
  have eA := e1.trans e2
  have hc2 : H2 c = some (.ext (dnO G c [])) ∧ c ∉ ρ2 := eA.st c _ hc1 nc (fun _ z => nomatch z)
  cases hk : tupK x with
  | none =>
    rw [hk] at p2
    exact p2.elim
  | some k =>
    rw [hk] at p2
    have rx2 := rx.ext e2
    obtain ⟨⟨tds, rfl⟩, hnk, hdep⟩ := tupK_at hk
    refine ⟨hc2.1, k, key_at rx2 hk, fun q w ei rv => ?_⟩
    have na2 : ∀ o vs, (upd H2 c (.ext (dnO G c [(k, q, w)]))) c ≠ some (.frz o (.tup vs)) := fun o vs z => by
      rw [upd_same] at z
      cases z
    have nt2 : PlainH (HO.ext (dnO G c [])) := odd_dn
    have na3 : ∀ l, (upd H2 c (.ext (dnO G c [(k, q, w)]))) c ≠ some (.xd l) := fun l z => by
      rw [upd_same] at z
      cases z
    have rsw := rs2.hidU (w := .ext (dnO G c [(k, q, w)])) hc2.1 nt2 (fun _ z => nomatch z)
    have rxw := (rx2.hidU (w := .ext (dnO G c [(k, q, w)])) hc2.1 nt2).adopt na2 na3
    have ryw := (ry.hidU (w := .ext (dnO G c [(k, q, w)])) hc2.1 nt2).adopt na2 na3
    have ro : RO G (ρ2 ++ [c]) η (upd H2 c (.ext (dnO G c [(k, q, w)]))) c (.dn [.tup tds] [y]) := by
      refine ⟨[(k, q, w)], [v], upd_same, ⟨?_, by simp, ?_, hlow, by show 1 ≤ sizeLine; decide⟩, .cons rv .nil, ?_, RDs.cons ryw RDs.nil⟩
      · show nks [.tup tds] = some [k]
        rw [nks, hnk]
        rfl
      · intro z hz
        have := List.mem_singleton.mp hz
        subst this
        exact hdep
      · subst ei
        exact RDs.cons rxw RDs.nil
    have ex : Ext ρ H (ρ2 ++ [c]) (upd H2 c (.ext (dnO G c [(k, q, w)]))) := by
      have e3 := e0.trans eA
      have e4 := ext_adopt rs e3 (Nul.of hc)
      refine ⟨e4.pre, fun b o hb nb nt => ?_, fun b o u hb => ?_⟩
      · have nbc : b ≠ c := fun z => by rw [z, hc] at hb; cases hb
        rw [upd_ne nbc]
        exact e4.st b o hb nb nt
      · have nbc : b ≠ c := fun z => by rw [z, hc] at hb; cases hb
        rw [upd_ne nbc]
        exact e4.fz b o u hb
    refine p2 (ρ2 ++ [c]) _ (.ref c) ex (rsw.adopt na na2 na3 ro) ?_
    rw [RD]
    exact ⟨c, by rw [← rs2.len, List.getElem?_append_right (Nat.le_refl _)]; simp, rfl⟩
end
end Fx

/-! Fx16: instances: their attributes, their methods, their making. -/
namespace Fx
open PySem PySem.Spec L2
def putD (f : Str) (d : D) : List (Str × D) → List (Str × D)
  | [] => [(f, d)]
  | p :: r => if p.1 = f then (p.1, d) :: r else p :: putD f d r
section
variable {G : Gm} {ρ η : List Addr} {H : Hp}
theorem fs_look {f : Str} : ∀ {fs : List (Str × D)} {l : List (Str × V)}, l.map (·.1) = fs.map (·.1) → RDs G ρ η H (fs.map (·.2)) (l.map (·.2)) →
    (fs.lookup f = none ∧ l.lookup f = none) ∨ ∃ d v, fs.lookup f = some d ∧ l.lookup f = some v ∧ RD G ρ η H d v
  | [], [], _, _ => .inl ⟨rfl, rfl⟩
  | [], _ :: _, e, _ => nomatch e
  | _ :: _, [], e, _ => nomatch e
  | (g, x) :: fs, (k, v) :: l, e, r => by
    injection e with e1 e2
    have e1' : k = g := e1
    subst e1'
    have r' : RDs G ρ η H (x :: fs.map (·.2)) (v :: l.map (·.2)) := r
    rw [RDs] at r'
    obtain ⟨v', r2, ee, h1, h2⟩ := r'
    injection ee with ea eb
    subst ea eb
    cases q : (f == k) with
    | true =>
      refine .inr ⟨x, v, ?_, ?_, h1⟩
      · rw [List.lookup_cons, q]
      · rw [List.lookup_cons, q]
    | false =>
      rcases fs_look (f := f) e2 h2 with ⟨a, b⟩ | ⟨d, w, a, b, c⟩
      · refine .inl ⟨?_, ?_⟩
        · rw [List.lookup_cons, q]; exact a
        · rw [List.lookup_cons, q]; exact b
      · refine .inr ⟨d, w, ?_, ?_, c⟩
        · rw [List.lookup_cons, q]; exact a
        · rw [List.lookup_cons, q]; exact b
theorem fs_put {f : Str} {d : D} {y : V} (rd : RD G ρ η H d y) : ∀ {fs : List (Str × D)} {l : List (Str × V)}, l.map (·.1) = fs.map (·.1) → RDs G ρ η H (fs.map (·.2)) (l.map (·.2)) →
    (putF f y l).map (·.1) = (putD f d fs).map (·.1) ∧ RDs G ρ η H ((putD f d fs).map (·.2)) ((putF f y l).map (·.2))
  | [], [], _, _ => ⟨rfl, RDs.cons rd RDs.nil⟩
  | [], _ :: _, e, _ => nomatch e
  | _ :: _, [], e, _ => nomatch e
  | (g, x) :: fs, (k, v) :: l, e, r => by
    injection e with e1 e2
    have e1' : k = g := e1
    subst e1'
    have r' : RDs G ρ η H (x :: fs.map (·.2)) (v :: l.map (·.2)) := r
    rw [RDs] at r'
    obtain ⟨v', r2, ee, h1, h2⟩ := r'
    injection ee with ea eb
    subst ea eb
    unfold putD putF
    by_cases q : k = f
    · rw [if_pos q, if_pos q]
      refine ⟨?_, RDs.cons rd h2⟩
      rw [List.map_cons, List.map_cons]
      exact congrArg (k :: ·) e2
    · rw [if_neg q, if_neg q]
      obtain ⟨a, b⟩ := fs_put (f := f) rd e2 h2
      refine ⟨?_, RDs.cons h1 b⟩
      rw [List.map_cons, List.map_cons]
      exact congrArg (k :: ·) a
end
/-- an instance -/
def insS (x : D) (S : Sto) : Option (Nat × Nat × List (Str × D)) := match x with
  | .ref i => (match S[i]? with
    | some (.ins n fs) => some (i, n, fs)
    | _ => none)
  | _ => none
theorem ins_at {G : Gm} {ρ η : List Addr} {H : Hp} {S : Sto} {x : D} {v : V} {i n : Nat} {fs : List (Str × D)} (rs : RS G ρ η H S) (rx : RD G ρ η H x v) (h : insS x S = some (i, n, fs)) :
    ∃ a dx l, x = .ref i ∧ v = .ref a ∧ ρ[i]? = some a ∧ H a = some (.ins (G.cl n) dx l) ∧ l.map (·.1) = fs.map (·.1) ∧ RDs G ρ η H (fs.map (·.2)) (l.map (·.2)) := by
  unfold insS at h
  split at h
  · split at h
    · rename_i n' fs' hn
      cases h
      rw [RD] at rx
      obtain ⟨a, ha, rfl⟩ := rx
      obtain ⟨dx, l, e, k, r⟩ := rs.ob i a _ ha hn
      exact ⟨a, dx, l, rfl, rfl, ha, e, k, r⟩
    · cases h
  · cases h
/-- no class has an attribute of the name -/
structure FldF (G : Gm) (nc : Nat) (f : Str) : Prop where
  ok : ∀ n, n < nc → Cls G.K (G.cl n) ∧ NoAttr G.K (G.cl n) f
/-- the attribute, by data -/
def getA (nc : Nat) (f : Str) (x : D) (S : Sto) : Option D := (insS x S).bind fun p => if p.2.1 < nc then p.2.2.lookup f else none
def setA (nc : Nat) (f : Str) (x y : D) (S : Sto) : Option Sto := (insS x S).bind fun p => if p.2.1 < nc ∧ p.2.2.length < 900 then some (S.set p.1 (.ins p.2.1 (putD f y p.2.2))) else none
def orStuck {α : Type} (o : Option α) (S : Sto) : Out α := match o with
  | some d => .ok d S
  | none => .stuck
def fFld (nc : Nat) (f : Str) (fo : FE) : FE := fun σ S => (fo σ S).bind fun x S1 => orStuck (getA nc f x S1) S1
def sFs (nc : Nat) (f : Str) (fv fo : FE) : FS := fun σ S => (fv σ S).bindS σ fun y S1 => (fo σ S1).bindS σ fun x S2 => match setA nc f x y S2 with
  | some S3 => .nx σ S3
  | none => .stuck
theorem setA_ok {G : Gm} {ρ η : List Addr} {H : Hp} {S S' : Sto} {x y : D} {v w : V} {nc : Nat} {f : Str} (rs : RS G ρ η H S) (rx : RD G ρ η H x v) (ry : RD G ρ η H y w) (h : setA nc f x y S = some S') :
    ∃ a n dx l, v = .ref a ∧ n < nc ∧ H a = some (.ins (G.cl n) dx l) ∧ l.length < 900 ∧ RS G ρ η (upd H a (.ins (G.cl n) dx (putF f w l))) S' ∧ Ext ρ H ρ (upd H a (.ins (G.cl n) dx (putF f w l))) ∧ (insS x S).map (·.2.1) = some n := by
  unfold setA at h
  obtain ⟨⟨i, n, fs⟩, hi, h⟩ := Option.bind_eq_some_iff.mp h
  dsimp only at h
  split at h
  · rename_i hn
    cases h
    obtain ⟨a, dx, l, rfl, rfl, ha, e, k, r⟩ := ins_at rs rx hi
    have nz : ∀ o u, H a ≠ some (.frz o u) := fun o u z => by rw [e] at z; cases z
    have ex : Ext ρ H ρ (upd H a (.ins (G.cl n) dx (putF f w l))) := ⟨⟨[], by simp⟩, fun b o hb nb _ => ⟨by rw [upd_ne (fun (z : b = a) => nb (by rw [z]; exact List.mem_of_getElem? ha))]; exact hb, nb⟩, fun b w y q => by rw [upd_ne (fun (z : b = a) => nz w y (z ▸ q))]; exact q⟩
    obtain ⟨q1, q2⟩ := fs_put (f := f) (ry.ext ex) k (r.ext ex)
    have hl : l.length = fs.length := by have := congrArg List.length k; simpa using this
    have w := rs.write (u := .ins (G.cl n) dx (putF f w l)) ha (o := .ins n (putD f y fs)) ⟨dx, _, upd_same, q1, q2⟩ nz
    exact ⟨a, n, dx, l, rfl, hn.1, e, by rw [hl]; exact hn.2, w.1, w.2, by rw [hi]; rfl⟩
  · cases h
section
variable {G : Gm} {X : Cx} {W : WX} {nc : Nat} {f : Str} {o e : Expr} {fo fe : FE} {pos pos' tpos : Pos}
theorem je_fld [F : Fits G X] (c : FldF G nc f) (ho : JE G X W o fo) (hb : attributeBase o f X.env (eval o X.env) = eval o X.env := by rfl) : JE G X W (.Attribute o f pos) (fFld nc f fo) := by
  refine ⟨PE.weak (pe_fld ho.pe hb) ?_⟩
  rintro σ H Q ⟨ρ, η, σd, S, rσ, rs, p⟩
  refine LE.of rσ rs p fun x S1 ρ1 H1 u e1 rσ1 rs1 rx p1 => ?_
  cases hg : getA nc f x S1 with
  | none => rw [hg] at p1; exact p1.elim
  | some d =>
    rw [hg] at p1
    unfold getA at hg
    obtain ⟨⟨i, n, fs⟩, hi, h⟩ := Option.bind_eq_some_iff.mp hg
    dsimp only at h
    split at h
    · rename_i hn
      obtain ⟨a, dx, l, rfl, rfl, ha, e, k, r⟩ := ins_at rs1 rx hi
      rcases fs_look (f := f) k r with ⟨z, _⟩ | ⟨d', v, h1, h2, h3⟩
      · rw [z] at h; cases h
      · rw [h1] at h
        cases h
        exact ⟨a, G.cl n, dx, l, v, rfl, e, F.K ▸ (c.ok n hn).1, F.K ▸ (c.ok n hn).2, h2, p1 ρ1 H1 v e1 rs1 h3⟩
    · cases h
theorem js_fld [F : Fits G X] (c : FldF G nc f) (ho : JE G X W o fo) (he : JE G X W e fe) (hs : swapsWith e (some (.Attribute o f pos')) pos.line X.env = pure false := by rfl) : JS G X W (.Assign [.Attribute o f pos'] e pos) (sFs nc f fe fo) := by
  refine ⟨PS.weak (ps_fld ho.pe he.pe hs) ?_⟩
  rintro E σ H ⟨ρ, η, σd, S, rσ, rs, p⟩
  refine LE.ofS rσ rs p fun y S1 ρ1 H1 w e1 rσ1 rs1 ry p1 => ?_
  refine LE.ofS rσ1 rs1 p1 fun x S2 ρ2 H2 v e2 rσ2 rs2 rx p2 => ?_
  cases hg : setA nc f x y S2 with
  | none => rw [hg] at p2; exact p2.elim
  | some S3 =>
    rw [hg] at p2
    obtain ⟨a, n, dx, l, rfl, hn, h1, h2, h3, h4, _⟩ := setA_ok rs2 rx (ry.ext e2) hg
    exact ⟨a, G.cl n, dx, l, rfl, h1, F.K ▸ (c.ok n hn).1, F.K ▸ (c.ok n hn).2, by omega, p2 ρ2 _ _ h4 (rσ2.ext h4) h3⟩
end

/-! ### o.f op= e -/
def opI (f : Int → Int → Int) (x y : D) : Option D := match x, y with
  | .int i, .int j => some (.int (f i j))
  | _, _ => none
/-- an operator on two ints -/
structure InI (X : Cx) (op : Operator) (f : Int → Int → Int) : Prop where
  io : InOp X op fun x y H Q => ∃ i j, x = .int i ∧ y = .int j ∧ Q (.int (f i j)) H
theorem ini_add {X : Cx} : InI X .Add fun i j => i + j := ⟨in_add⟩
theorem ini_sub {X : Cx} : InI X .Sub fun i j => i - j := ⟨in_sub⟩
def sFa (nc : Nat) (f : Str) (g : Int → Int → Int) (fo fe : FE) : FS := fun σ S => (fo σ S).bindS σ fun x S1 => match getA nc f x S1 with
  | none => .stuck
  | some d => (fe σ S1).bindS σ fun y S2 => match opI g d y with
    | none => .stuck
    | some z => match setA nc f x z S2 with
      | some S3 => if (insS x S1).map (·.2.1) = (insS x S2).map (·.2.1) then .nx σ S3 else .stuck
      | none => .stuck
section
variable {G : Gm} {X : Cx} {W : WX} {nc : Nat} {f : Str} {o e : Expr} {fo fe : FE} {pos pos' tpos : Pos}
theorem getA_at {ρ η : List Addr} {H : Hp} {S : Sto} {x d : D} {u : V} (rs : RS G ρ η H S) (rx : RD G ρ η H x u) (hg : getA nc f x S = some d) :
    ∃ a n dx l v, u = .ref a ∧ n < nc ∧ H a = some (.ins (G.cl n) dx l) ∧ l.lookup f = some v ∧ RD G ρ η H d v ∧ (insS x S).map (·.2.1) = some n := by
  unfold getA at hg
  obtain ⟨⟨i, n, fs⟩, hi, h⟩ := Option.bind_eq_some_iff.mp hg
  dsimp only at h
  split at h
  · rename_i hn
    obtain ⟨a, dx, l, rfl, rfl, ha, e, k, r⟩ := ins_at rs rx hi
    rcases fs_look (f := f) k r with ⟨z, _⟩ | ⟨d', v, h1, h2, h3⟩
    · rw [z] at h; cases h
    · rw [h1] at h
      cases h
      exact ⟨a, n, dx, l, v, rfl, hn, e, h2, h3, by rw [hi]; rfl⟩
  · cases h
theorem js_fldaug [F : Fits G X] {op : Operator} {g : Int → Int → Int} (q : InI X op g) (c : FldF G nc f) (ho : JE G X W o fo) (he : JE G X W e fe) : JS G X W (.AugAssign (.Attribute o f tpos) op e pos) (sFa nc f g fo fe) := by
  refine ⟨PS.weak (ps_fldaug ho.pe he.pe q.io) ?_⟩
  rintro E σ H ⟨ρ, η, σd, S, rσ, rs, p⟩
  refine LE.ofS rσ rs p fun x S1 ρ1 H1 v e1 rσ1 rs1 rx p1 => ?_
  cases hg : getA nc f x S1 with
  | none => rw [hg] at p1; exact p1.elim
  | some d =>
    rw [hg] at p1
    obtain ⟨a, n, dx, l, w, rfl, hn, h1, h2, h3, hn1⟩ := getA_at rs1 rx hg
    refine ⟨a, G.cl n, dx, l, w, rfl, h1, F.K ▸ (c.ok n hn).1, F.K ▸ (c.ok n hn).2, h2, ?_⟩
    refine LE.ofS rσ1 rs1 p1 fun y S2 ρ2 H2 u e2 rσ2 rs2 ry p2 => ?_
    cases ho : opI g d y with
    | none => rw [ho] at p2; exact p2.elim
    | some z =>
      rw [ho] at p2
      dsimp only at p2
      cases hs : setA nc f x z S2 with
      | none => rw [hs] at p2; exact p2.elim
      | some S3 =>
        rw [hs] at p2
        unfold opI at ho
        split at ho
        · rename_i i j
          cases ho
          have h3' := h3
          rw [RD] at h3' ry
          subst h3' ry
          have rz : RD G ρ2 η H2 (.int (g i j)) (.int (g i j)) := by rw [RD]
          obtain ⟨a', n', dx', l', ea, hn', g1, g2, g3, g4, hn2⟩ := setA_ok rs2 (rx.ext e2) rz hs
          cases ea
          dsimp only at p2
          split at p2
          · rename_i hh
            rw [hn1, hn2] at hh
            cases hh
            exact ⟨i, j, rfl, rfl, dx', l', g1, by omega, p2 ρ2 _ _ g4 (rσ2.ext g4) g3⟩
          · exact p2.elim
        · cases ho
end

/-! ### o[i] op= e of a list -/
def rIxW (K : PySem.W.Frag) : R2 := rIxL K
theorem pget_list {X : Cx} : PGet X (rIxW X.K) := by
  intro pins s σ H o i ov iv Q I ro ri hh
  obtain ⟨l, vs, k, x, rfl, rfl, sq, at0, fin⟩ := hh
  cases ro
  obtain ⟨tk, rfl⟩ := ri
  obtain ⟨us, rel, isl, _⟩ := I.list sq
  obtain ⟨n, e1, e2, e3, e4, e5⟩ := atI_get at0
  obtain ⟨u, eu, ru⟩ := rel.get e2
  have el := rel.length
  have big := line63
  have goal : EP X pins σ Q u s := ⟨x, H, I, ru, fin⟩
  rcases Int.lt_or_le k 0 with neg | pos
  · rw [seqIndex_neg neg e4] at e1
    have en := Option.some.inj e1
    refine wpAny_getItem_list_neg isl.isList neg ?_ ?_ ?_ goal
    · rw [List.size_toArray]; omega
    · omega
    · rw [List.size_toArray, ← el, en]; simpa using eu
  · rw [seqIndex_of pos e5] at e1
    have en := Option.some.inj e1
    refine wpAny_getItem_list isl.isList pos ?_ ?_ goal
    · omega
    · rw [en]; simpa using eu
def opIxL (x i : D) (S : Sto) : Option D := match i with
  | .int k => (seqL x S).bind fun xs => L2.atI xs k
  | _ => none
theorem lnk_ixL {G : Gm} : Lnk G (rIxW G.K) opIxL := by
  intro ρ η H S x y u v d Q rs rx ry h k
  unfold opIxL at h
  split at h
  · rename_i i
    rw [RD] at ry
    subst ry
    obtain ⟨xs, h1, h2⟩ := Option.bind_eq_some_iff.mp h
    obtain ⟨a, vs, rfl, hq, _, r⟩ := seqL_at rs rx h1
    obtain ⟨z, hz, rz⟩ := r.atI h2
    exact ⟨a, vs, i, z, rfl, rfl, hq, hz, k H z (Same.refl H) rz⟩
  · cases h
def sAugL (op : D → D → Sto → Option (D × Sto)) (fo fi fe : FE) : FS := fun σ S => (fo σ S).bindS σ fun o S1 => (fi σ S1).bindS σ fun i S2 => match opIxL o i S2 with
  | none => .stuck
  | some d => (fe σ S2).bindS σ fun y S3 => match op d y S3 with
    | none => .stuck
    | some z => match opSetL o i z.1 z.2 with
      | some S4 => .nx σ S4
      | none => .stuck
section
variable {G : Gm} {X : Cx} {W : WX} {o i e : Expr} {fo fi fe : FE} {pos tpos : Pos}
theorem js_augL [F : Fits G X] {op : Operator} {t : TIp} {f : D → D → Sto → Option (D × Sto)} (hp : PIp X op t) (l : LnkIp G t f) (ho : JE G X W o fo) (hi : JE G X W i fi) (he : JE G X W e fe)
    (ha : ∀ ov iv new, augStore i ov iv new = (do holding [new, ov, iv] (setItem ov iv new); release [new, ov, iv] []; pure .next) := by intros; rfl) : JS G X W (.AugAssign (.Subscript o i tpos) op e pos) (sAugL f fo fi fe) := by
  refine ⟨PS.weak (ps_augS ho.pe hi.pe (F.K ▸ pget_list : PGet X (rIxW G.K)) he.pe hp set_list ha) ?_⟩
  rintro E σ H ⟨ρ, η, σd, S, rσ, rs, p⟩
  refine LE.ofS rσ rs p fun x S1 ρ1 H1 v e1 rσ1 rs1 rx p1 => ?_
  refine LE.ofS rσ1 rs1 p1 fun k S2 ρ2 H2 kv e2 rσ2 rs2 rk p2 => ?_
  cases hg : opIxL x k S2 with
  | none => rw [hg] at p2; exact p2.elim
  | some d =>
    rw [hg] at p2
    refine lnk_ixL ρ2 η H2 S2 x k v kv d _ rs2 (rx.ext e2) rk hg fun H3 dv sm rd => ?_
    have e3 := Ext.of_same (ρ := ρ2) sm
    refine LE.ofS (rσ2.ext e3) (rs2.same sm) (p2.shift e3) fun y S4 ρ4 H4 yv e4 rσ4 rs4 ry p4 => ?_
    cases ho : f d y S4 with
    | none => rw [ho] at p4; exact p4.elim
    | some z =>
      rw [ho] at p4
      refine l ρ4 η H4 S4 d y dv yv z.1 z.2 _ rs4 (rd.ext e4) ry ho fun H5 zv e5 rs5 rz => ?_
      dsimp only at p4
      cases hs : opSetL x k z.1 z.2 with
      | none => rw [hs] at p4; exact p4.elim
      | some S6 =>
        rw [hs] at p4
        refine lnk_setL ρ4 η H5 z.2 x k z.1 v kv zv S6 _ rs5 ((((rx.ext e2).ext e3).ext e4).ext e5) (((rk.ext e3).ext e4).ext e5) rz hs fun H6 e6 rs6 => ?_
        exact p4 ρ4 H6 _ (e5.trans e6) ((rσ4.ext e5).ext e6) rs6
end
end Fx

/-! Fx17: methods of own classes, new instances. -/
namespace Fx
open PySem PySem.Spec L2
section
variable {X : Cx} {CX : CXT} {k : Nat} {f C : Addr} {fd : FuncData} {ps : List Str} {sp : Sp} {E : St → XK} {x m : Str} {p pos apos : Pos} {e o : Expr} {es : List Expr} {ta : TE} {t : TA}
def tMtS (C : Addr) (m : Str) (sp : Sp) (E : St → XK) (ta : TE) (t : TA) : TE := fun σ H Q => ta σ H fun y H1 => ∃ b dy l, y = .ref b ∧ H1 b = some (.ins C dy l) ∧ l.lookup m = none ∧ t σ H1 fun ws H2 => sp (y :: ws) H2 Q (E σ)
theorem pe_mtS {pl : Sem Bool} (he : PE X o ta) (c : Cls X.K C) (hm : Meth X.K C m f) (F : FnOk X.prog X.w X.K X.mg X.base CX k f fd ps sp) (hr : Room k X.A) (hb : Binds X.K fd ps []) (hx : ∀ σ, PassesAt CX X σ (E σ)) (ha : PA X (e :: es) t)
    (h1 : starEach (e :: es) X.env = (false, eval e X.env) :: starEach es X.env := by rfl) (h2 : (backTo pos (starEach es X.env)).any (·.1) = false := by rfl)
    (h3 : eval (.Call (.Attribute o m apos) (e :: es) [] pos) X.env = (do
      let q ← eval o X.env
      standAt apos.atName
      let (g, fst) ← holding [q] (getMethod q m pl)
      callWith pos g fst (backTo pos (starEach (e :: es) X.env)) (backToKw pos (keywordEach [] X.env))) := by rfl) :
    PE X (.Call (.Attribute o m apos) (e :: es) [] pos) (tMtS C m sp E ta t) := by
  constructor
  intro pins s σ H Q I want
  refine PySem.W.methodCall_KW (pl := pl) ?_ h3
  refine thn (he.run pins s σ H _ I want) ?_
  rintro u s1 ⟨y, H1, I1, ry, b, dy, l, rfl, hb1, hl, q⟩
  cases (show u = Value.ref b from ry)
  refine getmeth_ok I1 hb1 c hm hl ?_
  refine PySem.W.callWith_K (first := [.ref b]) (h₀ := X.base) I.ok.mod.kin hm.kp ?_ h1 h2
  refine thn (ha.run pos pins s1 σ H1 _ I1 q) ?_
  rintro us s2 ⟨ws, H2, I2, r, q2⟩
  exact ⟨I2.kIn, run_fnS (vs := .ref b :: ws) F hr hb (hx σ) I2 (.cons rfl r) q2⟩
theorem pe_mtS0 {pl : Sem Bool} (he : PE X o ta) (c : Cls X.K C) (hm : Meth X.K C m f) (F : FnOk X.prog X.w X.K X.mg X.base CX k f fd ps sp) (hr : Room k X.A) (hb : Binds X.K fd ps []) (hx : ∀ σ, PassesAt CX X σ (E σ))
    (h3 : eval (.Call (.Attribute o m apos) [] [] pos) X.env = (do
      let q ← eval o X.env
      standAt apos.atName
      let (g, fst) ← holding [q] (getMethod q m pl)
      callWith pos g fst (backTo pos (starEach [] X.env)) (backToKw pos (keywordEach [] X.env))) := by rfl) :
    PE X (.Call (.Attribute o m apos) [] [] pos) (tMtS C m sp E ta tNil) := by
  constructor
  intro pins s σ H Q I want
  refine PySem.W.methodCall_KW (pl := pl) ?_ h3
  refine thn (he.run pins s σ H _ I want) ?_
  rintro u s1 ⟨y, H1, I1, ry, b, dy, l, rfl, hb1, hl, q⟩
  cases (show u = Value.ref b from ry)
  refine getmeth_ok I1 hb1 c hm hl ?_
  exact PySem.W.callWith_K0 (first := [.ref b]) I1.kIn hm.kp (run_fnS (vs := [.ref b]) F hr hb (hx σ) I1 (.cons rfl .nil) q)
/-- a new instance, made by its __init__ -/
def tMkS (C : Addr) (sp : Sp) (E : St → XK) (t : TA) : TE := fun σ H Q => t σ H fun ws H1 => ∀ b dy, H1 b = none → H1 dy = none → dy ≠ b → sp (.ref b :: ws) (upd (upd H1 dy (.own b)) b (.ins C dy [])) (fun v H2 => v = .non ∧ Q (.ref b) H2) (E σ)
theorem run_mkS {pins : List (Addr × Obj)} {σ : St} {H : Hp} {s : Shared} {Q : VK} {us : List Value} {ws : List V} (M : Mk X.K C f) (F : FnOk X.prog X.w X.K X.mg X.base CX k f fd ps sp) (hr : Room (k + 1) X.A) (hb : Binds X.K fd ps [])
    (hx : PassesAt CX X σ (E σ)) (I : Inv X pins σ H s) (r : Vals ws us)
    (want : ∀ b dy, H b = none → H dy = none → dy ≠ b → sp (.ref b :: ws) (upd (upd H dy (.own b)) b (.ins C dy [])) (fun v H2 => v = .non ∧ Q (.ref b) H2) (E σ)) :
    wpAny (model X.prog X.w) X.A (call (.ref C) us) (EP X pins σ Q) X.xe s := by
  have made := Inv.made (C := C) I
  have fr := fun n hn => I.hok.fresh (a := n) hn
  have wanted := want (s.heap.objs.size + 1) s.heap.objs.size (fr _ (Nat.le_succ _)) (fr _ (Nat.le_refl _)) (Nat.ne_of_lt (Nat.lt_succ_self _))
  have rel : Vals (V.ref (s.heap.objs.size + 1) :: ws) (Value.ref (s.heap.objs.size + 1) :: us) := .cons rfl r
  have many : (Value.ref (s.heap.objs.size + 1) :: us).length = ps.length := rel.length.symm.trans (F.len _ _ _ _ wanted)
  have bound := hb _ (Value.ref (s.heap.objs.size + 1) :: us) made.kIn (by rw [List.append_nil]; exact many)
  rw [List.append_nil] at bound
  have ran := F.run _ X.stack _ _ ⟨Value.ref (s.heap.objs.size + 1) :: us, []⟩ _ _ _ (E σ) (hr.make C us []) (made.env0.make C us []) bound rel wanted
  refine wpAny_call ?_
  refine make_map (f := f) I.kIn M.makes M.init (beq_iff_eq.mp M.fn) ?_
  refine codeAny_mono ran ?_
  intro res s' back
  match res, back with
  | .error ex, back => exact hx pins _ _ ex s' made back
  | .ok (.ret u), back =>
    obtain ⟨z, Ha, Ia, rz, rfl, qa⟩ := made.after back
    exact ⟨rz, .ref (s.heap.objs.size + 1), Ha, Ia, rfl, qa⟩
  | .ok .next, back => exact back.elim
  | .ok .brk, back => exact back.elim
  | .ok .cont, back => exact back.elim
theorem pe_mkS (M : Mk X.K C f) (F : FnOk X.prog X.w X.K X.mg X.base CX k f fd ps sp) (hr : Room (k + 1) X.A) (hg : Gl X x) (hm : X.mg x = some (.ref C)) (hb : Binds X.K fd ps []) (hx : ∀ σ, PassesAt CX X σ (E σ))
    (ha : PA X (e :: es) t) (hdb : (x == ("__debug__" : Str)) = false := by rfl) (h1 : starEach (e :: es) X.env = (false, eval e X.env) :: starEach es X.env := by rfl) (h2 : (backTo pos (starEach es X.env)).any (·.1) = false := by rfl) :
    PE X (.Call (.Name x p) (e :: es) [] pos) (tMkS C sp E t) := by
  constructor
  intro pins s σ H Q I want
  refine wpAny_Call_Name_kw ?_
  refine ld_glob I hg hm ?_ hdb
  refine PySem.W.callWith_K (h₀ := X.base) I.ok.mod.kin M.kp ?_ h1 h2
  refine thn (ha.run pos pins s σ H _ I want) ?_
  rintro us s1 ⟨ws, H1, I1, r, q⟩
  exact ⟨I1.kIn, run_mkS M F hr hb (hx σ) I1 r q⟩
end

/-! ### by data -/
/-- a method that may be called -/
structure Meth' (G : Gm) (mg : Str → Option Value) (base : Heap) (c : Nat) (m : Str) (ps : List Str) (n k : Nat) (f : FF) : Prop where
  ok : ∃ a fd, FnOk G.P G.w G.K mg base (L2.CX G.P G.w) k a fd ps (spF G n f) ∧ Meth G.K (G.cl c) m a ∧ Binds G.K fd ps [] ∧ Cls G.K (G.cl c)
/-- a class whose instances may be made -/
structure Make' (G : Gm) (mg : Str → Option Value) (base : Heap) (c : Nat) (x : Str) (ps : List Str) (n k : Nat) (f : FF) : Prop where
  ok : ∃ a fd, FnOk G.P G.w G.K mg base (L2.CX G.P G.w) k a fd ps (spF G n f) ∧ Mk G.K (G.cl c) a ∧ Binds G.K fd ps [] ∧ mg x = some (.ref (G.cl c))
def fMth (c : Nat) (m : Str) (f : FF) (fo : FE) (g : FL) : FE := fun σ S => (fo σ S).bind fun x S1 => match insS x S1 with
  | some p => if p.2.1 = c ∧ p.2.2.lookup m = none then (g σ S1).bind fun ds S2 => f (x :: ds) S2 else .stuck
  | none => .stuck
def mkEnd (n : Nat) (o : Out D) : Out D := match o with
  | .ok .non S => .ok (.ref n) S
  | .exc x S => .exc x S
  | _ => .stuck
def fMk (c : Nat) (f : FF) (g : FL) : FE := fun σ S => (g σ S).bind fun ds S1 => mkEnd S1.length (f (.ref S1.length :: ds) (S1 ++ [.ins c []]))
section
variable {G : Gm} {X : Cx} {W : WX} {o e : Expr} {es : List Expr} {fo : FE} {g : FL} {m x : Str} {p pos apos : Pos} {c n k j : Nat} {ps : List Str} {f : FF}
theorem je_mth [F : Fits G X] {pl : Sem Bool} (cc : Meth' G X.mg X.base c m ps (n + 1) k f) (h : Here X W j) (hk : k ≤ j) (ho : JE G X W o fo) (ha : JA G X W (e :: es) g) (hn : (e :: es).length = n := by rfl)
    (h1 : starEach (e :: es) X.env = (false, eval e X.env) :: starEach es X.env := by rfl) (h2 : (backTo pos (starEach es X.env)).any (·.1) = false := by rfl)
    (h3 : eval (.Call (.Attribute o m apos) (e :: es) [] pos) X.env = (do
      let q ← eval o X.env
      standAt apos.atName
      let (g, fst) ← holding [q] (getMethod q m pl)
      callWith pos g fst (backTo pos (starEach (e :: es) X.env)) (backToKw pos (keywordEach [] X.env))) := by rfl) :
    JE G X W (.Call (.Attribute o m apos) (e :: es) [] pos) (fMth c m (arity (n + 1) f) fo g) := by
  obtain ⟨a, fd, ok, hm, b, cl⟩ := cc.ok
  rw [F.P, F.w, F.K] at ok
  rw [F.K] at hm b cl
  refine ⟨PE.weak (pe_mtS (E := WE W) ho.pe cl hm ok (h.room.mono hk) b (fun σ => passAt h.takes σ) ha.pa h1 h2 h3) ?_⟩
  rintro σ H Q ⟨ρ, η, σd, S, rσ, rs, p⟩
  refine LE.of rσ rs p fun x S1 ρ1 H1 u e1 rσ1 rs1 rx p1 => ?_
  cases hi : insS x S1 with
  | none => rw [hi] at p1; exact p1.elim
  | some q =>
    obtain ⟨i, c', fs⟩ := q
    rw [hi] at p1
    dsimp only at p1
    split at p1
    · rename_i hc
      obtain ⟨rfl, hl⟩ := hc
      obtain ⟨a, dx, l, rfl, rfl, ha, e, k, r⟩ := ins_at rs1 rx hi
      refine ⟨a, dx, l, rfl, e, ?_, ?_⟩
      · rcases fs_look (f := m) k r with ⟨_, z⟩ | ⟨d', v, h1, _, _⟩
        · exact z
        · rw [h1] at hl; cases hl
      · refine LA.of rσ1 rs1 p1 fun ds S2 ρ2 H2 vs e2 rσ2 rs2 rds p2 => ?_
        unfold arity at p2
        by_cases hlen : (D.ref i :: ds).length = n + 1
        · rw [if_pos hlen] at p2
          exact sp_of hlen (RDs.cons (rx.ext e2) rds) rs2 (p2.imp fun d S k => k.shift (e1.trans e2))
        · rw [if_neg hlen] at p2
          exact p2.elim
    · exact p1.elim
theorem je_mth0 [F : Fits G X] {pl : Sem Bool} (cc : Meth' G X.mg X.base c m ps 1 k f) (h : Here X W j) (hk : k ≤ j) (ho : JE G X W o fo)
    (h3 : eval (.Call (.Attribute o m apos) [] [] pos) X.env = (do
      let q ← eval o X.env
      standAt apos.atName
      let (g, fst) ← holding [q] (getMethod q m pl)
      callWith pos g fst (backTo pos (starEach [] X.env)) (backToKw pos (keywordEach [] X.env))) := by rfl) :
    JE G X W (.Call (.Attribute o m apos) [] [] pos) (fMth c m f fo fNil) := by
  obtain ⟨a, fd, ok, hm, b, cl⟩ := cc.ok
  rw [F.P, F.w, F.K] at ok
  rw [F.K] at hm b cl
  refine ⟨PE.weak (pe_mtS0 (E := WE W) ho.pe cl hm ok (h.room.mono hk) b (fun σ => passAt h.takes σ) h3) ?_⟩
  rintro σ H Q ⟨ρ, η, σd, S, rσ, rs, p⟩
  refine LE.of rσ rs p fun x S1 ρ1 H1 u e1 rσ1 rs1 rx p1 => ?_
  cases hi : insS x S1 with
  | none => rw [hi] at p1; exact p1.elim
  | some q =>
    obtain ⟨i, c', fs⟩ := q
    rw [hi] at p1
    dsimp only at p1
    split at p1
    · rename_i hc
      obtain ⟨rfl, hl⟩ := hc
      obtain ⟨a, dx, l, rfl, rfl, ha, e, k, r⟩ := ins_at rs1 rx hi
      refine ⟨a, dx, l, rfl, e, ?_, ?_⟩
      · rcases fs_look (f := m) k r with ⟨_, z⟩ | ⟨d', v, h1, _, _⟩
        · exact z
        · rw [h1] at hl; cases hl
      · exact sp_of rfl (RDs.cons rx RDs.nil) rs1 (p1.imp fun d S k => k.shift e1)
    · exact p1.elim
theorem je_mk [F : Fits G X] (cc : Make' G X.mg X.base c x ps (n + 1) k f) (h : Here X W j) (hk : k + 1 ≤ j) (ha : JA G X W (e :: es) g) (hg : Gl X x := by rfl) (hn : (e :: es).length = n := by rfl) (hdb : (x == ("__debug__" : Str)) = false := by rfl)
    (h1 : starEach (e :: es) X.env = (false, eval e X.env) :: starEach es X.env := by rfl) (h2 : (backTo pos (starEach es X.env)).any (·.1) = false := by rfl) :
    JE G X W (.Call (.Name x p) (e :: es) [] pos) (fMk c (arity (n + 1) f) g) := by
  obtain ⟨a, fd, ok, hm, b, gm⟩ := cc.ok
  rw [F.P, F.w, F.K] at ok
  rw [F.K] at hm b
  refine ⟨PE.weak (pe_mkS (E := WE W) hm ok (h.room.mono hk) hg gm b (fun σ => passAt h.takes σ) ha.pa hdb h1 h2) ?_⟩
  rintro σ H Q ⟨ρ, η, σd, S, rσ, rs, p⟩
  refine LA.of rσ rs p fun ds S1 ρ1 H1 ws e1 rσ1 rs1 rds p1 => ?_
  intro b dy hb hdy hne
  have sm : Same H1 (upd (upd H1 dy (.own b)) b (.ins (G.cl c) dy [])) := fun z u ez => by
    rw [upd_ne (ne_of_none ez hb), upd_ne (ne_of_none ez hdy)]
    exact ez
  have e2 := Ext.of_same (ρ := ρ1) sm
  have nb : b ∉ η := (rs1.fresh hb).2
  have nt : ∀ o vs, (upd (upd H1 dy (.own b)) b (.ins (G.cl c) dy [])) b ≠ some (.frz o (.tup vs)) := fun o vs z => by
    rw [upd_same] at z
    cases z
  have rsh := rs1.hide hb sm ⟨_, upd_same, fun _ z => nomatch z⟩
  have rs2 : RS G (ρ1 ++ [b]) η _ (S1 ++ [.ins c []]) := rsh.adopt nb nt (fun l z => by rw [upd_same] at z; cases z) ⟨dy, [], upd_same, rfl, RDs.nil⟩
  have e3 : Ext ρ1 H1 (ρ1 ++ [b]) (upd (upd H1 dy (.own b)) b (.ins (G.cl c) dy [])) := ext_adopt rs1 e2 (Nul.of hb)
  have atb : (ρ1 ++ [b])[S1.length]? = some b := by rw [← rs1.len, List.getElem?_append_right (Nat.le_refl _)]; simp
  have rb : RD G (ρ1 ++ [b]) η (upd (upd H1 dy (.own b)) b (.ins (G.cl c) dy [])) (.ref S1.length) (.ref b) := by
    rw [RD]
    exact ⟨b, atb, rfl⟩
  unfold arity at p1
  by_cases hlen : (D.ref S1.length :: ds).length = n + 1
  · rw [if_pos hlen] at p1
    refine sp_of (W := W) hlen (RDs.cons rb (rds.ext e3)) rs2 ?_
    revert p1
    cases f (.ref S1.length :: ds) (S1 ++ [.ins c []]) with
    | stuck => exact fun p1 => p1.elim
    | exc x S' => exact fun p1 ρ' H' C dd e rs rx => p1 ρ' H' C dd (e3.trans e) rs rx
    | ok d S' =>
      cases d with
      | non =>
        intro p1 ρ' H' v e rs rd
        rw [RD] at rd
        refine ⟨rd, p1 ρ' H' (.ref b) ((e1.trans e3).trans e) rs ?_⟩
        rw [RD]
        exact ⟨b, e.at atb, rfl⟩
      | _ => exact fun p1 => p1.elim
  · rw [if_neg hlen] at p1
    exact p1.elim
end
end Fx

/-! Fx18: lists or dicts; defs of classes. -/
namespace Fx
open PySem PySem.Spec L2
section
variable {G : Gm} {X : Cx} {W : WX} {k : Nat} {a b o i e : Expr} {fa fb fo fi fe : FE} {pos tpos : Pos}
theorem OpR.alt {f : Value → Value → Sem Value} {r r' : R2} (h : OpR X f r) (h' : OpR X f r') : OpR X f fun x y H Q => r x y H Q ∨ r' x y H Q := by
  intro pins s σ H x y v u Q I rx ry q
  rcases q with q | q
  · exact h pins s σ H x y v u Q I rx ry q
  · exact h' pins s σ H x y v u Q I rx ry q
def opInU := opOr opIn (opInDn false)
def opNotInU := opOr opNotIn (opInDn true)
def opIxU := opOr opIx opIxDn
theorem o_inU [F : Fits G X] (h : Here X W k) : OpC G X .In opInU := ⟨_, OpR.alt op_inU (op_inDn (G := G) (here_hu h)), (F.K ▸ lnk_in : Lnk G _ opIn).or lnk_inDn⟩
theorem o_notInU [F : Fits G X] (h : Here X W k) : OpC G X .NotIn opNotInU := ⟨_, OpR.alt op_notInU (op_notInDn (G := G) (here_hu h)), (F.K ▸ lnk_notIn : Lnk G _ opNotIn).or lnk_inDn⟩
theorem je_ixU [F : Fits G X] (h : Here X W k) (ha : JE G X W a fa) (hb : JE G X W b fb) (hs : PlainIx b := by exact fun _ _ => rfl) : JE G X W (.Subscript a b pos) (fBin opIxU fa fb) :=
  je_ixR ((F.K ▸ ix_seq : IxR X (rIx G.K)).or (ix_dn (G := G) (here_hu h))) (lnk_ix.or lnk_ixDn) ha hb hs
def setOr (op op' : D → D → D → Sto → Option Sto) (o i d : D) (S : Sto) : Option Sto := match op o i d S with
  | some S' => some S'
  | none => op' o i d S
def opSetU := setOr opSetL opSetDn
theorem lnk_setOr {t t' : TSet} {op op' : D → D → D → Sto → Option Sto} (l : LnkSet G t op) (l' : LnkSet G t' op') : LnkSet G (fun o i v H Q => t o i v H Q ∨ t' o i v H Q) (setOr op op') := by
  intro ρ η H S x y z u v w S' Q rs rx ry rz h kk
  unfold setOr at h
  cases hq : op x y z S with
  | some e =>
    rw [hq] at h
    cases h
    exact .inl (l ρ η H S x y z u v w S' Q rs rx ry rz hq kk)
  | none =>
    rw [hq] at h
    exact .inr (l' ρ η H S x y z u v w S' Q rs rx ry rz h kk)
theorem PSet.alt {t t' : TSet} (h : PSet X t) (h' : PSet X t') : PSet X fun o i v H Q => t o i v H Q ∨ t' o i v H Q := by
  intro pins s σ H o i v ov iv u Q I ro ri rv q
  rcases q with q | q
  · exact h pins s σ H o i v ov iv u Q I ro ri rv q
  · exact h' pins s σ H o i v ov iv u Q I ro ri rv q
theorem jg_setU [F : Fits G X] (h : Here X W k) (ho : JE G X W o fo) (hi : JE G X W i fi)
    (ha : ∀ v, assign (.Subscript o i pos) X.env v = (do
      let ov ← holding [v] (eval o X.env)
      let iv ← holding [v, ov] (eval i X.env)
      standAt pos
      holding [v, ov, iv] (setItem ov iv v)
      release [v, ov, iv] []) := by intro _; rfl) : JG G X (.Subscript o i pos) (gSub opSetU fo fi) :=
  jg_sub (PSet.alt set_list (set_dn (G := G) (here_hu h))) (lnk_setOr lnk_setL lnk_setDn) ho hi ha
end
section
variable {P : Program} {w : World} {K : PySem.W.Frag} {mg : Str → Option Value} {base : Heap} {cl : Nat → Addr} {tb : List (Addr × Str)} {x m qual : Str} {params : Arguments} {body : List Stmt} {scope : Scope} {kws : List (Str × V)} {N ps : List Str} {n k c : Nat} {g : FS}
theorem meth_of (D : ∃ f fd, FunD K x qual params body scope [] kws f fd ∧ Meth K (cl c) m f ∧ Cls K (cl c)) (S : FnScope N ps scope)
    (hb : ∀ (kV doc pm : Value) (an : Option Addr) (cdv ct : Value) (us : List Value), us.length = ps.length → bindArgs (PySem.W.fnOf x qual params body scope .none kV doc pm an cdv ct) ⟨us, []⟩ = pure (ps.zip us))
    (hn : ps.length = n)
    (h : ∀ (f : Addr) (cdv : Value) (A : Around) (outer : List Env) (s : Shared) (H : Hp) (E : XK), Here (cxOf (L2.CX P w) P w K mg base N qual scope f cdv A outer s H E) (fun cls d _ H => E cls d H) k →
      JSs ⟨P, w, K, cl, tb⟩ (cxOf (L2.CX P w) P w K mg base N qual scope f cdv A outer s H E) (fun cls d _ H => E cls d H) body g) :
    Meth' ⟨P, w, K, cl, tb⟩ mg base c m ps n (k + 1) (fDef N.length g) := by
  obtain ⟨f, fd, F, hm, hc⟩ := D
  refine ⟨f, fd, ?_, hm, F.bindsN hb, hc⟩
  subst hn
  exact fn_body N ps F S fun cdv A outer s H E hr => h f cdv A outer s H E (here_def hr)
theorem make_of (D : ∃ f fd, FunD K x qual params body scope [] kws f fd ∧ Mk K (cl c) f ∧ mg m = some (.ref (cl c))) (S : FnScope N ps scope)
    (hb : ∀ (kV doc pm : Value) (an : Option Addr) (cdv ct : Value) (us : List Value), us.length = ps.length → bindArgs (PySem.W.fnOf x qual params body scope .none kV doc pm an cdv ct) ⟨us, []⟩ = pure (ps.zip us))
    (hn : ps.length = n)
    (h : ∀ (f : Addr) (cdv : Value) (A : Around) (outer : List Env) (s : Shared) (H : Hp) (E : XK), Here (cxOf (L2.CX P w) P w K mg base N qual scope f cdv A outer s H E) (fun cls d _ H => E cls d H) k →
      JSs ⟨P, w, K, cl, tb⟩ (cxOf (L2.CX P w) P w K mg base N qual scope f cdv A outer s H E) (fun cls d _ H => E cls d H) body g) :
    Make' ⟨P, w, K, cl, tb⟩ mg base c m ps n (k + 1) (fDef N.length g) := by
  obtain ⟨f, fd, F, hm, hg⟩ := D
  refine ⟨f, fd, ?_, hm, F.bindsN hb, hg⟩
  subst hn
  exact fn_body N ps F S fun cdv A outer s H E hr => h f cdv A outer s H E (here_def hr)
end
end Fx

/-! Fx19: dicts by tuples, short rules. -/
namespace Fx
open PySem PySem.Spec L2
section
variable {G : Gm} {X : Cx} {W : WX} {k : Nat} {a b o i e : Expr} {fa fb fo fi fe : FE} {pos tpos : Pos}
theorem o_inDn [F : Fits G X] (h : Here X W k) : OpC G X .In (opInDn false) := ⟨_, op_inDn (G := G) (here_hu h), lnk_inDn⟩
theorem o_notInDn [F : Fits G X] (h : Here X W k) : OpC G X .NotIn (opInDn true) := ⟨_, op_notInDn (G := G) (here_hu h), lnk_inDn⟩
theorem je_ixDn [F : Fits G X] (h : Here X W k) (ha : JE G X W a fa) (hb : JE G X W b fb) (hs : PlainIx b := by exact fun _ _ => rfl) : JE G X W (.Subscript a b pos) (fBin opIxDn fa fb) :=
  je_ixR (ix_dn (G := G) (here_hu h)) lnk_ixDn ha hb hs
theorem jg_setDn [F : Fits G X] (h : Here X W k) (ho : JE G X W o fo) (hi : JE G X W i fi)
    (ha : ∀ v, assign (.Subscript o i pos) X.env v = (do
      let ov ← holding [v] (eval o X.env)
      let iv ← holding [v, ov] (eval i X.env)
      standAt pos
      holding [v, ov, iv] (setItem ov iv v)
      release [v, ov, iv] []) := by intro _; rfl) : JG G X (.Subscript o i pos) (gSub opSetDn fo fi) :=
  jg_sub (set_dn (G := G) (here_hu h)) lnk_setDn ho hi ha
end
end Fx

/-! Fx20: list(d) of a dict by tuples. -/
namespace Fx
open PySem PySem.Spec L2
theorem keyRefs : ∀ (xs : List (NestedKey × Addr × Value)) (n : Nat) (acc : List Value), acc.length = xs.length → (∀ (j : Nat) (v : Value), acc[j]? = some v → ∃ x : NestedKey × Addr × Value, xs[j]? = some x ∧ v = Value.ref x.2.1) → Vals (xs.map fun x => V.ref x.2.1) acc
  | [], _, [], _, _ => .nil
  | [], _, _ :: _, h, _ => nomatch h
  | _ :: _, _, [], h, _ => nomatch h
  | x :: xs, n, a :: acc, h, k => by
    obtain ⟨y, hy, ha⟩ := k 0 a rfl
    cases hy
    subst ha
    exact .cons rfl (keyRefs xs n acc (by simpa using h) fun j v hj => k (j + 1) v (by simpa using hj))
def rListDn (G : Gm) : List V → Hp → VK → Prop := fun vs H Q => ∃ d xs, vs = [.ref d] ∧ DnAt G H d xs ∧ ∀ q, H q = none → Q (.ref q) (upd H q (.lst (xs.map fun x => V.ref x.2.1)))
theorem call_listDn {G : Gm} {X : Cx} [F : Fits G X] (hc : X.calm = true) : CallR X (.type "list") (rListDn G) := by
  intro pins s σ H vs us Q I r h
  obtain ⟨d, xs, rfl, dn, q⟩ := h
  obtain ⟨u, rfl, ru⟩ := r.one
  cases (show u = Value.ref d from ru)
  obtain ⟨o, es, ep, ho, hx, hd, hes⟩ := (show dnO G d xs s.heap ∧ _ from dn.ext.ok I.hok).1
  have many : es.size = xs.length := by
    have := congrArg List.length hes
    simpa using this
  refine PySem.W.kdl_call (kdl_raw dn.low hx hd) (I.ok.hd hc) ho (by rw [many]; exact dn.len) fun h' tk acc c kp e it => ?_
  have rel : Vals (xs.map fun x => V.ref x.2.1) acc.toList := by
    refine keyRefs xs 0 acc.toList (by rw [Array.length_toList, it.1, many]) fun j v hj => ?_
    obtain ⟨en, hen, hv⟩ := it.2 j v (by rw [← Array.getElem?_toList]; exact hj)
    have h1 : es.toList[j]? = some en := by rw [Array.getElem?_toList]; exact hen
    rw [hes, List.getElem?_map] at h1
    obtain ⟨x, hx1, hx2⟩ := Option.map_eq_some_iff.mp h1
    exact ⟨x, hx1, by rw [hv, ← hx2]; rfl⟩
  refine ⟨.ref s.heap.objs.size, _, I.laid (t' := tk) (o := .lst (xs.map fun x => V.ref x.2.1)) kp (Nat.le_refl _) ⟨?_, acc.toList, c, rel, by rw [Array.toArray_toList]; exact e⟩, rfl, q _ (I.hok.fresh (Nat.le_refl _))⟩
  rw [List.length_map]
  exact dn.len
def opListDn : List D → Sto → Option (List D) := op1 fun x S => (dnS x S).map fun p => p.2.1
theorem lnk_listDn {G : Gm} : LnkN G (rListDn G) opListDn := lnkN1 fun ρ η H S x v d Q rs rx h k => by
  obtain ⟨⟨n, ks, ds⟩, hd, rfl⟩ := Option.map_eq_some_iff.mp h
  obtain ⟨a, xs, vs, rfl, ha, dn, h1, h2, h3, h4⟩ := dn_at rs rx hd
  exact ⟨a, xs, rfl, dn, fun l hn => k l _ hn (by rw [List.length_map]; exact dn.len) h3⟩
section
variable {G : Gm} {X : Cx} {W : WX} {e : Expr} {es : List Expr} {g : FL} {p pos : Pos}
theorem jl_listDn [F : Fits G X] (hc : X.calm = true) (hm : X.mg "list" = none) (ha : JA G X W (e :: es) g) (hg : Gl X "list" := by rfl) (he : starEach (e :: es) X.env = (false, eval e X.env) :: starEach es X.env := by rfl) (hpl : (backTo pos (starEach es X.env)).any (·.1) = false := by rfl) :
    JL G X W (.Call (.Name "list" p) (e :: es) [] pos) (fBiL opListDn g) := jl_ty (r := rListDn G) (call_listDn hc) lnk_listDn hm PyProof.Rows.boot_list ha hg (by decide) rfl he hpl
end
end Fx

/-! Fx21: classes and dicts, computed; while loops. -/
namespace Fx
open PySem PySem.Spec L2
def kFld (nc : Nat) (f : Str) (x : D) (S : Sto) : Out D := orStuck (getA nc f x S) S
def okIns (c : Nat) (m : Str) : Option (Nat × Nat × List (Str × D)) → Bool
  | some p => decide (p.2.1 = c ∧ p.2.2.lookup m = none)
  | none => false
def kMth2 (f : FF) (x : D) (ds : List D) (S : Sto) : Out D := f (x :: ds) S
def kMth (c : Nat) (m : Str) (f : FF) (g : FL) (σ : Sl) (x : D) (S : Sto) : Out D := if okIns c m (insS x S) = true then (g σ S).bind (kMth2 f x) else .stuck
def kMk (c : Nat) (f : FF) (ds : List D) (S : Sto) : Out D := mkEnd S.length (f (.ref S.length :: ds) (S ++ [.ins c []]))
def kDn2 (x y : D) (S : Sto) : Out D := if (tupK x).isSome = true then .ok (.ref S.length) (S ++ [.dn [x] [y]]) else .stuck
def kDn1 (fb : FE) (σ : Sl) (x : D) (S : Sto) : Out D := (fb σ S).bind (kDn2 x)
def optN (o : Option Sto) (σ : Sl) : OutS := match o with
  | some S => .nx σ S
  | none => .stuck
@[simp] theorem optN_some {S : Sto} {σ : Sl} : optN (some S) σ = .nx σ S := rfl
def kFs2 (nc : Nat) (f : Str) (σ : Sl) (y x : D) (S : Sto) : OutS := optN (setA nc f x y S) σ
def kFs1 (nc : Nat) (f : Str) (fo : FE) (σ : Sl) (y : D) (S : Sto) : OutS := (fo σ S).bindS σ (kFs2 nc f σ y)
section
variable {σ : Sl} {S : Sto} {x y : D} {ds : List D} {nc c n : Nat} {f m : Str} {fo fa fb fv : FE} {g : FL} {ff : FF} {t : FT} {b : FS}
@[simp] theorem orStuck_some {α : Type} {d : α} : orStuck (some d) S = .ok d S := rfl
@[simp] theorem kFld_ : kFld nc f x S = orStuck (getA nc f x S) S := rfl
@[simp] theorem kMth2_ : kMth2 ff x ds S = ff (x :: ds) S := rfl
@[simp] theorem kMth_ : kMth c m ff g σ x S = if okIns c m (insS x S) = true then (g σ S).bind (kMth2 ff x) else .stuck := rfl
@[simp] theorem kMk_ : kMk c ff ds S = mkEnd S.length (ff (.ref S.length :: ds) (S ++ [.ins c []])) := rfl
@[simp] theorem kDn2_ : kDn2 x y S = if (tupK x).isSome = true then .ok (.ref S.length) (S ++ [.dn [x] [y]]) else .stuck := rfl
@[simp] theorem kDn1_ : kDn1 fb σ x S = (fb σ S).bind (kDn2 x) := rfl
@[simp] theorem kFs2_ : kFs2 nc f σ y x S = optN (setA nc f x y S) σ := rfl
@[simp] theorem kFs1_ : kFs1 nc f fo σ y S = (fo σ S).bindS σ (kFs2 nc f σ y) := rfl
@[simp] theorem mkEnd_ok : mkEnd n (.ok .non S) = .ok (.ref n) S := rfl
@[simp] theorem xFld : fFld nc f fo σ S = (fo σ S).bind (kFld nc f) := rfl
@[simp] theorem xMth : fMth c m ff fo g σ S = (fo σ S).bind (kMth c m ff g σ) := by
  unfold fMth; refine congrArg _ ?_; funext x S1; unfold kMth kMth2
  cases insS x S1 with
  | none => rfl
  | some p =>
    show (if p.2.1 = c ∧ p.2.2.lookup m = none then _ else _) = if decide (p.2.1 = c ∧ p.2.2.lookup m = none) = true then _ else _
    by_cases h : p.2.1 = c ∧ p.2.2.lookup m = none
    · rw [if_pos h, if_pos (decide_eq_true h)]
    · rw [if_neg h, if_neg (by simpa using h)]
@[simp] theorem xMk : fMk c ff g σ S = (g σ S).bind (kMk c ff) := rfl
@[simp] theorem xDn : fDn σ S = .ok (.ref S.length) (S ++ [.dn [] []]) := rfl
@[simp] theorem xDn1 : fDn1 fa fb σ S = (fa σ S).bind (kDn1 fb σ) := by
  unfold fDn1; refine congrArg _ ?_; funext x S1; show (fb σ S1).bind _ = (fb σ S1).bind _; refine congrArg _ ?_; funext y S2; unfold kDn2; cases tupK x <;> rfl
@[simp] theorem xFs : sFs nc f fv fo σ S = (fv σ S).bindS σ (kFs1 nc f fo σ) := by
  unfold sFs; refine congrArg _ ?_; funext y S1; show (fo σ S1).bindS σ _ = (fo σ S1).bindS σ _; refine congrArg _ ?_; funext x S2; unfold kFs2 optN; cases setA nc f x y S2 <;> rfl
@[simp] theorem insSr {i : Nat} : insS (.ref i) S = (match S[i]? with
    | some (.ins n fs) => some (i, n, fs)
    | _ => none) := rfl
@[simp] theorem dnSr {i : Nat} : dnS (.ref i) S = (match S[i]? with
    | some (.dn ks ds) => some (i, ks, ds)
    | some (.dl ks ds) => some (i, ks, ds)
    | _ => none) := rfl
@[simp] theorem dnWr {i : Nat} : dnW (.ref i) S = (match S[i]? with
    | some (.dn ks ds) => some (i, ks, ds)
    | _ => none) := rfl
@[simp] theorem isNon_n : Fx.isNon .non = true := rfl
@[simp] theorem isNon_i {i : Int} : Fx.isNon (.int i) = false := rfl
@[simp] theorem isNon_b {i : Bool} : Fx.isNon (.bl i) = false := rfl
@[simp] theorem isNon_t {i : List D} : Fx.isNon (.tup i) = false := rfl
@[simp] theorem isNon_l {i : List D} : Fx.isNon (.lst i) = false := rfl
@[simp] theorem oAddTT {a b : List D} : opAdd (.tup a) (.tup b) S = if tooMany (a.length + b.length) then none else some (.tup (a ++ b)) := rfl
/-- a while loop, by what stands ahead of each test; n: how many turns there may be -/
theorem while_inv (J : Nat → Sl → Sto → Prop) (Kp : OutS → Prop)
    (h : ∀ k σ S, J k σ S → (∃ S1, t σ S = .ok false S1 ∧ Kp (.nx σ S1)) ∨ ∃ S1, t σ S = .ok true S1 ∧
      ((∃ k' σ' S', k = k' + 1 ∧ b σ S1 = .nx σ' S' ∧ J k' σ' S') ∨ (∃ σ' S', b σ S1 = .bk σ' S' ∧ Kp (.nx σ' S')) ∨ ∃ d S', b σ S1 = .rt d S' ∧ Kp (.rt d S'))) :
    ∀ (N k : Nat) (σ : Sl) (S : Sto), k < N → J k σ S → Kp (sWhile t b N σ S) := by
  intro N
  induction N with
  | zero => intro k σ S hk _; omega
  | succ N ih =>
    intro k σ S hk hJ
    rcases h k σ S hJ with ⟨S1, e1, hK⟩ | ⟨S1, e1, ⟨k', σ', S', rfl, e2, hJ'⟩ | ⟨σ', S', e2, hK⟩ | ⟨d, S', e2, hK⟩⟩
    · unfold sWhile
      rw [e1]
      exact hK
    · unfold sWhile
      rw [e1]
      show Kp (match b σ S1 with
        | .nx σ' S' => sWhile t b N σ' S'
        | .ct σ' S' => sWhile t b N σ' S'
        | .bk σ' S' => .nx σ' S'
        | .rt d S' => .rt d S'
        | .exc x σ' S' => .exc x σ' S'
        | .stuck => .stuck)
      rw [e2]
      exact ih k' σ' S' (by omega) hJ'
    · unfold sWhile
      rw [e1]
      show Kp (match b σ S1 with
        | .nx σ' S' => sWhile t b N σ' S'
        | .ct σ' S' => sWhile t b N σ' S'
        | .bk σ' S' => .nx σ' S'
        | .rt d S' => .rt d S'
        | .exc x σ' S' => .exc x σ' S'
        | .stuck => .stuck)
      rw [e2]
      exact hK
    · unfold sWhile
      rw [e1]
      show Kp (match b σ S1 with
        | .nx σ' S' => sWhile t b N σ' S'
        | .ct σ' S' => sWhile t b N σ' S'
        | .bk σ' S' => .nx σ' S'
        | .rt d S' => .rt d S'
        | .exc x σ' S' => .exc x σ' S'
        | .stuck => .stuck)
      rw [e2]
      exact hK
end
/-- a comprehension whose test changes the store -/
theorem lcF_filt {own : List Nat} {g : FG} {tt : FT} {te : FE} {ok : Sto → Bool} {σ : Sl} {α : Type} (l : List α) (enc f : α → D) (p : α → Bool) (J : Sto → Prop) (h0 : ∀ S, J S → ok S = true)
    (h : ∀ x ∈ l, ∀ S, J S → ∃ σ1, g (enc x) (wipeD σ own) S = some (σ1, S) ∧ ∃ S', tt σ1 S = .ok (p x) S' ∧ J S' ∧ (p x = true → te σ1 S' = .ok (f x) S')) :
    ∀ S, J S → ∃ S', lcF own g tt te ok (l.map enc) σ S = .ok ((l.filter p).map f) S' ∧ J S' := by
  induction l with
  | nil =>
    intro S hS
    refine ⟨S, ?_, hS⟩
    show lcF own g tt te ok [] σ S = _
    unfold lcF
    rw [if_pos (h0 S hS)]
    rfl
  | cons x l ih =>
    intro S hS
    obtain ⟨σ1, e1, S1, e2, hS1, e3⟩ := h x List.mem_cons_self S hS
    obtain ⟨S2, e4, hS2⟩ := ih (fun y hy => h y (List.mem_cons_of_mem _ hy)) S1 hS1
    refine ⟨S2, ?_, hS2⟩
    show lcF own g tt te ok (enc x :: l.map enc) σ S = _
    unfold lcF
    rw [if_pos (h0 S hS), e1]
    dsimp only
    rw [e2]
    cases hp : p x with
    | true =>
      dsimp only
      rw [e3 hp]
      dsimp only
      rw [e4, List.filter_cons_of_pos hp]
      rfl
    | false =>
      dsimp only
      rw [e4, List.filter_cons_of_neg (by simp [hp])]
/-- a comprehension in which the store only grows -/
theorem lcF_grow {own : List Nat} {g : FG} {tt : FT} {te : FE} {ok : Sto → Bool} {σ : Sl} {α : Type} (l : List α) (enc f : α → D) (S : Sto) (h0 : ∀ T, ok (S ++ T) = true)
    (h : ∀ x ∈ l, ∀ T, ∃ σ1, g (enc x) (wipeD σ own) (S ++ T) = some (σ1, S ++ T) ∧ tt σ1 (S ++ T) = .ok true (S ++ T) ∧ ∃ T', te σ1 (S ++ T) = .ok (f x) (S ++ T')) :
    ∃ T', lcF own g tt te ok (l.map enc) σ S = .ok (l.map f) (S ++ T') := by
  have key : ∀ T, ∃ T', lcF own g tt te ok (l.map enc) σ (S ++ T) = .ok (l.map f) (S ++ T') := by
    induction l with
    | nil =>
      intro T
      refine ⟨T, ?_⟩
      show lcF own g tt te ok [] σ (S ++ T) = _
      unfold lcF
      rw [if_pos (h0 T)]
      rfl
    | cons x l ih =>
      intro T
      obtain ⟨σ1, e1, e2, T1, e3⟩ := h x List.mem_cons_self T
      obtain ⟨T2, e4⟩ := ih (fun y hy => h y (List.mem_cons_of_mem _ hy)) T1
      refine ⟨T2, ?_⟩
      show lcF own g tt te ok (enc x :: l.map enc) σ (S ++ T) = _
      unfold lcF
      rw [if_pos (h0 T), e1]
      dsimp only
      rw [e2]
      dsimp only
      rw [e3]
      dsimp only
      rw [e4]
      rfl
  obtain ⟨T', e⟩ := key []
  exact ⟨T', by rw [List.append_nil] at e; exact e⟩
/-- a comprehension whose test lets the store grow -/
theorem lcF_growT {own : List Nat} {g : FG} {tt : FT} {te : FE} {ok : Sto → Bool} {σ : Sl} {α : Type} (l : List α) (enc f : α → D) (p : α → Bool) (S : Sto) (h0 : ∀ T, ok (S ++ T) = true)
    (h : ∀ x ∈ l, ∀ T, ∃ σ1, g (enc x) (wipeD σ own) (S ++ T) = some (σ1, S ++ T) ∧ ∃ T', tt σ1 (S ++ T) = .ok (p x) (S ++ T') ∧ (p x = true → ∃ T2, te σ1 (S ++ T') = .ok (f x) (S ++ T2))) :
    ∃ T', lcF own g tt te ok (l.map enc) σ S = .ok ((l.filter p).map f) (S ++ T') := by
  have key : ∀ T, ∃ T', lcF own g tt te ok (l.map enc) σ (S ++ T) = .ok ((l.filter p).map f) (S ++ T') := by
    induction l with
    | nil =>
      intro T
      refine ⟨T, ?_⟩
      show lcF own g tt te ok [] σ (S ++ T) = _
      unfold lcF
      rw [if_pos (h0 T)]
      rfl
    | cons x l ih =>
      intro T
      obtain ⟨σ1, e1, T1, e2, e3⟩ := h x List.mem_cons_self T
      have ih' := ih (fun y hy => h y (List.mem_cons_of_mem _ hy))
      cases hp : p x with
      | true =>
        obtain ⟨T2, e3⟩ := e3 hp
        obtain ⟨T3, e4⟩ := ih' T2
        refine ⟨T3, ?_⟩
        show lcF own g tt te ok (enc x :: l.map enc) σ (S ++ T) = _
        unfold lcF
        rw [if_pos (h0 T), e1]
        dsimp only
        rw [e2, hp]
        dsimp only
        rw [e3]
        dsimp only
        rw [e4, List.filter_cons_of_pos hp]
        rfl
      | false =>
        obtain ⟨T3, e4⟩ := ih' T1
        refine ⟨T3, ?_⟩
        show lcF own g tt te ok (enc x :: l.map enc) σ (S ++ T) = _
        unfold lcF
        rw [if_pos (h0 T), e1]
        dsimp only
        rw [e2, hp]
        dsimp only
        rw [e4, List.filter_cons_of_neg (by simp [hp])]
  obtain ⟨T', e⟩ := key []
  exact ⟨T', by rw [List.append_nil] at e; exact e⟩
theorem eq_lst {S : Sto} {xs ys : List D} (h1 : niceA xs = true) (h2 : depA xs ≤ 60) (h3 : niceA ys = true) (h4 : depA ys ≤ 60) : eqAny (.lst xs) (.lst ys) S = some (decide (xs = ys)) := by
  show eqDeep (.lst xs) (.lst ys) S = _
  have e1 : derefL S (.lst xs) = .lst xs := rfl
  have e2 : derefL S (.lst ys) = .lst ys := rfl
  rw [eqDeep_nice (by rw [e1]; exact h1) (by rw [e2]; exact h3) (by rw [e1]; show depA _ + 1 ≤ 64; omega) (by rw [e2]; show depA _ + 1 ≤ 64; omega), e1, e2]
  congr 1
  rw [decide_eq_decide]
  exact ⟨fun h => by injection h, fun h => by rw [h]⟩
end Fx

/-! Fx22: a written tuple of texts; defs with keyword-only ints that are not written at the call. -/
namespace Fx
open PySem PySem.Spec L2
/-- a written tuple of texts stands at x -/
def TupG (G : Gm) (mg : Str → Option Value) (zs : List Str) (x : Str) : Prop := ∃ a, mg x = some (.ref a) ∧ KTup G.K a (zs.map V.str) ∧ zs.length ≤ sizeLine
theorem je_gtup {G : Gm} {X : Cx} {W : WX} [F : Fits G X] {x : Str} {zs : List Str} {pos : Pos} (hm : TupG G X.mg zs x) (hg : Gl X x := by rfl) (hd : (x == ("__debug__" : Str)) = false := by rfl) : JE G X W (.Name x pos) (fC (.tup (zs.map D.str))) := by
  obtain ⟨a, e, kt, hl⟩ := hm
  refine je_c (pe_glob (v := .ref a) hg e rfl hd) fun ρ η H => ?_
  rw [RD]
  refine ⟨a, zs.map V.str, rfl, .inr kt, by rw [List.length_map]; exact hl, ?_⟩
  have h : ∀ zs : List Str, RDs G ρ η H (zs.map D.str) (zs.map V.str) := by
    intro zs
    induction zs with
    | nil => exact RDs.nil
    | cons z zs ih => exact RDs.cons (by rw [RD]) ih
  exact h zs
def strsB : List Str → List Value → Bool
  | [], [] => true
  | z :: zs, .str y _ :: vs => decide (z = y) && strsB zs vs
  | _, _ => false
theorem strsB_vals : ∀ (zs : List Str) (vs : List Value), strsB zs vs = true → Vals (zs.map V.str) vs
  | [], [], _ => .nil
  | z :: zs, .str y t :: vs, h => by
    have h' : (decide (z = y) && strsB zs vs) = true := h
    rw [Bool.and_eq_true, decide_eq_true_iff] at h'
    exact .cons ⟨t, by rw [h'.1]⟩ (strsB_vals zs vs h'.2)
  | [], _ :: _, h => by cases h
  | _ :: _, [], h => by cases h
/-- looked at -/
def tupB (K : PySem.W.Frag) (x : Str) (zs : List Str) : Bool := match K.lookup (He.ga K x) with
  | some ⟨.type c, none, .seq its _, _⟩ => decide (c = "tuple") && strsB zs its.toList && decide (zs.length ≤ 1000)
  | _ => false
theorem tupG_of {P : Program} {w : World} {K : PySem.W.Frag} {mg : Str → Option Value} {cl : Nat → Addr} {tb : List (Addr × Str)} {x : Str} {zs : List Str} (b : tupB K x zs = true) (hm : mg x = some (.ref (He.ga K x))) : TupG ⟨P, w, K, cl, tb⟩ mg zs x := by
  unfold tupB at b
  split at b
  · rename_i c its n sl e
    rw [Bool.and_eq_true, Bool.and_eq_true, decide_eq_true_iff, decide_eq_true_iff] at b
    obtain ⟨⟨h1, h2⟩, h3⟩ := b
    have hv := strsB_vals _ _ h2
    have hl : its.size = zs.length := by
      have := hv.length
      rw [List.length_map] at this
      rw [← Array.length_toList]
      exact this.symm
    have hz : zs.length ≤ sizeLine := by rw [sizeLine_eq]; omega
    refine ⟨He.ga K x, hm, ⟨_, its, n, e, ?_, rfl, rfl, by rw [hl]; exact hz, hv⟩, hz⟩
    show Value.type c = .type "tuple"
    rw [h1]
  · cases b
/-- a def that may be called; ints fill up -/
structure CalleeD (G : Gm) (mg : Str → Option Value) (base : Heap) (x : Str) (ps : List Str) (n k : Nat) (f : FF) (dd : List Int) : Prop where
  ok : ∃ a fd ds, FnOk G.P G.w G.K mg base (L2.CX G.P G.w) k a fd ps (spF G (n + dd.length) f) ∧ mg x = some (.ref a) ∧ PySem.W.keepIn G.K (.ref a) = true ∧ Vals (dd.map V.int) ds ∧ Binds G.K fd ps ds
def arityD (n : Nat) (dd : List Int) (f : FF) : FF := fun ds S => if ds.length = n then f (ds ++ dd.map D.int) S else .stuck
@[simp] theorem xArityD {ff : FF} {n : Nat} {dd : List Int} {ds : List D} {S : Sto} : arityD n dd ff ds S = if ds.length = n then ff (ds ++ dd.map D.int) S else .stuck := rfl
theorem rds_ints {G : Gm} {ρ η : List Addr} {H : Hp} : ∀ dd : List Int, RDs G ρ η H (dd.map D.int) (dd.map V.int)
  | [] => RDs.nil
  | z :: zs => RDs.cons (by rw [RD]) (rds_ints zs)
theorem RDs.app {G : Gm} {ρ η : List Addr} {H : Hp} : ∀ {ds es : List D} {vs us : List V}, RDs G ρ η H ds vs → RDs G ρ η H es us → RDs G ρ η H (ds ++ es) (vs ++ us)
  | [], es, vs, us, h, k => by
    rw [RDs] at h
    subst h
    exact k
  | d :: ds, es, vs, us, h, k => by
    rw [RDs] at h
    obtain ⟨v, r, rfl, h1, h2⟩ := h
    exact RDs.cons h1 (RDs.app h2 k)
section
variable {G : Gm} {X : Cx} {W : WX} {e : Expr} {es : List Expr} {g : FL} {x : Str} {p pos : Pos}
theorem je_callD [F : Fits G X] {ps : List Str} {n k j : Nat} {f : FF} {dd : List Int} (c : CalleeD G X.mg X.base x ps n k f dd) (h : Here X W j) (hk : k ≤ j) (ha : JA G X W (e :: es) g) (hg : Gl X x := by rfl) (hn : (e :: es).length = n := by rfl) (hdb : (x == ("__debug__" : Str)) = false := by rfl)
    (he : starEach (e :: es) X.env = (false, eval e X.env) :: starEach es X.env := by rfl) (hpl : (backTo pos (starEach es X.env)).any (·.1) = false := by rfl) : JE G X W (.Call (.Name x p) (e :: es) [] pos) (fCall (arityD n dd f) g) := by
  obtain ⟨a, fd, ds0, ok, hm, kp, hv, b⟩ := c.ok
  rw [F.P, F.w, F.K] at ok
  rw [F.K] at kp b
  refine ⟨PE.weak (pe_callSD ok (h.room.mono hk) hg hm kp b hv (fun σ => passAt h.takes σ) ha.pa hdb he hpl) ?_⟩
  rintro σ H Q ⟨ρ, η, σd, S, rσ, rs, p⟩
  refine LA.of rσ rs p fun ds S1 ρ1 H1 vs e1 rσ1 rs1 rds p1 => ?_
  unfold arityD at p1
  by_cases hl : ds.length = n
  · rw [if_pos hl] at p1
    exact sp_of (by rw [List.length_append, List.length_map, hl]) (rds.app (rds_ints dd)) rs1 (p1.imp fun d S k => k.shift e1)
  · rw [if_neg hl] at p1
    exact p1.elim
end
theorem calleeD_of {P : Program} {w : World} {K : PySem.W.Frag} {mg : Str → Option Value} {base : Heap} {cl : Nat → Addr} {tb : List (Addr × Str)} {x qual : Str} {params : Arguments} {body : List Stmt} {scope : Scope} {kws : List (Str × V)} {N ps : List Str} {n k : Nat} {g : FS} {dd : List Int}
    (D : ∃ f fd, FunD K x qual params body scope [] kws f fd ∧ mg x = some (.ref f)) (S : FnScope N ps scope) (hk : kws ≠ []) (hd : kws.map (·.2) = dd.map V.int) (hn : n + kws.length = ps.length)
    (hb : ∀ (D : Addr) (doc pm : Value) (an : Option Addr) (cdv ct : Value) (us ks : List Value), us.length = n → ks.length = kws.length →
      KwChain D ((kws.map (·.1)).zip ks) (bindArgs (PySem.W.fnOf x qual params body scope .none (.ref D) doc pm an cdv ct) ⟨us, []⟩) (ps.zip (us ++ ks)))
    (h : ∀ (f : Addr) (cdv : Value) (A : Around) (outer : List Env) (s : Shared) (H : Hp) (E : XK), Here (cxOf (L2.CX P w) P w K mg base N qual scope f cdv A outer s H E) (fun cls d _ H => E cls d H) k →
      JSs ⟨P, w, K, cl, tb⟩ (cxOf (L2.CX P w) P w K mg base N qual scope f cdv A outer s H E) (fun cls d _ H => E cls d H) body g) :
    CalleeD ⟨P, w, K, cl, tb⟩ mg base x ps n (k + 1) (fDef N.length g) dd := by
  obtain ⟨f, fd, F, hm⟩ := D
  obtain ⟨ds, hv, b⟩ := F.binds0 n hk hn hb
  have hl : kws.length = dd.length := by
    have := congrArg List.length hd
    simpa using this
  have hf := fn_body N ps F S (k := k) (g := g) (P := P) (w := w) (mg := mg) (base := base) (cl := cl) fun cdv A outer s H E hr => h f cdv A outer s H E (here_def hr)
  rw [← hn, hl] at hf
  exact ⟨f, fd, ds, hf, hm, F.kp, hd ▸ hv, b⟩
end Fx
namespace Fx
theorem band_l {a b : Bool} (h : (a && b) = true) : a = true := by cases a <;> simp_all
theorem band_r {a b : Bool} (h : (a && b) = true) : b = true := by cases b <;> simp_all
end Fx

/-! Fx23: list + list, list * int: new lists. -/
namespace Fx
open PySem PySem.Spec L2
def LnkB (G : Gm) (r : R2) (op : D → D → Sto → Option (List D)) : Prop := ∀ ρ η H S x y u v xs (Q : VK), RS G ρ η H S → RD G ρ η H x u → RD G ρ η H y v → op x y S = some xs →
  (∀ p us, H p = none → us.length ≤ sizeLine → RDs G ρ η H xs us → Q (.ref p) (upd H p (.lst us))) → r u v H Q
def fBinL (op : D → D → Sto → Option (List D)) (fa fb : FE) : FL := fun σ S => (fa σ S).bind fun x S1 => (fb σ S1).bind fun y S2 => match op x y S2 with
  | some xs => .ok xs S2
  | none => .stuck
def opRep (x y : D) (S : Sto) : Option (List D) := match y with
  | .int k => (match seqM x S with
    | some xs => if decide (xs.length * k.toNat ≤ 100000) && decide (k.natAbs ≤ 100000) then some (List.replicate k.toNat xs).flatten else none
    | none => none)
  | _ => none
def opCat (x y : D) (S : Sto) : Option (List D) := match seqM x S, seqM y S with
  | some xs, some ys => if tooMany (xs.length + ys.length) then none else some (xs ++ ys)
  | _, _ => none
theorem rds_flat {G : Gm} {ρ η : List Addr} {H : Hp} {xs : List D} {vs : List V} (h : RDs G ρ η H xs vs) : ∀ n : Nat, RDs G ρ η H (List.replicate n xs).flatten (List.replicate n vs).flatten
  | 0 => RDs.nil
  | n + 1 => by
    rw [List.replicate_succ, List.replicate_succ, List.flatten_cons, List.flatten_cons]
    exact h.app (rds_flat h n)
theorem lnk_rep {G : Gm} : LnkB G rRep opRep := by
  intro ρ η H S x y u v xs Q rs rx ry h k
  unfold opRep at h
  split at h
  · rename_i i
    split at h
    · rename_i ys hy
      split at h
      · rename_i hc
        cases h
        rw [Bool.and_eq_true, decide_eq_true_iff, decide_eq_true_iff] at hc
        obtain ⟨a, vs, rfl, ha, hl, r⟩ := seqM_at rs rx hy
        rw [RD] at ry
        have e1 : vs.length = ys.length := r.length
        have lv : vs.length * i.toNat ≤ sizeLine := by rw [e1, sizeLine_eq]; omega
        refine ⟨a, i, vs, rfl, ry, ha, by omega, by omega, lv, fun p hp => ?_⟩
        refine k p _ hp ?_ (rds_flat r i.toNat)
        rw [List.length_flatten, List.map_replicate, List.sum_replicate_nat, Nat.mul_comm]
        exact lv
      · cases h
    · cases h
  · cases h
theorem lnk_cat {G : Gm} : LnkB G rCat opCat := by
  intro ρ η H S x y u v xs Q rs rx ry h k
  unfold opCat at h
  split at h
  · rename_i xs' ys hx hy
    split at h
    · cases h
    · rename_i hc
      cases h
      obtain ⟨a, vs, rfl, ha, hl, r⟩ := seqM_at rs rx hx
      obtain ⟨b, us, rfl, hb, hl2, r2⟩ := seqM_at rs ry hy
      have lv : vs.length + us.length ≤ sizeLine := by rw [r.length, r2.length]; exact le_line (Bool.eq_false_iff.mpr hc)
      exact ⟨a, b, vs, us, rfl, rfl, ha, hb, lv, fun p hp => k p _ hp (by rw [List.length_append]; exact lv) (r.app r2)⟩
  · cases h
section
variable {G : Gm} {X : Cx} {W : WX} {a b : Expr} {fa fb : FE} {pos : Pos}
theorem jl_bin {o : Operator} {r : R2} {op : D → D → Sto → Option (List D)} (ho : OpR X (binaryOp o) r) (l : LnkB G r op) (ha : JE G X W a fa) (hb : JE G X W b fb) : JL G X W (.BinOp a o b pos) (fBinL op fa fb) := by
  refine ⟨PE.weak (pe_op ho ha.pe hb.pe) ?_⟩
  rintro σ H Q ⟨ρ, η, σd, S, rσ, rs, p⟩
  refine LE.of rσ rs p fun x S1 ρ1 H1 u e1 rσ1 rs1 rx p1 => ?_
  refine LE.of rσ1 rs1 p1 fun y S2 ρ2 H2 v e2 rσ2 rs2 ry p2 => ?_
  cases hq : op x y S2 with
  | none => rw [hq] at p2; exact p2.elim
  | some ys =>
    rw [hq] at p2
    exact l ρ2 η H2 S2 x y u v ys Q rs2 (rx.ext e2) ry hq fun n ws hn hl rd => newList (fun a ha => rs2.somes a ((e1.trans e2).mem ha)) (e1.trans e2) rs2 rd hl hn p2
theorem jl_rep (ha : JE G X W a fa) (hb : JE G X W b fb) : JL G X W (.BinOp a .Mult b pos) (fBinL opRep fa fb) := jl_bin op_rep lnk_rep ha hb
theorem jl_cat (ha : JE G X W a fa) (hb : JE G X W b fb) : JL G X W (.BinOp a .Add b pos) (fBinL opCat fa fb) := jl_bin op_cat lnk_cat ha hb
end
def kBinL2 (op : D → D → Sto → Option (List D)) (x y : D) (S : Sto) : Out (List D) := liftO (op x y S) S
def kBinL1 (op : D → D → Sto → Option (List D)) (fb : FE) (σ : Sl) (x : D) (S : Sto) : Out (List D) := (fb σ S).bind (kBinL2 op x)
section
variable {op : D → D → Sto → Option (List D)} {x y : D} {S : Sto} {σ : Sl} {fa fb : FE}
@[simp] theorem kBinL2_ : kBinL2 op x y S = liftO (op x y S) S := rfl
@[simp] theorem kBinL1_ : kBinL1 op fb σ x S = (fb σ S).bind (kBinL2 op x) := rfl
@[simp] theorem xBinL : fBinL op fa fb σ S = (fa σ S).bind (kBinL1 op fb σ) := by
  unfold fBinL; refine congrArg _ ?_; funext x S1; show (fb σ S1).bind _ = (fb σ S1).bind _; refine congrArg _ ?_; funext y S2; show _ = liftO (op x y S2) S2; cases op x y S2 <;> rfl
end
end Fx

/-! Fx24: f(e, .., k = v). -/
namespace Fx
open PySem PySem.Spec L2
section
variable {X : Cx} {CX : CXT} {k n : Nat} {f : Addr} {fd : FuncData} {ps ks : List Str} {sp : Sp} {E : L2.St → XK} {x : Str} {p pos : Pos} {e : Expr} {es : List Expr} {kws : List Keyword} {t tk : TA} {g : List Value → List Value → List Value} {gV : List V → List V → List V}
/-- what such a call wants -/
def tKw (n m : Nat) (sp : Sp) (gV : List V → List V → List V) (E : L2.St → XK) (t tk : TA) : TE :=
  fun σ H Q => t σ H fun vs H1 => tk σ H1 fun zs H2 => (vs.length = n ∧ zs.length = m) ∧ sp (gV vs zs) H2 Q (E σ)
theorem runKw {pins : List (Addr × Obj)} {σ : L2.St} {H : Hp} {s : Shared} {Q : VK} {us ws : List Value} {vs zs : List V}
    (F : FnOk X.prog X.w X.K X.mg X.base CX k f fd ps sp) (hr : Room k X.A) (hb : KBn X.K fd ps n ks g gV) (hx : PassesAt CX X σ (E σ)) (I : Inv X pins σ H s)
    (r : Vals vs us) (rz : Vals zs ws) (l1 : vs.length = n) (l2 : zs.length = ks.length) (h : sp (gV vs zs) H Q (E σ)) :
    wpAny (model X.prog X.w) X.A (call (.ref f) us (ks.zip ws)) (EP X pins σ Q) X.xe s := by
  have lu : us.length = n := by rw [← r.length]; exact l1
  have lw : ws.length = ks.length := by rw [← rz.length]; exact l2
  have go := F.run X.A X.stack s H ⟨us, ks.zip ws⟩ (g us ws) (gV vs zs) Q (E σ) hr I.env0 (hb.to s us ws I.kIn lu lw) (hb.rel r rz) h
  refine wpAny_call (codeAny_mono go ?_)
  intro r s' hq
  match r, hq with
  | .error e, hq => exact hx pins H s e s' I hq
  | .ok (.ret u), hq => exact I.after hq
theorem pe_kw (F : FnOk X.prog X.w X.K X.mg X.base CX k f fd ps sp) (hr : Room k X.A) (hg : Gl X x) (hm : X.mg x = some (.ref f)) (hk : PySem.W.keepIn X.K (.ref f) = true) (hb : KBn X.K fd ps n ks g gV) (hx : ∀ σ, PassesAt CX X σ (E σ)) (ha : PA X (e :: es) t) (hkw : PK X kws tk)
    (hall : (backToKw pos (keywordEach kws X.env)).all (·.1.isSome) = true := by rfl) (hks : (backToKw pos (keywordEach kws X.env)).filterMap (·.1) = ks := by rfl) (hdb : (x == ("__debug__" : Str)) = false := by decide)
    (he : starEach (e :: es) X.env = (false, eval e X.env) :: starEach es X.env := by rfl)
    (hpl : ((backTo pos (starEach (e :: es) X.env)).any (·.1) || (backToKw pos (keywordEach kws X.env)).any (·.1.isNone)) = false := by rfl) : PE X (.Call (.Name x p) (e :: es) kws pos) (tKw n ks.length sp gV E t tk) := by
  constructor
  intro pins s σ H Q I h
  refine wpAny_Call_Name_kw (ld_glob I hg hm ?_ hdb)
  refine PySem.W.callWith_KW (h₀ := X.base) I.ok.mod.kin hk hall (thn (ha.run pos pins s σ H _ I h) ?_) hpl he
  rintro us s1 ⟨vs, H1, I1, r, q⟩
  refine thn (hkw.run pos pins s1 σ H1 _ I1 q) ?_
  rintro ws s2 ⟨zs, H2, I2, rz, ⟨l1, l2⟩, q2⟩
  rw [hks]
  exact ⟨I2.kIn, runKw F hr hb (hx σ) I2 r rz l1 l2 q2⟩
end
/-- a def that may be called with one keyword -/
structure CalleeK (G : Gm) (mg : Str → Option Value) (base : Heap) (x kw : Str) (ps : List Str) (n k : Nat) (f : FF) : Prop where
  ok : ∃ a fd g, FnOk G.P G.w G.K mg base (L2.CX G.P G.w) k a fd ps (spF G (n + 1) f) ∧ mg x = some (.ref a) ∧ PySem.W.keepIn G.K (.ref a) = true ∧ KBn G.K fd ps n [kw] g (fun vs zs => vs ++ zs)
def kKw2 (n : Nat) (f : FF) (ds : List D) (d : D) (S : Sto) : Out D := if ds.length = n then f (ds ++ [d]) S else .stuck
def kKw1 (n : Nat) (f : FF) (fv : FE) (σ : Sl) (ds : List D) (S : Sto) : Out D := (fv σ S).bind (kKw2 n f ds)
def fCallK (n : Nat) (f : FF) (g : FL) (fv : FE) : FE := fun σ S => (g σ S).bind (kKw1 n f fv σ)
section
variable {n : Nat} {f : FF} {fv : FE} {σ : Sl} {ds : List D} {d : D} {S : Sto} {g : FL}
@[simp] theorem kKw2_ : kKw2 n f ds d S = if ds.length = n then f (ds ++ [d]) S else .stuck := rfl
@[simp] theorem kKw1_ : kKw1 n f fv σ ds S = (fv σ S).bind (kKw2 n f ds) := rfl
@[simp] theorem xCallK : fCallK n f g fv σ S = (g σ S).bind (kKw1 n f fv σ) := rfl
end
section
variable {G : Gm} {X : Cx} {W : WX} {e v : Expr} {es : List Expr} {g : FL} {fv : FE} {x kw : Str} {p pos kp : Pos}
theorem je_callK [F : Fits G X] {ps : List Str} {n k j : Nat} {f : FF} (c : CalleeK G X.mg X.base x kw ps n k f) (h : Here X W j) (hk : k ≤ j) (ha : JA G X W (e :: es) g) (hv : JE G X W v fv) (hg : Gl X x := by rfl) (hn : (e :: es).length = n := by rfl) (hdb : (x == ("__debug__" : Str)) = false := by rfl)
    (h1 : (backToKw pos (keywordEach [⟨some kw, v, kp⟩] X.env)).all (·.1.isSome) = true := by rfl) (h2 : (backToKw pos (keywordEach [⟨some kw, v, kp⟩] X.env)).filterMap (·.1) = [kw] := by rfl)
    (h3 : starEach (e :: es) X.env = (false, eval e X.env) :: starEach es X.env := by rfl) (h4 : ((backTo pos (starEach (e :: es) X.env)).any (·.1) || (backToKw pos (keywordEach [⟨some kw, v, kp⟩] X.env)).any (·.1.isNone)) = false := by rfl) :
    JE G X W (.Call (.Name x p) (e :: es) [⟨some kw, v, kp⟩] pos) (fCallK n f g fv) := by
  obtain ⟨a, fd, gg, ok, hm, kpp, b⟩ := c.ok
  rw [F.P, F.w, F.K] at ok
  rw [F.K] at kpp b
  refine ⟨PE.weak (pe_kw (E := WE W) ok (h.room.mono hk) hg hm kpp b (fun σ => passAt h.takes σ) ha.pa (pk_cons hv.pe pk_nil) h1 h2 hdb h3 h4) ?_⟩
  rintro σ H Q ⟨ρ, η, σd, S, rσ, rs, pp⟩
  refine LA.of rσ rs pp fun ds S1 ρ1 H1 vs e1 rσ1 rs1 rds p1 => ?_
  show LE G W fv σ H1 _
  refine LE.of rσ1 rs1 p1 fun d S2 ρ2 H2 u e2 rσ2 rs2 rd p2 => ?_
  unfold kKw2 at p2
  by_cases hl : ds.length = n
  · rw [if_pos hl] at p2
    refine ⟨⟨by rw [rds.length]; exact hl, rfl⟩, ?_⟩
    exact sp_of (by rw [List.length_append, List.length_singleton, hl]) ((rds.ext e2).app (RDs.cons rd RDs.nil)) rs2 (p2.imp fun d S k => k.shift (e1.trans e2))
  · rw [if_neg hl] at p2
    exact p2.elim
end
theorem calleeK_of {P : Program} {w : World} {K : PySem.W.Frag} {mg : Str → Option Value} {base : Heap} {cl : Nat → Addr} {tb : List (Addr × Str)} {x qual kw : Str} {params : Arguments} {body : List Stmt} {scope : Scope} {kws : List (Str × V)} {N ps : List Str} {n k : Nat} {g : FS}
    (D : ∃ f fd, FunD K x qual params body scope [] kws f fd ∧ mg x = some (.ref f)) (S : FnScope N ps scope) (hk : kws ≠ []) (hn : n + 1 = ps.length)
    (hb : ∀ (D : Addr) (doc pm : Value) (an : Option Addr) (cdv ct : Value) (us mv ws : List Value), us.length = n → mv.length = 0 → ws.length = 1 → bindArgs (PySem.W.fnOf x qual params body scope .none (.ref D) doc pm an cdv ct) ⟨us, [kw].zip ws⟩ = pure (ps.zip (us ++ ws)))
    (h : ∀ (f : Addr) (cdv : Value) (A : Around) (outer : List Env) (s : Shared) (H : Hp) (E : XK), Here (cxOf (L2.CX P w) P w K mg base N qual scope f cdv A outer s H E) (fun cls d _ H => E cls d H) k →
      JSs ⟨P, w, K, cl, tb⟩ (cxOf (L2.CX P w) P w K mg base N qual scope f cdv A outer s H E) (fun cls d _ H => E cls d H) body g) :
    CalleeK ⟨P, w, K, cl, tb⟩ mg base x kw ps n (k + 1) (fDef N.length g) := by
  obtain ⟨f, fd, F, hm⟩ := D
  obtain ⟨mv, b⟩ := F.kbinds0 n [kw] [] (fun us _ ws => us ++ ws) hk (fun q h => nomatch h) (fun r1 _ r3 => r1.append r3) (fun D doc pm an cdv ct us mv ws l1 l2 l3 => hb D doc pm an cdv ct us mv ws l1 l2 l3)
  have hf := fn_body N ps F S (k := k) (g := g) (P := P) (w := w) (mg := mg) (base := base) (cl := cl) fun cdv A outer s H E hr => h f cdv A outer s H E (here_def hr)
  rw [← hn] at hf
  exact ⟨f, fd, _, hf, hm, F.kp, b⟩
end Fx

/-! Fx25: try whose body raises nothing; len(set(..)) of different ints. -/
namespace Fx
open PySem PySem.Spec L2
instance fits_nox {G : Gm} {X : Cx} [F : Fits G X] : Fits G X.nox := ⟨F.P, F.w, F.K⟩
theorem here_nox {X : Cx} {W : WX} {k : Nat} (h : Here X W k) : Here X.nox W0 k := ⟨h.room, takes0, PassesOwn.never⟩
def sTry (g : FS) : FS := fun σ S => match g σ S with
  | .exc _ _ _ => .stuck
  | o => o
section
variable {G : Gm} {X : Cx} {W : WX} {body : List Stmt} {h₀ : ExceptHandler} {hs : List ExceptHandler} {g : FS} {pos : Pos}
theorem js_try (hb : JSs G X.nox W0 body g) : JS G X W (.Try body (h₀ :: hs) [] [] pos) (sTry g) := by
  refine ⟨PS.weak (ps_try_thru0 hb.ps) ?_⟩
  rintro E σ H ⟨ρ, η, σd, S, rσ, rs, p⟩
  refine ⟨ρ, η, σd, S, rσ, rs, ?_⟩
  unfold sTry at p
  cases hg : g σd S with
  | nx a b => rw [hg] at p; exact p
  | bk a b => rw [hg] at p; exact p
  | ct a b => rw [hg] at p; exact p
  | rt a b => rw [hg] at p; exact p
  | exc x a b => rw [hg] at p; exact p.elim
  | stuck => rw [hg] at p; exact p.elim
end
def opLenSet (x : D) (S : Sto) : Option D := match seqL x S with
  | some xs => (match intsOf xs with
    | some is => if decide is.Nodup && decide (is.length ≤ 4000) then some (.int (is.length : Nat)) else none
    | none => none)
  | none => none
def fLenSet (fa : FE) : FE := fUn opLenSet fa
section
variable {G : Gm} {X : Cx} {W : WX} {a : Expr} {fa : FE} {p p2 q pos : Pos}
theorem je_lenSet [F : Fits G X] (hm : X.mg "len" = none) (hm2 : X.mg "set" = none) (ha : JE G X W a fa) (hc : X.calm = true := by rfl) (hg : Gl X "len" := by rfl) (hg2 : Gl X "set" := by rfl)
    (na : starEach [a] X.env = (false, eval a X.env) :: starEach [] X.env := by rfl) : JE G X W (.Call (.Name "len" p) [.Call (.Name "set" p2) [a] [] q] [] pos) (fLenSet fa) := by
  refine ⟨PE.weak (RZ.pe_lenSetI hg hm hg2 hm2 ha.pe hc na) ?_⟩
  rintro σ H Q ⟨ρ, η, σd, S, rσ, rs, pp⟩
  refine LE.of rσ rs pp fun x S1 ρ1 H1 u e1 rσ1 rs1 rx p1 => ?_
  have p3 := p1.imp (k' := KE G η ρ1 H1 Q) fun d S k => k.shift e1
  obtain ⟨d, e, h⟩ := opStep rs1 p3
  unfold opLenSet at e
  split at e
  · rename_i xs hx
    split at e
    · rename_i is hi
      split at e
      · rename_i hc
        cases e
        rw [Bool.and_eq_true, decide_eq_true_iff, decide_eq_true_iff] at hc
        obtain ⟨l, vs, rfl, hs, hl, r⟩ := seqL_at rs1 rx hx
        have hv := ints_at xs vs is r hi
        subst hv
        exact ⟨l, is, rfl, F.K ▸ hs, hc.1, hc.2, h H1 _ (Same.refl H1) (by rw [RD])⟩
      · cases e
    · cases e
  · cases e
end
@[simp] theorem xLenSet {fa : FE} {σ : Sl} {S : Sto} : fLenSet fa σ S = (fa σ S).bind (kUn opLenSet) := by unfold fLenSet; rw [xUn]
theorem sTry_nx {g : FS} {σ σ' : Sl} {S S' : Sto} (h : g σ S = .nx σ' S') : sTry g σ S = .nx σ' S' := by unfold sTry; rw [h]
end Fx

namespace Fx
open PySem PySem.Spec L2
section
variable {G : Gm} {X : Cx} {W : WX}
theorem jl_lcNc (own : List (Str × Nat)) (i : Nat) {elt iter : Expr} {x : Str} {ifs : List Expr} {scope : Scope} {pos px : Pos} {fi : FI} {tt : FT} {te : FE} (hc : X.calm = true) (hN : X.N.Nodup) (hi : JI G X W (.Name x px) iter fi)
    (ht : ∀ (s : Shared) (H : Hp) (C : Addr) (cl : List (Str × Addr)) (fp : List Addr), JTs G (X.blk s H scope (compEnvC scope cl C X.env) fp) ifs tt)
    (he : ∀ (s : Shared) (H : Hp) (C : Addr) (cl : List (Str × Addr)) (fp : List Addr), JE G (X.blk s H scope (compEnvC scope cl C X.env) fp) W0 elt te)
    (ok : blkC X.N X.env.scope scope own = true := by rfl) (hx : X.N[i]? = some x := by rfl) (hl : locB (relabel scope X.env) x = true := by rfl) (hf : (scope.names.lookup x == some .cell) = true := by rfl) (hm : own.any (fun p => p.2 == i) = true := by rfl)
    (hs : ∀ x, foldedSetIterable iter X.env x = pure x := by intro _; rfl) : JL G X W (.ListComp elt [⟨.Name x px, iter, ifs, 0⟩] scope pos) (fLc (own.map (·.2)) fi (gNm i) tt te) := by
  have hmem : i ∈ own.map (·.2) := by
    obtain ⟨p, hp, e⟩ := List.any_eq_true.mp hm
    have e' : p.2 = i := by simpa using e
    exact List.mem_map.mpr ⟨p, hp, e'⟩
  exact jl_lc own hc hN hi ok (fun s H C cl fp => pg_name hN hx (loc_of hl) (.inl hf)) (own_name _ i hmem) gNm_keep ht he hs
theorem js_setLcNc (own : List (Str × Nat)) (i k : Nat) {fi : FI} {tt : FT} {te : FE} {y : Str} {spos py : Pos} {ff : FE} (hff : ∀ σ H Q, LE G W ff σ H Q → LL G W (fLc (own.map (·.2)) fi (gNm i) tt te) σ H Q) {elt iter : Expr} {x : Str} {ifs : List Expr} {scope : Scope} {pos px : Pos} (hc : X.calm = true) (hN : X.N.Nodup) (hi : JI G X W (.Name x px) iter fi)
    (ht : ∀ (s : Shared) (H : Hp) (C : Addr) (cl : List (Str × Addr)) (fp : List Addr), JTs G (X.blk s H scope (compEnvC scope cl C X.env) fp) ifs tt)
    (he : ∀ (s : Shared) (H : Hp) (C : Addr) (cl : List (Str × Addr)) (fp : List Addr), JE G (X.blk s H scope (compEnvC scope cl C X.env) fp) W0 elt te)
    (ok : blkC X.N X.env.scope scope own = true := by rfl) (hx : X.N[i]? = some x := by rfl) (hl : locB (relabel scope X.env) x = true := by rfl) (hf : (scope.names.lookup x == some .cell) = true := by rfl) (hm : own.any (fun p => p.2 == i) = true := by rfl)
    (hy : X.N[k]? = some y := by rfl) (hyl : X.env.scope.names.lookup y = some .local := by rfl) (hsw : swapsWith (.ListComp elt [⟨.Name x px, iter, ifs, 0⟩] scope pos) (some (.Name y py)) spos.line X.env = pure true := by rfl)
    (hs : ∀ x, foldedSetIterable iter X.env x = pure x := by intro _; rfl) : JS G X W (.Assign [.Name y py] (.ListComp elt [⟨.Name x px, iter, ifs, 0⟩] scope pos) spos) (sAsg (gNm k) ff) := by
  have hmem : i ∈ own.map (·.2) := by
    obtain ⟨p, hp, e⟩ := List.any_eq_true.mp hm
    have e' : p.2 = i := by simpa using e
    exact List.mem_map.mpr ⟨p, hp, e'⟩
  exact js_setLc own k hc hN hi ok (fun s H C cl fp => pg_name hN hx (loc_of hl) (.inl hf)) (own_name _ i hmem) gNm_keep ht he hy hyl hsw hs hff
end
end Fx

/-! Fx27: sorted(set(list of ints)). -/
namespace Fx
open PySem PySem.Spec L2 PyProof.Rows
/-- the new set's object -/
abbrev nSet (w : World) : Obj := { cls := .type "set", dict := none, data := .set #[] 0 (.fresh 0 0 (!w.params.followText "set-order")) }
section
variable {P : Program} {w : World} {A : Around} {E : Value → Shared → Prop} {s : Shared}
theorem set_of_ints {l : Addr} {its : Array Value} (zs : List Int) {Q : Value → Shared → Prop} (calm : A.handled = none) (ls : s.heap.IsList l its) (are : IntsAre its.toList zs) (room : zs.length + 1 < scanBound)
    (post : ∀ (h' : Heap) (tk c : Nat), SetR w h' s.heap.objs.size (fun j => decide (j ∈ zs)) c → c ≤ zs.length → (∀ b o, s.heap.get? b = some o → h'.get? b = some o) → Q (.ref s.heap.objs.size) { s with heap := h', toks := tk }) : wpAny (model P w) A (call (.type "set") [.ref l]) Q E s := by
  have many : its.size = zs.length := by have q := IntsAre.length are; rw [Array.length_toList] at q; exact q
  obtain ⟨c, tl, hmro⟩ := F.called_set.mro; have f1 := F.called_set.made; have f2 := F.called_set.sub
  refine wpAny_call (codeAny_of_tree ?_); show wpAny _ _ (callAny (.type "set") _) _ _ _
  refine wpAny_pure ⟨Code.quiet_builtin _ (by decide +kernel), codeAny_builtin F.entry_type_call ?_⟩; rw [Around.under_plain (weight_type_call_type "set" [.ref l] []) rfl]
  have f3 := F.called_set.notType; have f4 := F.called_set.canCreate; have f5 := F.typeCall_set_1 (.ref l)
  repeat (any_goals (first | assumption | wp_step))
  refine codeAny_mono (code_set_led1 (.ref l) (E := E) (Q₁ := fun obj t => obj = .ref s.heap.objs.size ∧ t = { s with heap := s.heap.push (nSet w) }) ⟨rfl, rfl⟩) fun r t hr => ?_
  cases r with
  | error e => exact hr
  | ok fl =>
    cases fl with
    | ret obj =>
      obtain ⟨rfl, rfl⟩ := hr
      have new : (s.heap.push (nSet w)).get? s.heap.objs.size = some (nSet w) := Heap.get?_push_size _ rfl
      have typ : Shared.TypeIs { s with heap := s.heap.push (nSet w) } (.ref s.heap.objs.size) "set" := ⟨_, new, rfl⟩
      have f6 := F.called_set.init.lookup; have f7 := F.called_set.init.bind (.ref s.heap.objs.size)
      repeat (any_goals (first | assumption | wp_step))
      refine codeAny_mono (codeAny_call_builtin (R := wants (fun r t => r = .none ∧ ∃ h' tk c, t = { s with heap := h', toks := tk } ∧ SetR w h' s.heap.objs.size (fun j => decide (j ∈ zs)) c ∧ c ≤ zs.length ∧ (∀ b o, s.heap.get? b = some o → h'.get? b = some o)) E) F.called_set.init.plain F.entry_set_init (check_set_init_1 typ ?_)) fun r2 t2 hr2 => ?_
      · obtain ⟨⟨oc, od, da, os⟩, hol, oc1, nl, da1⟩ := ls
        simp only at oc1 da1; subst oc1; subst da1
        have hol2 : (s.heap.push (nSet w)).get? l = some { cls := .type "list", dict := od, data := .seq its nl, slots := os } := Heap.get?_push_of_some _ hol
        have f8 := F.sub_list_set; have f9 := F.sub_list_frozenset
        have f10 : (Value.type "list" == Value.type "dict") = false := by decide
        have ls1 : (s.heap.push (nSet w)).IsList l its := ⟨_, hol2, rfl, nl, rfl⟩
        have hl1 := ls1; have hol' := hol2
        unfold Builtin.«set.__init__» noKeywords Builtin.Frozenset.updateFrom; generalize hPI : pyIter = PI
        wp_walk
        subst hPI
        refine wpAny_pyIter_list ls1 ?_; refine wpAny_bind (wpAny_runValue ?_)
        have lt : l < s.heap.objs.size := Heap.lt_size hol
        have calm3 : A.in1.in1.in1.handled = none := by simp [calm]
        have ne : l ≠ (s.heap.push (nSet w)).objs.size := by rw [Heap.size_push]; exact Nat.ne_of_lt (Nat.lt_succ_of_lt lt)
        have out : s.heap.objs.size ∉ [(s.heap.push (nSet w)).objs.size, l] := by
          rw [Heap.size_push]; simp only [List.mem_cons, List.mem_singleton, List.not_mem_nil, or_false, not_or]; exact ⟨Nat.ne_of_lt (Nat.lt_succ_self _), Nat.ne_of_gt lt⟩
        have val : ∀ (i : Nat) (v : Value), its[i]? = some v → ∃ k t, zs[i]? = some k ∧ v = .int k t := fun i v hv => by
          have hi : i < zs.length := by rw [← many]; exact (Array.getElem?_eq_some_iff.mp hv).1
          obtain ⟨t, e⟩ := PyProof.Rows.IntsAre.int_at are i v (by rw [Array.getElem?_toList]; exact hv)
          exact ⟨zs[i], t, List.getElem?_eq_getElem hi, by rw [e, List.getD_eq_getElem?_getD, List.getElem?_eq_getElem hi] <;> rfl⟩
        refine set_update_ints ((Walks.list calm3 _ l ne its).toS) s.heap.objs.size out zs many room val (its.size - 0) 0 _ (by omega) (Nat.zero_le _) ⟨⟨_, Heap.get?_push_size _ rfl, rfl, rfl⟩, (ls1.push _)⟩ ?beg ?fin
        case beg => exact ⟨0, Nat.le_refl 0, setR_new_at (Heap.get?_push_of_some _ new)⟩
        case fin =>
          intro t3 c3 mv le set3
          obtain ⟨h3, g3, d3, tk3, os3⟩ := t3
          have z1 : g3 = s.gens := mv.gens; have z2 : d3 = s.drawn := mv.drawn; have z3 : os3 = s.os := mv.os
          subst z1; subst z2; subst z3
          show wpAny _ _ _ _ _ _
          refine wpAny_pure ?_
          show wpAny _ _ (ret Value.none) _ _ _
          rw [many] at le
          refine wpAny_pure ⟨rfl, h3, tk3, c3, rfl, set3, le, fun b o e => ?_⟩
          have b0 : b < s.heap.objs.size := Heap.lt_size e
          have b1 : b ≠ (s.heap.push (nSet w)).objs.size := by rw [Heap.size_push]; exact Nat.ne_of_lt (Nat.lt_succ_of_lt b0)
          exact mv.heap b o (by simp only [List.mem_cons, List.mem_singleton, List.not_mem_nil, or_false, not_or]; exact ⟨Nat.ne_of_lt b0, b1⟩) (Heap.get?_push_of_some _ (Heap.get?_push_of_some _ e))
      · cases r2 with
        | error e => exact hr2
        | ok fl2 =>
          cases fl2 with
          | ret r =>
            obtain ⟨rfl, h4, tk4, c4, rfl, set4, le4, kp4⟩ := hr2
            repeat (any_goals (first | assumption | wp_step))
            exact post _ _ _ set4 le4 kp4
          | _ => exact hr2.elim
    | _ => exact hr.elim
end
/-! ### sorted(set(list of ints)) -/
def tSortSet (K : PySem.W.Frag) (ta : TE) : TE := fun σ H Q => ta σ H fun x H1 => ∃ (l : Addr) (ns : List Int), x = V.ref l ∧ SqL K H1 l (ns.map V.int) ∧ ns.length < 64 ∧ ∀ (out : List Int) (p : Addr), out.Pairwise (· < ·) → (∀ k, k ∈ out ↔ k ∈ ns) → H1 p = none → Q (.ref p) (upd H1 p (.lst (out.map V.int)))
theorem pe_sortSet {X : Cx} {a : Expr} {ta : TE} {p p2 q pos : Pos} (hg : Gl X "sorted") (hm : X.mg "sorted" = none) (hg2 : Gl X "set") (hm2 : X.mg "set" = none) (ha : PE X a ta) (hc : X.calm = true)
    (na : starEach [a] X.env = (false, eval a X.env) :: starEach [] X.env) : PE X (.Call (.Name "sorted" p) [.Call (.Name "set" p2) [a] [] q] [] pos) (tSortSet X.K ta) := by
  refine ⟨fun pins s σ H Q I h => ?_⟩
  refine Call_ (ld_blt I hg hm boot_sorted ?_)
  refine PyProof.Rows.callWith_builtin1 (PyProof.Rows.args_cons ?_ rfl) rfl rfl
  refine Call_ (ld_blt I hg2 hm2 boot_set ?_)
  refine PyProof.Rows.callWith_type1 (PyProof.Rows.args_cons (thn (ha.run pins s σ H _ I h) fun v s1 ⟨x, H1, I1, r1, q1⟩ => PyProof.Rows.args_nil ?_) na) na rfl
  obtain ⟨l, ns, rfl, hq, hl, q1⟩ := q1
  cases r1
  obtain ⟨its, r, pl, hz⟩ := I1.list hq
  have hi : IntsAre its.toArray.toList ns := by rw [List.toList_toArray]; exact ints_of_vals r
  refine set_of_ints ns (I1.ok.hd hc) pl.isList hi (by unfold scanBound; omega) fun h' tk c hS hle hk => ?_
  refine PyProof.Rows.args_nil ?_
  have I2 : Inv X pins σ H1 { s1 with heap := h', toks := tk } := I1.kept fun b o e => hk b o e
  refine sorted_set hS (I2.ok.hd hc) (by omega) fun s3 p out c3 zs k g o hp hg3 hi3 hs3 hm3 hl3 => ?_
  have hlen : (zs.map V.int).length ≤ sizeLine := by rw [List.length_map, hl3, sizeLine_eq]; omega
  have hn : H1 p = none := I2.hok.fresh hp
  obtain ⟨t2, ht2⟩ : ∃ t2 : Shared, t2 = { s1 with heap := h', toks := tk } := ⟨_, rfl⟩
  rw [← ht2] at I2 k g o hp
  have J : Inv X pins σ (upd H1 p (.lst (zs.map V.int))) { t2 with heap := s3.heap, gens := s3.gens, drawn := s3.drawn, toks := s3.toks } :=
    I2.call (ch := []) (Un.laid k hp hn) (I2.hok.laid k hp ⟨hlen, out.toList, c3, vals_of_ints hi3, hg3⟩) (by rw [g]; exact I2.bare) (fun _ z => nomatch z)
  have e : s3 = { t2 with heap := s3.heap, gens := s3.gens, drawn := s3.drawn, toks := s3.toks } := by
    cases s3; cases t2; cases o; rfl
  rw [e]
  exact ⟨.ref p, _, J, rfl, q1 zs p hs3 (fun k => by rw [hm3 k, decide_eq_true_iff]) hn⟩
/-- sorted, each once -/
def insI (k : Int) : List Int → List Int
  | [] => [k]
  | x :: xs => if k < x then k :: x :: xs else if k = x then x :: xs else x :: insI k xs
def sortI : List Int → List Int
  | [] => []
  | x :: xs => insI x (sortI xs)
theorem mem_insI (k : Int) : ∀ (xs : List Int) (j : Int), j ∈ insI k xs ↔ j = k ∨ j ∈ xs
  | [], j => by simp [insI]
  | x :: xs, j => by
    unfold insI
    split
    · simp
    · split
      · rename_i h1 h2
        subst h2
        simp
      · rw [List.mem_cons, mem_insI k xs j, List.mem_cons]
        constructor
        · rintro (h | h | h)
          · exact .inr (.inl h)
          · exact .inl h
          · exact .inr (.inr h)
        · rintro (h | h | h)
          · exact .inr (.inl h)
          · exact .inl h
          · exact .inr (.inr h)
theorem mem_sortI : ∀ (xs : List Int) (j : Int), j ∈ sortI xs ↔ j ∈ xs
  | [], j => by simp [sortI]
  | x :: xs, j => by rw [sortI, mem_insI, mem_sortI xs j, List.mem_cons]
theorem len_insI (k : Int) : ∀ xs : List Int, (insI k xs).length ≤ xs.length + 1
  | [] => Nat.le_refl _
  | x :: xs => by
    unfold insI
    have := len_insI k xs
    split
    · simp
    · split
      · simp
      · simp only [List.length_cons]; omega
theorem len_sortI : ∀ xs : List Int, (sortI xs).length ≤ xs.length
  | [] => Nat.le_refl _
  | x :: xs => by
    have h1 := len_insI x (sortI xs)
    have h2 := len_sortI xs
    rw [sortI, List.length_cons]
    omega
theorem ord_insI (k : Int) : ∀ (xs : List Int), xs.Pairwise (· < ·) → (insI k xs).Pairwise (· < ·)
  | [], _ => by simp [insI]
  | x :: xs, h => by
    rw [List.pairwise_cons] at h
    unfold insI
    split
    · rename_i h1
      rw [List.pairwise_cons, List.pairwise_cons]
      refine ⟨fun y hy => ?_, h⟩
      rcases List.mem_cons.mp hy with rfl | hy
      · exact h1
      · exact Int.lt_trans h1 (h.1 y hy)
    · split
      · exact List.pairwise_cons.mpr h
      · rename_i h1 h2
        rw [List.pairwise_cons]
        refine ⟨fun y hy => ?_, ord_insI k xs h.2⟩
        rcases (mem_insI k xs y).mp hy with rfl | hy
        · omega
        · exact h.1 y hy
theorem ord_sortI : ∀ xs : List Int, (sortI xs).Pairwise (· < ·)
  | [] => List.Pairwise.nil
  | x :: xs => ord_insI x _ (ord_sortI xs)
theorem ord_eq : ∀ (xs ys : List Int), xs.Pairwise (· < ·) → ys.Pairwise (· < ·) → (∀ k, k ∈ xs ↔ k ∈ ys) → xs = ys
  | [], [], _, _, _ => rfl
  | [], y :: ys, _, _, h => nomatch (h y).mpr List.mem_cons_self
  | x :: xs, [], _, _, h => nomatch (h x).mp List.mem_cons_self
  | x :: xs, y :: ys, h1, h2, h => by
    rw [List.pairwise_cons] at h1 h2
    have e : x = y := by
      rcases List.mem_cons.mp ((h x).mp List.mem_cons_self) with e | e
      · exact e
      · rcases List.mem_cons.mp ((h y).mpr List.mem_cons_self) with e2 | e2
        · exact e2.symm
        · have := h2.1 x e
          have := h1.1 y e2
          omega
    subst e
    refine congrArg _ (ord_eq xs ys h1.2 h2.2 fun k => ?_)
    constructor
    · intro hk
      rcases List.mem_cons.mp ((h k).mp (List.mem_cons_of_mem _ hk)) with rfl | z
      · exact absurd (h1.1 k hk) (Int.lt_irrefl k)
      · exact z
    · intro hk
      rcases List.mem_cons.mp ((h k).mpr (List.mem_cons_of_mem _ hk)) with rfl | z
      · exact absurd (h2.1 k hk) (Int.lt_irrefl k)
      · exact z
def opSortSet (x : D) (S : Sto) : Option (List D) := match seqL x S with
  | some xs => (match intsOf xs with
    | some is => if decide (is.length < 64) then some ((sortI is).map D.int) else none
    | none => none)
  | none => none
def fSortSet (fa : FE) : FL := fun σ S => (fa σ S).bind fun x S1 => liftO (opSortSet x S1) S1
section
variable {G : Gm} {X : Cx} {W : WX} {a : Expr} {fa : FE} {p p2 q pos : Pos}
theorem jl_sortSet [F : Fits G X] (hm : X.mg "sorted" = none) (hm2 : X.mg "set" = none) (ha : JE G X W a fa) (hc : X.calm = true := by rfl) (hg : Gl X "sorted" := by rfl) (hg2 : Gl X "set" := by rfl)
    (na : starEach [a] X.env = (false, eval a X.env) :: starEach [] X.env := by rfl) : JL G X W (.Call (.Name "sorted" p) [.Call (.Name "set" p2) [a] [] q] [] pos) (fSortSet fa) := by
  refine ⟨PE.weak (pe_sortSet hg hm hg2 hm2 ha.pe hc na) ?_⟩
  rintro σ H Q ⟨ρ, η, σd, S, rσ, rs, pp⟩
  refine LE.of rσ rs pp fun x S1 ρ1 H1 u e1 rσ1 rs1 rx p1 => ?_
  cases hq : opSortSet x S1 with
  | none => rw [hq] at p1; exact p1.elim
  | some ys =>
    rw [hq] at p1
    unfold opSortSet at hq
    split at hq
    · rename_i xs hx
      split at hq
      · rename_i is hi
        split at hq
        · rename_i hlt
          cases hq
          rw [decide_eq_true_iff] at hlt
          obtain ⟨l, vs, rfl, hs, hl, r⟩ := seqL_at rs1 rx hx
          have hv := ints_at xs vs is r hi
          subst hv
          refine ⟨l, is, rfl, F.K ▸ hs, hlt, fun out n ho hmem hn => ?_⟩
          have eo : out = sortI is := ord_eq out _ ho (ord_sortI is) fun k => by rw [hmem k, mem_sortI]
          subst eo
          have rd : ∀ zs : List Int, RDs G ρ1 η H1 (zs.map D.int) (zs.map V.int) := by
            intro zs
            induction zs with
            | nil => rw [List.map_nil, List.map_nil, RDs]
            | cons z zs ih => rw [List.map_cons, List.map_cons, RDs]; exact ⟨_, _, rfl, by rw [RD], ih⟩
          exact newList (fun a ha => rs1.somes a (e1.mem ha)) e1 rs1 (rd _) (by
            rw [List.length_map, sizeLine_eq]
            have := len_sortI is
            omega) hn p1
        · cases hq
      · cases hq
    · cases hq
end
@[simp] theorem xSortSet {fa : FE} {σ : Sl} {S : Sto} : fSortSet fa σ S = (fa σ S).bind fun x S1 => liftO (opSortSet x S1) S1 := rfl
end Fx

/-! Fx28: raise, try .. except as, isinstance and fields of what was caught. -/
namespace Fx
open PySem PySem.Spec L2
/-- an exception class of the text -/
structure Ex0 (G : Gm) (mg : Str → Option Value) (c : Nat) (x : Str) : Prop where
  q : PySem.W.excIn G.K (G.cl c) He.veBase "ValueError.__new__" = true
  k : PySem.W.keepIn G.K (.ref (G.cl c)) = true
  b : PySem.W.subIn G.K (.ref (G.cl c)) (.type "BaseException") = some true
  t : PySem.W.typeIn G.K (.ref (G.cl c)) = some (.type "type")
  m : mg x = some (.ref (G.cl c))
def sRaise0 (c : Nat) : FS := fun σ S => .exc ⟨c, []⟩ σ S
section
variable {G : Gm} {X : Cx} {W : WX} {k c : Nat} {x m : Str} {p p1 p2 pos pos' : Pos} {e : Expr} {es : List Expr}
theorem js_raise0 [F : Fits G X] {j : Nat} (h : Here X W k) (hc : X.calm = true) (ex : Ex0 G X.mg c x) (hg : Gl X x := by rfl) (hdb : (x == ("__debug__" : Str)) = false := by decide) :
    JS G X W (.Raise (some (.Call (.Name x p) [.Constant (.str m) j p2] [] pos)) none pos') (sRaise0 c) := by
  obtain ⟨q, kk, b, t, gm⟩ := ex
  rw [F.K] at q kk b t
  refine ⟨PS.weak (ps_raise hc h.takes (pmk_own PySem.F.excBase_ValueError q gm kk (raises_own b t) hg hdb)) ?_⟩
  rintro E σ H ⟨ρ, η, σd, S, rσ, rs, p⟩
  exact p ρ H σ _ none (Ext.refl ρ H) rσ rs ⟨rfl, .inl ⟨rfl, rfl⟩⟩

/-! ### classes with an own __init__ -/
/-- the base's __init__, called by its name -/
structure IniB (K : PySem.W.Frag) (C : Addr) : Prop where
  ga : PySem.W.specialIn K (.ref C) "__getattribute__" = some (some (.builtin "type.__getattribute__"))
  rd : PySem.W.readsIn K C (.type "type") = true
  at_ : PySem.W.findCls K (.ref C) (.type "type") "__init__" = some (.val (.builtin "ValueError.__init__"))
theorem pe_baseInit {y : Str} {CS : Addr} {ta : TA} {pl : Sem Bool} (hg : Gl X y) (hm : X.mg y = some (.ref CS)) (B : IniB X.K CS) (ha : PA X (e :: es) ta)
    (hc : eval (.Call (.Attribute (.Name y p1) "__init__" p2) (e :: es) [] pos) X.env = (do
      let ov ← eval (.Name y p1) X.env
      standAt p2.atName
      let (f, first) ← holding [ov] (getMethod ov "__init__" pl)
      callWith pos f first (backTo pos (starEach (e :: es) X.env)) (backToKw pos (keywordEach [] X.env))) := by rfl)
    (he : starEach (e :: es) X.env = (false, eval e X.env) :: starEach es X.env := by rfl) (hpl : (backTo pos (starEach es X.env)).any (·.1) = false := by rfl) (hdb : (y == ("__debug__" : Str)) = false := by decide) :
    PE X (.Call (.Attribute (.Name y p1) "__init__" p2) (e :: es) [] pos) (tVeI X.K ta) := by
  constructor
  intro pins s σ H Q I h
  refine PySem.W.methodCall_KW (ld_glob I hg hm ?_ hdb) hc
  refine PySem.W.method_cls I.kIn B.ga (PySem.W.cls_value I.kIn B.rd B.at_ (by decide +kernel) ?_)
  show wpAny _ _ (callWith pos (Value.builtin "ValueError.__init__") [] (backTo pos (starEach (e :: es) X.env)) []) _ _ _
  refine PyProof.Rows.callWith_method1 (thn (ha.run pos pins _ σ H _ (I.tok _) h) fun us s1 ⟨vs, H1, I1, r1, hq⟩ => ?_) he hpl
  obtain ⟨a, C, ws, ev, hl, T, ea, q⟩ := hq
  subst ev
  cases r1 with
  | @cons _ u0 _ ur ra rw' =>
    obtain rfl : u0 = Value.ref a := ra
    exact oinit_ok T I1 ea (by rw [← Paired.length rw', sizeLine_eq]; omega) fun s' J => ⟨.non, H1, J, rfl, q⟩
end

/-- a class whose exceptions are made by its own __init__, which keeps these fields -/
structure ExMk (G : Gm) (mg : Str → Option Value) (base : Heap) (c : Nat) (x : Str) (fs : List Str) (n k : Nat) : Prop where
  few : n ≤ 100 ∧ fs.length = n
  T : OexC G.K (G.cl c)
  m : mg x = some (.ref (G.cl c))
  ok : ∃ (fI : Addr) (fd : FuncData) (ps : List Str) (sp : Sp), PySem.W.findIn G.K (.ref (G.cl c)) "__init__" = some (some (.ref fI)) ∧ PySem.W.typeIn G.K (.ref fI) = some (.type "function") ∧
    FnOk G.P G.w G.K mg base (L2.CX G.P G.w) k fI fd ps sp ∧ Binds G.K fd ps [] ∧
    ∀ (H : Hp) (a : Addr) (vs : List V) (Q : VK), vs.length = n → H a = some (exo a (G.cl c) none) →
      (∀ (dx : Addr) (H2 : Hp) (l : List (Str × V)), H dx = none → dx ≠ a → H2 a = some (exo a (G.cl c) (some dx)) → H2 dx = some (exd dx l) → l.map (·.1) = fs → l.map (·.2) = vs.reverse → (∀ b, b ≠ a → b ≠ dx → H2 b = H b) → Q .non H2) →
      sp (.ref a :: vs) H Q fun _ _ _ => False
def sRaiseF (c n : Nat) (fs : List Str) (g : FL) : FS := fun σ S => (g σ S).bindS σ fun ds S1 => if ds.length = n then .exc ⟨c, fs.zip ds.reverse⟩ σ S1 else .stuck
theorem zip_fst {α β : Type} : ∀ (a : List α) (b : List β), a.length = b.length → (a.zip b).map (·.1) = a ∧ (a.zip b).map (·.2) = b
  | [], [], _ => ⟨rfl, rfl⟩
  | x :: a, y :: b, h => by
    obtain ⟨h1, h2⟩ := zip_fst a b (by simpa using h)
    rw [List.zip_cons_cons, List.map_cons, List.map_cons, h1, h2]
    exact ⟨rfl, rfl⟩
  | [], _ :: _, h => by simp at h
  | _ :: _, [], h => by simp at h
section
variable {G : Gm} {X : Cx} {W : WX} {k c n : Nat} {x m : Str} {p p1 p2 pos pos' : Pos} {e : Expr} {es : List Expr} {fs : List Str} {g : FL}
theorem js_raiseF [F : Fits G X] {j : Nat} (h : Here X W j) (hc : X.calm = true) (ex : ExMk G X.mg X.base c x fs n k) (hk : k + 1 ≤ j) (ha : JA G X W (e :: es) g) (hg : Gl X x := by rfl) (hdb : (x == ("__debug__" : Str)) = false := by decide)
    (he : starEach (e :: es) X.env = (false, eval e X.env) :: starEach es X.env := by rfl) (hpl : (backTo pos (starEach es X.env)).any (·.1) = false := by rfl) :
    JS G X W (.Raise (some (.Call (.Name x p) (e :: es) [] pos)) none pos') (sRaiseF c n fs g) := by
  obtain ⟨⟨few, hfs⟩, T, gm, fI, fd, ps, sp, iC, tI, F1, hb, hsp⟩ := ex
  rw [F.K] at T iC tI hb
  rw [F.P, F.w, F.K] at F1
  refine ⟨PS.weak (ps_raise hc h.takes (pmk_oex (dvs := []) (ds := []) T iC tI F1 (h.room.mono hk) hb .nil (fun pins σ H s er s' I cx => ?_) hg gm ha.pa hdb he hpl)) ?_⟩
  · obtain ⟨_, _, _, _, _, _, _, _, _, _, _, _, z⟩ := cx
    exact z.elim
  rintro E σ H ⟨ρ, η, σd, S, rσ, rs, p⟩
  refine LA.ofS rσ rs p fun ds S1 ρ1 H1 vs e1 rσ1 rs1 rds p1 => ?_
  by_cases hl : ds.length = n
  · rw [if_pos hl] at p1
    have hvl : vs.length = n := by rw [rds.length, hl]
    refine ⟨by omega, fun a ha => ?_⟩
    rw [List.append_nil]
    refine hsp _ a vs _ hvl upd_same fun dx H2 l hdx hda h2a h2d hlk hlv hoth => ?_
    have hd1 : H1 dx = none := by rw [upd_ne hda] at hdx; exact hdx
    refine ⟨rfl, dx, l, h2a, h2d, hd1, ?_⟩
    have sm : Same H1 (upd (L2.del H2 a) dx (.xd l)) := fun b o eb => by
      rw [upd_ne (ne_of_none eb hd1), L2.del_ne (ne_of_none eb ha), hoth b (ne_of_none eb ha) (ne_of_none eb hd1), upd_ne (ne_of_none eb ha)]
      exact eb
    have ee := Ext.of_same (ρ := ρ1) sm
    have hz := zip_fst fs ds.reverse (by rw [hfs, List.length_reverse, hl])
    refine p1 ρ1 _ σ _ (some dx) ee (rσ1.ext ee) (rs1.same sm) ⟨rfl, .inr ⟨dx, l, rfl, upd_same, ?_, ?_⟩⟩
    · show l.map (·.1) = (fs.zip ds.reverse).map (·.1)
      rw [hz.1, hlk]
    · show RDs G ρ1 η _ ((fs.zip ds.reverse).map (·.2)) (l.map (·.2))
      rw [hz.2, hlv]
      exact (rds.ext ee).reverse
  · rw [if_neg hl] at p1
    exact p1.elim
end
section
variable {P : Program} {w : World} {K : PySem.W.Frag} {mg : Str → Option Value} {base : Heap} {cl : Nat → Addr} {tb : List (Addr × Str)}
theorem start_at {N : List Str} {vs : List V} {i : Nat} {v : V} (h : vs[i]? = some v) : (L2.start N vs)[i]? = some (some v) := by
  unfold L2.start
  obtain ⟨hl, _⟩ := List.getElem?_eq_some_iff.mp h
  rw [List.getElem?_append_left (by simpa using hl), List.getElem?_map, h]
  rfl
/-- one field -/
theorem exMk1 {x qual y m f b self : Str} {params : Arguments} {scope : Scope} {c : Nat} {CS : Addr} {p1 p2 p3 p4 p5 p6 p7 p8 p9 p10 : Pos} {j : Nat}
    (D : ∃ fI fd, FunD K "__init__" qual params [.Expr (.Call (.Attribute (.Name y p1) "__init__" p2) [.Name self p3, .Constant (.str m) j p4] [] p5) p6, .Assign [.Attribute (.Name self p7) f p8] (.Name b p9) p10] scope [] [] fI fd ∧ Meth K (cl c) "__init__" fI)
    (hm : mg x = some (.ref (cl c))) (T : OexC K (cl c)) (B : IniB K CS) (hy : mg y = some (.ref CS)) (hno : PySem.W.findIn K (.ref (cl c)) f = some none) (S : FnScope [self, b] [self, b] scope)
    (hb : ∀ (kV doc pm : Value) (an : Option Addr) (cdv ct : Value) (us : List Value), us.length = ([self, b] : List Str).length → bindArgs (PySem.W.fnOf "__init__" qual params [.Expr (.Call (.Attribute (.Name y p1) "__init__" p2) [.Name self p3, .Constant (.str m) j p4] [] p5) p6, .Assign [.Attribute (.Name self p7) f p8] (.Name b p9) p10] scope .none kV doc pm an cdv ct) ⟨us, []⟩ = pure (([self, b] : List Str).zip us))
    (h : ∀ (fI : Addr) (cdv : Value) (A : Around) (outer : List Env) (s : Shared) (H : Hp) (E : XK),
      PE (cxOf (L2.CX P w) P w K mg base [self, b] qual scope fI cdv A outer s H E) (.Call (.Attribute (.Name y p1) "__init__" p2) [.Name self p3, .Constant (.str m) j p4] [] p5) (tVeI K (tCons (tVar 0) (tCons (tC (.str m)) tNil))) ∧
      PS (cxOf (L2.CX P w) P w K mg base [self, b] qual scope fI cdv A outer s H E) (.Expr (.Call (.Attribute (.Name y p1) "__init__" p2) [.Name self p3, .Constant (.str m) j p4] [] p5) p6) (tDrop (tVeI K (tCons (tVar 0) (tCons (tC (.str m)) tNil)))) ∧
      PS (cxOf (L2.CX P w) P w K mg base [self, b] qual scope fI cdv A outer s H E) (.Assign [.Attribute (.Name self p7) f p8] (.Name b p9) p10) (tOst K f (tVar 0) (tVar 1))) :
    ExMk ⟨P, w, K, cl, tb⟩ mg base c x [f] 1 1 := by
  obtain ⟨fI, fd, FD, hme⟩ := D
  have FB := FD.bindsN hb
  obtain ⟨⟨oc, od, dV, kV, doc, pm, an, cdv, ct, osl, rfl, lk, hcd, _⟩, kp⟩ := FD
  refine ⟨⟨by decide, rfl⟩, T, hm, fI, _, [self, b], fun vs H Q E => ∃ a y, vs = [.ref a, y] ∧ H a = some (exo a (cl c) none) ∧ ∀ dx, H dx = none → dx ≠ a → Q .non (upd (upd H dx (exd dx [(f, y)])) a (exo a (cl c) (some dx))), hme.at_, beq_iff_eq.mp hme.fn, ?_, FB, ?_⟩
  · refine fn_of (k := 0) lk hcd S (fun vs H Q E ⟨a, y, e, _⟩ => by rw [e]; rfl) fun A outer s H vs Q E hr ⟨a, y, e, ha, q⟩ => ?_
    subst e
    obtain ⟨_, h1, h2⟩ := h fI cdv A outer s H E
    refine ⟨_, pss_cons h1 (pss_one h2), ?_⟩
    refine ⟨.ref a, start_at (i := 0) rfl, ?_⟩
    refine ⟨a, cl c, [.str m], rfl, by show 1 ≤ 1000; decide, T, ha, ?_⟩
    exact ⟨y, start_at (i := 1) rfl, .ref a, start_at (i := 0) rfl, a, cl c, rfl, T, hno, .inl ⟨ha, fun dx hdx hne => q dx hdx hne⟩⟩
  · intro H a vs Q hl ha hq
    match vs, hl with
    | [y], _ =>
      refine ⟨a, y, rfl, ha, fun dx hdx hne => hq dx _ [(f, y)] hdx hne upd_same ?_ rfl rfl fun b hb hd => ?_⟩
      · rw [upd_ne hne, upd_same]
      · rw [upd_ne hb, upd_ne hd]
/-- two fields -/
theorem exMk2 {x qual y m f b f' b' self : Str} {params : Arguments} {scope : Scope} {c : Nat} {CS : Addr} {p1 p2 p3 p4 p5 p6 p7 p8 p9 p10 p11 p12 p13 p14 : Pos} {j : Nat}
    (D : ∃ fI fd, FunD K "__init__" qual params [.Expr (.Call (.Attribute (.Name y p1) "__init__" p2) [.Name self p3, .Constant (.str m) j p4] [] p5) p6, .Assign [.Attribute (.Name self p7) f p8] (.Name b p9) p10, .Assign [.Attribute (.Name self p11) f' p12] (.Name b' p13) p14] scope [] [] fI fd ∧ Meth K (cl c) "__init__" fI)
    (hm : mg x = some (.ref (cl c))) (T : OexC K (cl c)) (B : IniB K CS) (hy : mg y = some (.ref CS)) (hno : PySem.W.findIn K (.ref (cl c)) f = some none) (hno' : PySem.W.findIn K (.ref (cl c)) f' = some none) (S : FnScope [self, b, b'] [self, b, b'] scope)
    (hb : ∀ (kV doc pm : Value) (an : Option Addr) (cdv ct : Value) (us : List Value), us.length = ([self, b, b'] : List Str).length → bindArgs (PySem.W.fnOf "__init__" qual params [.Expr (.Call (.Attribute (.Name y p1) "__init__" p2) [.Name self p3, .Constant (.str m) j p4] [] p5) p6, .Assign [.Attribute (.Name self p7) f p8] (.Name b p9) p10, .Assign [.Attribute (.Name self p11) f' p12] (.Name b' p13) p14] scope .none kV doc pm an cdv ct) ⟨us, []⟩ = pure (([self, b, b'] : List Str).zip us))
    (h : ∀ (fI : Addr) (cdv : Value) (A : Around) (outer : List Env) (s : Shared) (H : Hp) (E : XK),
      PE (cxOf (L2.CX P w) P w K mg base [self, b, b'] qual scope fI cdv A outer s H E) (.Call (.Attribute (.Name y p1) "__init__" p2) [.Name self p3, .Constant (.str m) j p4] [] p5) (tVeI K (tCons (tVar 0) (tCons (tC (.str m)) tNil))) ∧
      PS (cxOf (L2.CX P w) P w K mg base [self, b, b'] qual scope fI cdv A outer s H E) (.Expr (.Call (.Attribute (.Name y p1) "__init__" p2) [.Name self p3, .Constant (.str m) j p4] [] p5) p6) (tDrop (tVeI K (tCons (tVar 0) (tCons (tC (.str m)) tNil)))) ∧
      PS (cxOf (L2.CX P w) P w K mg base [self, b, b'] qual scope fI cdv A outer s H E) (.Assign [.Attribute (.Name self p7) f p8] (.Name b p9) p10) (tOst K f (tVar 0) (tVar 1)) ∧
      PS (cxOf (L2.CX P w) P w K mg base [self, b, b'] qual scope fI cdv A outer s H E) (.Assign [.Attribute (.Name self p11) f' p12] (.Name b' p13) p14) (tOst K f' (tVar 0) (tVar 2))) :
    ExMk ⟨P, w, K, cl, tb⟩ mg base c x [f', f] 2 1 := by
  obtain ⟨fI, fd, FD, hme⟩ := D
  have FB := FD.bindsN hb
  obtain ⟨⟨oc, od, dV, kV, doc, pm, an, cdv, ct, osl, rfl, lk, hcd, _⟩, kp⟩ := FD
  refine ⟨⟨by decide, rfl⟩, T, hm, fI, _, [self, b, b'], fun vs H Q E => ∃ a y z, vs = [.ref a, y, z] ∧ H a = some (exo a (cl c) none) ∧ ∀ dx, H dx = none → dx ≠ a → Q .non (upd (upd (upd H dx (exd dx [(f, y)])) a (exo a (cl c) (some dx))) dx (exd dx [(f', z), (f, y)])), hme.at_, beq_iff_eq.mp hme.fn, ?_, FB, ?_⟩
  · refine fn_of (k := 0) lk hcd S (fun vs H Q E ⟨a, y, z, e, _⟩ => by rw [e]; rfl) fun A outer s H vs Q E hr ⟨a, y, z, e, ha, q⟩ => ?_
    subst e
    obtain ⟨_, h1, h2, h3⟩ := h fI cdv A outer s H E
    refine ⟨_, pss_cons h1 (pss_cons h2 (pss_one h3)), ?_⟩
    refine ⟨.ref a, start_at (i := 0) rfl, ?_⟩
    refine ⟨a, cl c, [.str m], rfl, by show 1 ≤ 1000; decide, T, ha, ?_⟩
    refine ⟨y, start_at (i := 1) rfl, .ref a, start_at (i := 0) rfl, a, cl c, rfl, T, hno, .inl ⟨ha, fun dx hdx hne => ?_⟩⟩
    refine ⟨z, start_at (i := 2) rfl, .ref a, start_at (i := 0) rfl, a, cl c, rfl, T, hno', .inr ⟨dx, [(f, y)], upd_same, ?_, by show 1 ≤ 900; decide, q dx hdx hne⟩⟩
    rw [upd_ne hne, upd_same]
  · intro H a vs Q hl ha hq
    match vs, hl with
    | [y, z], _ =>
      refine ⟨a, y, z, rfl, ha, fun dx hdx hne => hq dx _ [(f', z), (f, y)] hdx hne ?_ upd_same rfl rfl fun b hb hd => ?_⟩
      · rw [upd_ne (Ne.symm hne), upd_same]
      · rw [upd_ne hd, upd_ne hb, upd_ne hd]
end

/-! ### try: .. except C as n: suite (the suite returns) -/
instance fits_tr {G : Gm} {X : Cx} [F : Fits G X] {pn : List (Addr × Obj)} {xe : Value → Shared → Prop} : Fits G (X.tr pn xe) := ⟨F.P, F.w, F.K⟩
instance fits_suite {G : Gm} {X : Cx} [F : Fits G X] {a : Addr} {pn : List (Addr × Obj)} : Fits G (X.suite a pn) := ⟨F.P, F.w, F.K⟩
def intFs : List (Str × D) → Option (List (Str × Int))
  | [] => some []
  | (f, .int i) :: r => (intFs r).map ((f, i) :: ·)
  | _ :: _ => none
/-- r: what the suite returns, by the exception's class and fields -/
def sTryAs (N : Nat) (hit : Nat → Option Bool) (r : Nat → List (Str × Int) → Option D) (g : FS) : FS := fun σ S => match g σ S with
  | .exc x σ' S' => (match hit x.c with
    | some true => (match intFs x.fs with
      | some fs => if σ'.length = N then (match r x.c fs with
        | some v => .rt v S'
        | none => .stuck) else .stuck
      | none => .stuck)
    | some false => .exc x σ' S'
    | none => .stuck)
  | o => o
theorem intFs_rd {G : Gm} {ρ η : List Addr} {H : Hp} : ∀ {fs : List (Str × D)} {is : List (Str × Int)} {l : List (Str × V)}, intFs fs = some is → l.map (·.1) = fs.map (·.1) → RDs G ρ η H (fs.map (·.2)) (l.map (·.2)) → l = is.map fun x => (x.1, V.int x.2)
  | [], is, l, h, e, _ => by
    cases h
    cases l with
    | nil => rfl
    | cons _ _ => simp at e
  | (f, d) :: fs, is, [], h, e, _ => by simp at e
  | (f, d) :: fs, is, (f', v) :: l, h, e, r => by
    cases d with
    | int i =>
      obtain ⟨js, h1, rfl⟩ := Option.map_eq_some_iff.mp (show (intFs fs).map ((f, i) :: ·) = some is from h)
      rw [List.map_cons, List.map_cons, RDs] at r
      obtain ⟨v', r', ev, r1, r2⟩ := r
      rw [RD] at r1
      rw [List.map_cons, List.map_cons] at e
      injection e with e1 e2
      injection ev with e3 e4
      rw [List.map_cons, intFs_rd h1 e2 (by rw [← e4] at r2; exact r2)]
      show (f', v) :: _ = (f, V.int i) :: _
      rw [show f' = f from e1, show v = V.int i from e3.trans r1]
    | _ => cases h
theorem RS.noX {G : Gm} {ρ η : List Addr} {H : Hp} {S : Sto} (r : RS G ρ η H S) {a : Addr} {l : List (Str × V)} (h : H a = some (.xd l)) : a ∉ ρ := fun ha => by
  obtain ⟨o, ho⟩ := r.at_ ha
  cases o with
  | lst ds => obtain ⟨_, e, _⟩ := ho; rw [h] at e; cases e
  | dn ks ds => obtain ⟨_, _, e, _⟩ := ho; rw [h] at e; cases e
  | dl ks ds => obtain ⟨_, _, _, e, _⟩ := ho; rw [h] at e; cases e
  | dk kvs => obtain ⟨_, e, _⟩ := ho; rw [h] at e; cases e
  | ins c fs => obtain ⟨_, _, e, _⟩ := ho; rw [h] at e; cases e
section
variable {G : Gm} {X : Cx} {W : WX} {k i NN : Nat} {x n : Str} {body suite : List Stmt} {b₀ : Stmt} {np pos pos' : Pos} {g : FS} {gs : D → FS} {hit : Nat → Option Bool} {r : Nat → List (Str × Int) → Option D}
theorem js_tryAs [F : Fits G X] (hh : Here X W k) (cb : Nat) (hN : X.N.Nodup) (hm : X.mg x = some (.ref (G.cl cb))) (hex : ∀ c b, hit c = some b → PySem.W.exmOne G.K (.ref (G.cl c)) (.ref (G.cl cb)) = some b)
    (hb : ∀ (W' : WX) (pn : List (Addr × Obj)) (xe : Value → Shared → Prop), Here (X.tr pn xe) W' k → JSs G (X.tr pn xe) W' body g)
    (hsu : ∀ (a : Addr) (oe : Obj) (d : Option Addr) (pn : List (Addr × Obj)) (c : Nat) (fs : List (Str × Int)), Zc (.ref (G.cl c)) d oe → (∃ vs, oe.data = .fields vs) → JSs G (X.suite a ((a, oe) :: pn)) W0 (b₀ :: suite) (gs (.exn a d c fs)))
    (hres : ∀ (a : Addr) (d : Option Addr) (c : Nat) (fs : List (Str × Int)) (v : D) (σ : Sl) (S : Sto), r c fs = some v → σ.length = NN → gs (.exn a d c fs) (σ.set i (some (.exn a d c fs))) S = .rt v S)
    (hs : X.stack = X.env :: X.outer := by rfl) (hf : X.env.frame = some X.env.locals := by rfl) (hi : X.N[i]? = some n := by rfl) (hln : X.env.kindOf n = some .local := by rfl) (hg : Gl X x := by rfl) (hdb : (x == ("__debug__" : Str)) = false := by decide) :
    JS G X W (.Try body [.ExceptHandler (some (.Name x np)) (some n) (b₀ :: suite) pos'] [] [] pos) (sTryAs NN hit r g) := by
  refine ⟨PS.weak (ps_try_as (c := .ref (G.cl cb)) (tb := fun W' => LS G W' g) (ts := fun a cls d D σ H => ∃ c fs, cls = .ref (G.cl c) ∧ LS G W0 (gs (.exn a d c fs)) D σ H) (i := i) hs hf hN hi hln ⟨hg, hdb, .inl hm⟩ hh.takes
    (fun W' pn xe tk po => (hb W' pn xe ⟨hh.room, tk, po⟩).ps) (fun a oe cls d pn hz hfs => ⟨fun pins s σ H D I h => ?_⟩)) ?_⟩
  · obtain ⟨c, fs, rfl, h⟩ := h
    exact (hsu a oe d pn c fs hz hfs).ps.run pins s σ H D I h
  rintro E σ H ⟨ρ, η, σd, S, rσ, rs, p⟩
  refine ⟨ρ, η, σd, S, rσ, rs, ?_⟩
  unfold sTryAs at p
  cases hgd : g σd S with
  | nx a b => rw [hgd] at p; exact p
  | bk a b => rw [hgd] at p; exact p
  | ct a b => rw [hgd] at p; exact p
  | rt a b => rw [hgd] at p; exact p
  | stuck => rw [hgd] at p; exact p.elim
  | exc e σ' S' =>
    rw [hgd] at p
    dsimp only at p
    intro ρ' H' σ2 C dd ee rσ2 rs2 rx
    obtain ⟨hC, hx⟩ := rx
    subst hC
    cases hh2 : hit e.c with
    | none => rw [hh2] at p; exact p.elim
    | some b =>
      rw [hh2] at p
      refine ⟨b, by rw [← F.K]; exact hex _ _ hh2, fun hbt a ha => ?_, fun hbf => ?_⟩
      · subst hbt
        dsimp only at p
        cases hi2 : intFs e.fs with
        | none => rw [hi2] at p; exact p.elim
        | some fs =>
          rw [hi2] at p
          dsimp only at p
          by_cases hlt : σ'.length = NN
          · rw [if_pos hlt] at p
            cases hr : r e.c fs with
            | none => rw [hr] at p; exact p.elim
            | some v =>
              rw [hr] at p
              have hrd : RD G ρ' η H' (.exn a dd e.c fs) (.ref a) := by
                rw [RD]
                refine ⟨rfl, ?_⟩
                rcases hx with ⟨h1, h2⟩ | ⟨d, l, h1, h2, h3, h4⟩
                · rw [h1] at hi2
                  cases hi2
                  exact .inl ⟨rfl, h2⟩
                · exact .inr ⟨d, h1, by rw [h2, intFs_rd hi2 h3 h4], rs2.noX h2⟩
              refine ⟨e.c, fs, rfl, ρ', η, σ'.set i (some (.exn a dd e.c fs)), S', rσ2.set i hrd, rs2, ?_⟩
              rw [hres a dd e.c fs v σ' S' hr hlt]
              exact fun ρ3 H3 v3 e3 rs3 rd3 => p ρ3 H3 v3 (ee.trans e3) rs3 rd3
          · rw [if_neg hlt] at p
            exact p.elim
      · subst hbf
        exact p ρ' H' σ2 _ dd ee rσ2 rs2 ⟨rfl, hx⟩
end
end Fx

/-! Fx29: within an except suite: isinstance(e, C), e.f, ==. -/
namespace Fx
open PySem PySem.Spec L2
/-- the caught exception in the slot i -/
def fIsE (x : D) (i : Nat) (ob : Option Bool) : FE := fun σ S => if σ[i]? = some (some x) then (match ob with
  | some b => .ok (.bl b) S
  | none => .stuck) else .stuck
def fXf (x : D) (i : Nat) (f : Str) (ok : Option Bool) : FE := fun σ S => if ok = some true ∧ σ[i]? = some (some x) then (match x with
  | .exn _ _ _ fs => (match fs.lookup f with
    | some n => .ok (.int n) S
    | none => .stuck)
  | _ => .stuck) else .stuck
def exC : D → Nat
  | .exn _ _ c _ => c
  | _ => 0
/-- what isinstance asks of the classes -/
structure KitF (G : Gm) (c c' : Nat) (b : Bool) : Prop where
  x : L2.ExcC G.K (G.cl c)
  i : (PySem.W.clsIn G.K (G.cl c)).isSome = true
  k : PySem.W.kitOne G.K (.ref (G.cl c)) (.ref (G.cl c')) = some b
structure KitV (G : Gm) (c : Nat) (T : String) (b : Bool) : Prop where
  x : L2.ExcC G.K (G.cl c)
  i : (PySem.W.clsIn G.K (G.cl c)).isSome = true
  k : PySem.W.kitOne G.K (.ref (G.cl c)) (.type T) = some b
structure FldX (G : Gm) (c : Nat) (f : Str) : Prop where
  x : XfC G.K (G.cl c)
  n : PySem.W.findIn G.K (.ref (G.cl c)) f = some none
/-- the dict of the exception at d, if it has one -/
def DictX (H : Hp) (d : Option Addr) : Prop := d = none ∨ ∃ dd l, d = some dd ∧ H dd = some (.xd l)
def rIsX (K : PySem.W.Frag) (D a : Addr) (d : Option Addr) : List V → Hp → VK → Prop := fun xs H Q => ∃ (c : V) (cv : Value) (b : Bool), xs = [.ref a, c] ∧ (∀ u, RelV c u → u = cv) ∧ PySem.W.kitOne K (.ref D) cv = some b ∧ DictX H d ∧ Q (.bl b) H
theorem call_isX {X : Cx} {a D : Addr} {oe : Obj} {d : Option Addr} {pn : List (Addr × Obj)} (C : L2.ExcC X.K D) (hcl : (PySem.W.clsIn X.K D).isSome = true) (hz : Zc (.ref D) d oe) (hf : ∃ vs, oe.data = .fields vs) :
    CallR (X.suite a ((a, oe) :: pn)) (.builtin "isinstance") (rIsX X.K D a d) := by
  intro pins s σ H xs us Q I r h
  obtain ⟨c, cv, b, rfl, hcv, e, hd, q⟩ := h
  cases r with
  | cons rx rr =>
    cases rr with
    | cons rt rr =>
      cases rr
      cases rx
      have ec := hcv _ rt
      subst ec
      obtain ⟨hget, _⟩ := I.pin (a, oe) (List.mem_append_left _ List.mem_cons_self)
      obtain ⟨vs, hv⟩ := hf
      have hno : PySem.W.notCls oe = true := by unfold PySem.W.notCls; rw [hv] <;> rfl
      have J : ∃ od : Option Obj, PySem.W.InstAt s.heap a oe D od := by
        rcases hd with hd | ⟨dd, l, hd, hl⟩
        · refine ⟨none, hget, hz.1, hno, ?_⟩
          have h2 := hz.2
          rw [hd] at h2
          simp [h2]
        · obtain ⟨o, ho⟩ := objOk_get (I.hok dd _ hl)
          refine ⟨some o, hget, hz.1, hno, ?_⟩
          have h2 := hz.2
          rw [hd] at h2
          simp [h2, ho]
      obtain ⟨od, J⟩ := J
      exact PySem.W.kia_one (PySem.W.kitx_exc hcl C.hg C.hk C.hs C.ha C.hn C.ht C.hm) I.kIn J e (fun z => nomatch z) fun tk => ⟨.bl b, H, I.kept (t' := tk) fun _ _ z => z, rfl, q⟩
section
variable {G : Gm} {X : Cx} {W : WX} {a : Addr} {oe : Obj} {d : Option Addr} {pn : List (Addr × Obj)} {c c' i : Nat} {fs : List (Str × Int)} {n y f : Str} {p p1 p2 pos : Pos} {b : Bool} {ob : Option Bool}
theorem dictX_of {ρ η : List Addr} {H : Hp} {v : V} (h : RD G ρ η H (.exn a d c fs) v) : v = .ref a ∧ DictX H d := by
  rw [RD] at h
  refine ⟨h.1, ?_⟩
  rcases h.2 with ⟨_, e⟩ | ⟨dd, e1, e2, _⟩
  · exact .inl e
  · exact .inr ⟨dd, _, e1, e2⟩
theorem je_isNone {e : Expr} (x : D) : JE G X W e (fIsE x i none) := by
  refine ⟨⟨fun pins s σ H Q I h => ?_⟩⟩
  obtain ⟨ρ, η, σd, S, rσ, rs, pp⟩ := h
  unfold fIsE at pp
  split at pp <;> exact pp.elim
theorem isX_sem {T : V} {cv : Value} (hk : PySem.W.kitOne X.K (.ref (G.cl c)) cv = some b) (hT : ∀ u, RelV T u → u = cv) : ∀ σ H Q, LE G W (fIsE (.exn a d c fs) i (some b)) σ H Q → tCB (rIsX X.K (G.cl c) a d) (tCons (tVar i) (tCons (tC T) tNil)) σ H Q := by
  rintro σ H Q ⟨ρ, η, σd, S, rσ, rs, pp⟩
  unfold fIsE at pp
  split at pp
  · rename_i hsl
    obtain ⟨v, h1, h2⟩ := rσ.at_ i _ hsl
    obtain ⟨rfl, hdx⟩ := dictX_of h2
    exact ⟨.ref a, h1, T, cv, b, rfl, hT, hk, hdx, pp ρ H _ (Ext.refl ρ H) rs (by rw [RD])⟩
  · exact pp.elim
theorem je_isX [F : Fits G X] (kt : ∀ b, ob = some b → KitF G c c' b) (hz : Zc (.ref (G.cl c)) d oe) (hfs : ∃ vs, oe.data = .fields vs) (hm : X.mg "isinstance" = none) (hm2 : X.mg y = some (.ref (G.cl c')))
    (hN : X.N[i]? = some n := by rfl) (hv : visB X.env.scope n = true := by rfl) (hg : Gl X "isinstance" := by rfl) (hg2 : Gl X y := by rfl) (hdb : (y == ("__debug__" : Str)) = false := by rfl) (hdn : (n == ("__debug__" : Str)) = false := by rfl) (hcd : (n == ("__classdict__" : Str)) = false := by rfl)
    (hv0 : bootBuiltins "isinstance" = some (.builtin "isinstance") := by decide +kernel)
    (hs : starEach [.Name n p1, .Name y p2] X.env = (false, eval (.Name n p1) X.env) :: starEach [.Name y p2] X.env := by rfl) (hpl : (backTo pos (starEach [.Name y p2] X.env)).any (·.1) = false := by rfl) :
    JE G (X.suite a ((a, oe) :: pn)) W (.Call (.Name "isinstance" p) [.Name n p1, .Name y p2] [] pos) (fIsE (.exn a d c fs) i ob) := by
  cases ob with
  | none => exact je_isNone _
  | some b =>
    obtain ⟨hx, hi, hk⟩ := kt b rfl
    rw [F.K] at hx hi hk
    have pt : PE (X.suite a ((a, oe) :: pn)) (.Name y p2) (tC (.ref (G.cl c'))) := pe_glob (u := .ref (G.cl c')) hg2 hm2 rfl hdb
    have pv : PE (X.suite a ((a, oe) :: pn)) (.Name n p1) (tVar i) := pe_var hN (vis_of hv) hdn hcd
    have h0 : (("isinstance" : Str) ≠ "__name__") := by decide
    exact ⟨PE.weak (pe_callB (call_isX hx hi hz hfs) hg hm hv0 (pa_cons pv (pa_cons pt pa_nil) hs) h0 rfl hs hpl) (isX_sem (X := X) (T := .ref (G.cl c')) hk fun u hu => hu)⟩
theorem je_isV [F : Fits G X] {T : String} (kt : ∀ b, ob = some b → KitV G c T b) (hz : Zc (.ref (G.cl c)) d oe) (hfs : ∃ vs, oe.data = .fields vs) (hm : X.mg "isinstance" = none) (hm2 : X.mg y = none) (hvy : bootBuiltins y = some (.type T) := by decide +kernel) (hny : y ≠ "__name__" := by decide)
    (hN : X.N[i]? = some n := by rfl) (hv : visB X.env.scope n = true := by rfl) (hg : Gl X "isinstance" := by rfl) (hg2 : Gl X y := by rfl) (hdb : (y == ("__debug__" : Str)) = false := by rfl) (hdn : (n == ("__debug__" : Str)) = false := by rfl) (hcd : (n == ("__classdict__" : Str)) = false := by rfl)
    (hv0 : bootBuiltins "isinstance" = some (.builtin "isinstance") := by decide +kernel)
    (hs : starEach [.Name n p1, .Name y p2] X.env = (false, eval (.Name n p1) X.env) :: starEach [.Name y p2] X.env := by rfl) (hpl : (backTo pos (starEach [.Name y p2] X.env)).any (·.1) = false := by rfl) :
    JE G (X.suite a ((a, oe) :: pn)) W (.Call (.Name "isinstance" p) [.Name n p1, .Name y p2] [] pos) (fIsE (.exn a d c fs) i ob) := by
  cases ob with
  | none => exact je_isNone _
  | some b =>
    obtain ⟨hx, hi, hk⟩ := kt b rfl
    rw [F.K] at hx hi hk
    have pt : PE (X.suite a ((a, oe) :: pn)) (.Name y p2) (tC (.ty T)) := pe_bltn hg2 hm2 hvy rfl hny hdb
    have pv : PE (X.suite a ((a, oe) :: pn)) (.Name n p1) (tVar i) := pe_var hN (vis_of hv) hdn hcd
    have h0 : (("isinstance" : Str) ≠ "__name__") := by decide
    exact ⟨PE.weak (pe_callB (call_isX hx hi hz hfs) hg hm hv0 (pa_cons pv (pa_cons pt pa_nil) hs) h0 rfl hs hpl) (isX_sem (X := X) (T := .ty T) hk fun u hu => hu)⟩
theorem look_int {f : Str} : ∀ {fs : List (Str × Int)} {n : Int}, fs.lookup f = some n → (fs.map fun x => (x.1, V.int x.2)).lookup f = some (.int n)
  | (g, m) :: fs, n, h => by
    rw [List.map_cons]
    rw [List.lookup_cons] at h ⊢
    cases q : (f == g) with
    | true => rw [q] at h; cases h; rfl
    | false => rw [q] at h; exact look_int h
theorem je_xf [F : Fits G X] (ft : ob = some true → FldX G c f) (hz : Zc (.ref (G.cl c)) d oe) (hfs : ∃ vs, oe.data = .fields vs)
    (hN : X.N[i]? = some n := by rfl) (hv : visB X.env.scope n = true := by rfl) (hdn : (n == ("__debug__" : Str)) = false := by rfl) (hcd : (n == ("__classdict__" : Str)) = false := by rfl) (hb : attributeBase (.Name n p1) f X.env (eval (.Name n p1) X.env) = eval (.Name n p1) X.env := by rfl) :
    JE G (X.suite a ((a, oe) :: pn)) W (.Attribute (.Name n p1) f pos) (fXf (.exn a d c fs) i f ob) := by
  by_cases hok : ¬ ob = some true
  · refine ⟨⟨fun pins s σ H Q I h => ?_⟩⟩
    obtain ⟨ρ, η, σd, S, rσ, rs, pp⟩ := h
    unfold fXf at pp
    rw [if_neg (fun z => hok z.1)] at pp
    exact pp.elim
  obtain ⟨hx, hn⟩ := ft (Classical.not_not.mp hok)
  rw [F.K] at hx hn
  have pv : PE (X.suite a ((a, oe) :: pn)) (.Name n p1) (tVar i) := pe_var hN (vis_of hv) hdn hcd
  refine ⟨PE.weak (pe_xf hx hn hz hfs pv hb) ?_⟩
  rintro σ H Q ⟨ρ, η, σd, S, rσ, rs, pp⟩
  unfold fXf at pp
  split at pp
  · rename_i hsl
    obtain ⟨v, h1, h2⟩ := rσ.at_ i _ hsl.2
    dsimp only at pp
    cases hl : fs.lookup f with
    | none => rw [hl] at pp; exact pp.elim
    | some m =>
      rw [hl] at pp
      rw [RD] at h2
      obtain ⟨rfl, h2⟩ := h2
      rcases h2 with ⟨e, _⟩ | ⟨dd, e1, e2, _⟩
      · rw [e] at hl
        cases hl
      · exact ⟨.ref a, h1, rfl, rfl, dd, _, .int m, e1, e2, look_int hl, pp ρ H _ (Ext.refl ρ H) rs (by rw [RD])⟩
  · exact pp.elim
theorem o_eqU [F : Fits G X] (h : X.A.units + 64 < cLine) : OpC G X .Eq opEq := ⟨_, op_eqU h, F.K ▸ lnk_eq⟩
theorem o_neU [F : Fits G X] (h : X.A.units + 64 < cLine) : OpC G X .NotEq opNe := ⟨_, op_neU h, F.K ▸ lnk_ne⟩
theorem suite_hu {W' : WX} {k : Nat} (h : Here X W' k) (pn : List (Addr × Obj)) : (X.suite a pn).A.units + 64 < cLine := by
  have := here_hu (X := X) h
  exact this
end
end Fx

/-! Fx30: what of the classes of exceptions is looked at, as Bools; lambdas handed to a def. -/
namespace Fx
open PySem PySem.Spec L2
open He in
section
variable {K : PySem.W.Frag} {C : Addr}
def isNewL : List (Option Value) → Bool
  | [_, _, _, _, some (.builtin n), _] => decide (n = "ValueError.__new__")
  | _ => false
theorem isNewL_ok : ∀ l : List (Option Value), isNewL l = true → ∃ k0 k1 k2 k3 k5, l = [k0, k1, k2, k3, some (.builtin "ValueError.__new__"), k5] := by
  intro l h
  unfold isNewL at h
  split at h
  · exact ⟨_, _, _, _, _, by rw [of_decide_eq_true h]⟩
  · cases h
def oexB (K : PySem.W.Frag) (C : Addr) : Bool := (match K.lookup C with
  | some ⟨.type t, _, .cls cd, sl⟩ => decide (t = "type") && (match cd.mro with
    | .ref C' :: bm => decide (C' = C) && (PySem.HandSPX.refsVE bm && (cd.hasDict && (!cd.hasDel && isNewL sl.toList)))
    | _ => false)
  | _ => false) && (eqO (PySem.W.findIn K (.ref C) "__setattr__") (some (some (.builtin "object.__setattr__"))) && (decide (PySem.W.subIn K (.ref C) (.type "BaseException") = some true) && (decide (PySem.W.typeIn K (.ref C) = some (.type "type")) && PySem.W.keepIn K (.ref C))))
theorem oexB_ok (h : oexB K C = true) : OexC K C := by
  obtain ⟨h0, h⟩ := ba h
  obtain ⟨h1, h⟩ := ba h
  obtain ⟨h2, h⟩ := ba h
  obtain ⟨h3, h4⟩ := ba h
  refine ⟨?_, eqO_ok h1, of_decide_eq_true h2, of_decide_eq_true h3, h4⟩
  cases e : K.lookup C with
  | none => rw [e] at h0; cases h0
  | some o =>
    rw [e] at h0
    obtain ⟨oc, od, dt, sl⟩ := o
    cases oc with
    | type t =>
      cases dt with
      | cls cd =>
        obtain ⟨g1, g⟩ := ba h0
        have ht := of_decide_eq_true g1
        subst ht
        obtain ⟨nm, bs, mro, ns, qn, hd, sn, sb, ab, col, del⟩ := cd
        dsimp only at g
        cases mro with
        | nil => cases g
        | cons m bm =>
          cases m with
          | ref C' =>
            dsimp only at g
            obtain ⟨g2, ga⟩ := ba g
            obtain ⟨g3, gb⟩ := ba ga
            obtain ⟨g4, gc⟩ := ba gb
            obtain ⟨g5, gz⟩ := ba gc
            clear ga gb gc g
            have e2 := of_decide_eq_true g2
            subst e2
            have hdel : del = false := by simpa using g5
            subst hdel
            have hhd : hd = true := g4
            subst hhd
            obtain ⟨l⟩ := sl
            obtain ⟨k0, k1, k2, k3, k5, hl⟩ := isNewL_ok _ gz
            exact ⟨nm, qn, ns, bs, bm, sn, sb, ab, col, od, k0, k1, k2, k3, k5, by rw [show l = _ from hl], g3⟩
          | _ => cases g
      | _ => cases h0
    | _ => cases dt <;> cases h0
def iniB (K : PySem.W.Frag) (C : Addr) : Bool := eqO (PySem.W.specialIn K (.ref C) "__getattribute__") (some (some (.builtin "type.__getattribute__"))) && (PySem.W.readsIn K C (.type "type") && (match PySem.W.findCls K (.ref C) (.type "type") "__init__" with
  | some (.val (.builtin b)) => decide (b = "ValueError.__init__")
  | _ => false))
theorem iniB_ok (h : iniB K C = true) : IniB K C := by
  obtain ⟨h1, h⟩ := ba h
  obtain ⟨h2, h3⟩ := ba h
  refine ⟨eqO_ok h1, h2, ?_⟩
  split at h3
  · rename_i b e
    rw [e, of_decide_eq_true h3]
  · cases h3
def excB (K : PySem.W.Frag) (C : Addr) : Bool := eqO (PySem.W.findIn K (.ref C) "__getattribute__") (some (some (.builtin "BaseException.__getattribute__"))) && (eqO (PySem.W.findIn K (.ref C) "__getattr__") (some none) && (decide (PySem.W.subIn K (.ref C) (.type "BaseException") = some true) &&
  (PySem.W.hasDictIn K C && (eqO (PySem.W.findIn K (.ref C) "__class__") (some (some (.builtin "object.__class__"))) && (eqO (PySem.W.specialIn K (.builtin "object.__class__") "__get__") (some (some (.builtin "getset_descriptor.__get__"))) &&
  (decide (PySem.W.takesIn K (.builtin "object.__class__") = some true) && (decide (PySem.W.mroIn K C (.type "object") = some true) && (PySem.W.clsIn K C).isSome)))))))
theorem excB_ok (h : excB K C = true) : L2.ExcC K C ∧ (PySem.W.clsIn K C).isSome = true ∧ XfC K C := by
  obtain ⟨h1, h⟩ := ba h
  obtain ⟨h2, h⟩ := ba h
  obtain ⟨h3, h⟩ := ba h
  obtain ⟨h4, h⟩ := ba h
  obtain ⟨h5, h⟩ := ba h
  obtain ⟨h6, h⟩ := ba h
  obtain ⟨h7, h⟩ := ba h
  obtain ⟨h8, h9⟩ := ba h
  exact ⟨⟨eqO_ok h1, eqO_ok h2, of_decide_eq_true h3, h4, eqO_ok h5, eqO_ok h6, of_decide_eq_true h7, of_decide_eq_true h8⟩, h9, ⟨eqO_ok h1, eqO_ok h2, of_decide_eq_true h3, h4⟩⟩
end
theorem lookB_mem {c : Nat} {b : Bool} : ∀ {l : List (Nat × Bool)}, l.lookup c = some b → (c, b) ∈ l
  | (d, b') :: l, h => by
    rw [List.lookup_cons] at h
    cases q : (c == d) with
    | true => rw [q] at h; cases h; rw [beq_iff_eq.mp q]; exact List.mem_cons_self
    | false => rw [q] at h; exact List.mem_cons_of_mem _ (lookB_mem h)
/-- except C: which classes it catches -/
def hitB (K : PySem.W.Frag) (cl : Nat → Addr) (l : List (Nat × Bool)) (c' : Nat) : Bool := l.all fun p => decide (PySem.W.exmOne K (.ref (cl p.1)) (.ref (cl c')) = some p.2)
theorem hitB_ok {K : PySem.W.Frag} {cl : Nat → Addr} {l : List (Nat × Bool)} {c' : Nat} (h : hitB K cl l c' = true) (c : Nat) (b : Bool) (e : l.lookup c = some b) : PySem.W.exmOne K (.ref (cl c)) (.ref (cl c')) = some b :=
  of_decide_eq_true (List.all_eq_true.mp h _ (lookB_mem e))
def kitB (K : PySem.W.Frag) (cl : Nat → Addr) (l : List (Nat × Bool)) (c' : Nat) : Bool := l.all fun p => excB K (cl p.1) && decide (PySem.W.kitOne K (.ref (cl p.1)) (.ref (cl c')) = some p.2)
def kitVB (K : PySem.W.Frag) (cl : Nat → Addr) (l : List (Nat × Bool)) (T : String) : Bool := l.all fun p => excB K (cl p.1) && decide (PySem.W.kitOne K (.ref (cl p.1)) (.type T) = some p.2)
def fldB (K : PySem.W.Frag) (cl : Nat → Addr) (l : List (Nat × Bool)) (f : Str) : Bool := l.all fun p => excB K (cl p.1) && He.eqO (PySem.W.findIn K (.ref (cl p.1)) f) (some none)
section
variable {P : Program} {w : World} {K : PySem.W.Frag} {cl : Nat → Addr} {tb : List (Addr × Str)} {l : List (Nat × Bool)} {c' : Nat}
theorem kitB_ok (h : kitB K cl l c' = true) (c : Nat) (b : Bool) (e : l.lookup c = some b) : KitF ⟨P, w, K, cl, tb⟩ c c' b := by
  obtain ⟨h1, h2⟩ := He.ba (List.all_eq_true.mp h _ (lookB_mem e))
  obtain ⟨x, i, _⟩ := excB_ok h1
  exact ⟨x, i, of_decide_eq_true h2⟩
theorem kitVB_ok {T : String} (h : kitVB K cl l T = true) (c : Nat) (b : Bool) (e : l.lookup c = some b) : KitV ⟨P, w, K, cl, tb⟩ c T b := by
  obtain ⟨h1, h2⟩ := He.ba (List.all_eq_true.mp h _ (lookB_mem e))
  obtain ⟨x, i, _⟩ := excB_ok h1
  exact ⟨x, i, of_decide_eq_true h2⟩
theorem fldB_ok {f : Str} (h : fldB K cl l f = true) (c : Nat) (b : Bool) (e : l.lookup c = some b) : FldX ⟨P, w, K, cl, tb⟩ c f := by
  obtain ⟨h1, h2⟩ := He.ba (List.all_eq_true.mp h _ (lookB_mem e))
  obtain ⟨_, _, x⟩ := excB_ok h1
  exact ⟨x, He.eqO_ok h2⟩
end

/-! ### the head's look, with the table of statics -/
def asY (g : Addr → Option Obj) (n : Nat) : List Addr := PySem.cStatics :: He.asD g n
def frY (g : Addr → Option Obj) (n : Nat) : PySem.W.Frag := He.frT g (asY g n)
def obsY (n : Nat) (fa : List He.Fa) (fn : List He.DefD) (ts : List He.Tab) (tf : List He.Defn) (ex : PySem.W.Frag → Bool) (g : Addr → Option Obj) : He.AlX :=
  (He.obsT fa fn ts (frY g n), ex (frY g n) && He.tabsB g tf (frY g n))
theorem saysY_of {n : Nat} {fa : List He.Fa} {fn : List He.DefD} {ts : List He.Tab} {tf : List He.Defn} {ex : PySem.W.Frag → Bool} {w : World} {h : Heap} (e : obsY n fa fn ts tf ex h.get? = He.valX fn ts w) :
    He.SaysX fa fn ts tf ex w h (frY h.get? n) := by
  unfold obsY He.valX at e
  injection e with e1 e2
  obtain ⟨h1, h2⟩ := He.ba e2
  have one : ∀ p ∈ tf, PySem.W.codeHdIn (frY h.get? n) (He.cT (frY h.get? n) p).1 (He.cT (frY h.get? n) p).2 = true ∧ ∃ o, h.get? (He.cT (frY h.get? n) p).2 = some o ∧ He.emptyTab o = true := by
    intro p hp
    obtain ⟨h3, h4⟩ := He.ba (List.all_eq_true.mp h2 p hp)
    refine ⟨h3, ?_⟩
    revert h4
    cases h.get? (He.cT (frY h.get? n) p).2 with
    | none => intro z; cases z
    | some o => exact fun z => ⟨o, rfl, z⟩
  refine ⟨e1, h1, fun p hp => (one p hp).1, fun p hp => ?_, fun p hp => ?_⟩
  · obtain ⟨_, o, q, z⟩ := one p hp
    exact He.frT_none q z
  · obtain ⟨_, o, q, z⟩ := one p hp
    rw [q, He.emptyTab_eq z]
def hookY (n : Nat) (fa : List He.Fa) (fn : List He.DefD) (ts : List He.Tab) (tf : List He.Defn) (ex : PySem.W.Frag → Bool) : PySem.W.Hook where
  α := He.AlX
  obs := fun s => obsY n fa fn ts tf ex s.heap.get?
  val := fun w => He.valX fn ts w
  says := fun w h => ∃ K : PySem.W.Frag, K.In h ∧ He.SaysX fa fn ts tf ex w h K
  of := fun _ _ e => ⟨_, He.frT_in, saysY_of e⟩
  keeps := fun _ _ _ ⟨K, hK, c⟩ k => ⟨K, PySem.W.Frag.In.keeps hK k, c.t, c.more, c.hd, c.out, fun p hp => k _ _ (c.empty p hp)⟩
theorem obsY_eq {n : Nat} {fa : List He.Fa} {fn : List He.DefD} {ts : List He.Tab} {tf : List He.Defn} {ex : PySem.W.Frag → Bool} {g : Addr → Option Obj} {s : Shared} (h : ∀ a, g a = s.heap.get? a) : obsY n fa fn ts tf ex g = (hookY n fa fn ts tf ex).obs s := by
  obtain rfl : g = s.heap.get? := funext h
  rfl
end Fx

/-! Fx31: a lambda without parameters, handed to a def that calls it within try. -/
namespace Fx
open PySem PySem.Spec L2 LamX
theorem RS.extN {G : Gm} {ρ η : List Addr} {H H1 : Hp} {S : Sto} (r : RS G ρ η H S) (e : ExtN H H1) (t : Tabs G.tb H1) : RS G ρ η H1 S ∧ Ext ρ H ρ H1 := by
  have ex : Ext ρ H ρ H1 := ⟨⟨[], by simp⟩, fun a o h n nt => ⟨e a o h nt, n⟩, fun a o u h => e a _ h (fun _ z => nomatch z)⟩
  refine ⟨⟨r.len, r.nd, r.dis, fun a ha => ?_, fun n a o h1 h2 => ?_, t⟩, ex⟩
  · obtain ⟨o, h1, h2⟩ := r.hid a ha
    exact ⟨o, e a o h1 h2, h2⟩
  · have q := r.ob n a o h1 h2
    obtain ⟨u, e1, e2⟩ := q.noT
    exact q.mono ex (fun _ h => .inl h) (by rw [e1]; exact e a u e1 e2)
instance fits_lam {G : Gm} {X : Cx} [F : Fits G X] {A : Around} {outer : List Env} {s : Shared} {H : Hp} {E : XK} {scope : Scope} {f c' : Addr} : Fits G (lamCx X A outer s H E scope f c') := ⟨F.P, F.w, F.K⟩
theorem here_lam {X : Cx} {A : Around} {outer : List Env} {s : Shared} {H : Hp} {E : XK} {scope : Scope} {f c' : Addr} {k : Nat} (hr : Room k (A.deeper (lamEnv X scope s.heap.objs.size f c'))) : Here (lamCx X A outer s H E scope f c') (fun cls d _ H => E cls d H) k :=
  ⟨hr, takes_of rfl rfl rfl rfl, passes_of rfl⟩
/-- what the def makes of what the lambda lets out -/
def EchT (G : Gm) (hit : Nat → Option Bool) (r : Nat → List (Str × Int) → Option D) (Q : VK) : XK := fun cls d H' =>
  ∃ ρ η S x fs v, RS G ρ η H' S ∧ RX G ρ η H' x cls d ∧ hit x.c = some true ∧ intFs x.fs = some fs ∧ r x.c fs = some v ∧ KE G η ρ H' Q v S
def TTx (G : Gm) (hit : Nat → Option Bool) (r : Nat → List (Str × Int) → Option D) : (XK → Hp → VK → Prop) → Hp → VK → Prop := fun tl H Q => tl (EchT G hit r Q) H Q
theorem Takes.len {X : Cx} {W : WX} (t : Takes X W) : Takes X (fun c d σ H => σ.length = X.N.length → W c d σ H) := by
  intro u s' h
  obtain ⟨a, B, sI, pins, σ, H, cls, d, e, I, nb, up, sky, na, os, ag, w⟩ := h
  exact t u s' ⟨a, B, sI, pins, σ, H, cls, d, e, I, nb, up, sky, na, os, ag, w I.len⟩
theorem slots_none {G : Gm} {ρ η : List Addr} {H : Hp} (σ : L2.St) : RSl G ρ η H (List.replicate σ.length none) σ :=
  ⟨by simp, fun i d h => by rw [List.getElem?_replicate] at h; split at h <;> cases h⟩
section
variable {G : Gm} {X : Cx} {k i cb : Nat} {Ng : List Str} {x a e q n : Str} {sg : Scope} {g : Addr} {cdg : Value} {suite : List Stmt} {b₀ : Stmt} {p1 p2 p3 p4 p7 p8 : Pos} {gs : D → FS} {hit : Nat → Option Bool} {r : Nat → List (Str × Int) → Option D}
theorem told_gives [F : Fits G X] (hr : Room (k + 1) X.A) (hm : X.mg e = some (.ref (G.cl cb))) (hex : ∀ c b, hit c = some b → PySem.W.exmOne G.K (.ref (G.cl c)) (.ref (G.cl cb)) = some b)
    (hsu : ∀ (s : Shared) (H : Hp) (a : Addr) (oe : Obj) (d : Option Addr) (pn : List (Addr × Obj)) (c : Nat) (fs : List (Str × Int)), Zc (.ref (G.cl c)) d oe → (∃ vs, oe.data = .fields vs) →
      (cxOf C8.CX0 X.prog X.w X.K X.mg X.base Ng x sg g cdg X.A X.stack s H C8.E0).A.units + 64 < cLine →
      JSs G ((cxOf C8.CX0 X.prog X.w X.K X.mg X.base Ng x sg g cdg X.A X.stack s H C8.E0).nox.suite a ((a, oe) :: pn)) W0 (b₀ :: suite) (gs (.exn a d c fs)))
    (hres : ∀ (a : Addr) (d : Option Addr) (c : Nat) (fs : List (Str × Int)) (v : D) (σ : Sl) (S : Sto), r c fs = some v → σ.length = Ng.length → gs (.exn a d c fs) (σ.set i (some (.exn a d c fs))) S = .rt v S)
    (hN : Ng.Nodup) (hi : Ng[i]? = some n) (hln : sg.names.lookup n = some .local) (hge : sg.names.lookup e = some .globalImplicit) (hde : (e == ("__debug__" : Str)) = false) (h0 : ∀ f : Addr, (L2.start Ng [V.ref f])[0]? = some (some (V.ref f))) :
    GivesTo X Ng x sg g cdg [.Try [.Return (some (.Call (.Name a p1) [] [] p2)) p3] [.ExceptHandler (some (.Name e p4)) (some n) (b₀ :: suite) p7] [] [] p8] a q (TTx G hit r) := by
  intro f c' s H Q tl act hc h
  have hgl : Gl (cxOf C8.CX0 X.prog X.w X.K X.mg X.base Ng x sg g cdg X.A X.stack s H C8.E0).nox e := hge
  have hu : (cxOf C8.CX0 X.prog X.w X.K X.mg X.base Ng x sg g cdg X.A X.stack s H C8.E0).A.units + 64 < cLine := by
    have := (hr.deeper (PyProof.Rows.envOfC x sg s.heap.objs.size g cdg)).un
    show (X.A.deeper _).units + 64 < cLine
    omega
  refine ⟨_, pss_one (ps_try_as (X := (cxOf C8.CX0 X.prog X.w X.K X.mg X.base Ng x sg g cdg X.A X.stack s H C8.E0).nox) (c := .ref (G.cl cb)) (i := i)
      (tb := fun W D σ H => ∃ Ech : XK, (∀ cls d σ' H', Ech cls d H' → σ'.length = Ng.length → W cls d σ' H') ∧ σ[0]? = some (some (.ref f)) ∧ H c' = some (CodeO c' q) ∧ tl Ech H D.rt)
      (ts := fun a cls d D σ H => ∃ c fs, cls = .ref (G.cl c) ∧ LS G W0 (gs (.exn a d c fs)) D σ H)
      rfl rfl hN hi hln ⟨hgl, hde, .inl hm⟩ L2.takes0 (fun W pn xe tk _ => ?_) (fun a oe cls d pn hz hf => ?_)), ?_⟩
  · constructor
    intro pins s' σ H' D I h'
    obtain ⟨Ech, hW, h1, h2, h3⟩ := h'
    have hp := act _ pn xe Ech p1 p2 (Takes.len tk) (fun cls d σ' H' hE => hW cls d σ' H' hE)
    exact (pss_one (ps_ret (pos := p3) hp)).run pins s' σ H' D I ⟨h1, h2, h3⟩
  · constructor
    intro pins s' σ H' D I h'
    obtain ⟨c, fs, rfl, h'⟩ := h'
    exact (hsu s H a oe d pn c fs hz hf hu).ps.run pins s' σ H' D I h'
  · refine ⟨EchT G hit r Q, fun cls d σ' H' hE hlen => ?_, h0 f, hc, h⟩
    obtain ⟨ρ, η, S, xx, fs, v, rs, ⟨hC, hx⟩, hh, hi2, hv, hk⟩ := hE
    subst hC
    refine ⟨true, by rw [← F.K]; exact hex _ _ hh, fun _ a ha => ?_, fun z => Bool.noConfusion z⟩
    have hrd : RD G ρ η H' (.exn a d xx.c fs) (.ref a) := by
      rw [RD]
      refine ⟨rfl, ?_⟩
      rcases hx with ⟨h1, h2⟩ | ⟨dd, l, h1, h2, h3, h4⟩
      · rw [h1] at hi2
        cases hi2
        exact .inl ⟨rfl, h2⟩
      · exact .inr ⟨dd, h1, by rw [h2, intFs_rd hi2 h3 h4], rs.noX h2⟩
    refine ⟨xx.c, fs, rfl, ρ, η, (List.replicate σ'.length none).set i (some (.exn a d xx.c fs)), S, (slots_none σ').set i hrd, rs, ?_⟩
    rw [hres a d xx.c fs v (List.replicate σ'.length none) S hv (by rw [List.length_replicate, hlen])]
    exact hk
end

/-- told(lambda: body) -/
def fTold (hit : Nat → Option Bool) (r : Nat → List (Str × Int) → Option D) (fb : FE) : FE := fun σ S => match fb σ S with
  | .ok d S' => .ok d S'
  | .exc x S' => (match hit x.c with
    | some true => (match intFs x.fs with
      | some fs => (match r x.c fs with
        | some v => .ok v S'
        | none => .stuck)
      | none => .stuck)
    | _ => .stuck)
  | .stuck => .stuck
/-- the def that is handed the lambda -/
structure ToldD (G : Gm) (mg : Str → Option Value) (x a : Str) (bg : List Stmt) (sg : Scope) (Ng : List Str) : Prop where
  ex : ∃ (g : Addr) (pg : Arguments) (dV kV doc pm cdv ct oc : Value) (an od : Option Addr) (osl : Array (Option Value)), mg x = some (.ref g) ∧ PySem.W.keepIn G.K (.ref g) = true ∧
    G.K.lookup g = some ⟨oc, od, .func (PySem.W.fnOf x x pg bg sg dV kV doc pm an cdv ct), osl⟩ ∧ PySem.W.codeIn G.K cdv x = true ∧ L2.Binds G.K (PySem.W.fnOf x x pg bg sg dV kV doc pm an cdv ct) [a] []
  S : FnScope Ng [a] sg
theorem toldD_of {P : Program} {w : World} {K : PySem.W.Frag} {mg : Str → Option Value} {cl : Nat → Addr} {tb : List (Addr × Str)} {x a : Str} {params : Arguments} {body : List Stmt} {scope : Scope} {N : List Str}
    (D : ∃ f fd, FunD K x x params body scope [] [] f fd ∧ mg x = some (.ref f)) (S : FnScope N [a] scope)
    (hb : ∀ (kV doc pm : Value) (an : Option Addr) (cdv ct : Value) (us : List Value), us.length = ([a] : List Str).length → bindArgs (PySem.W.fnOf x x params body scope .none kV doc pm an cdv ct) ⟨us, []⟩ = pure (([a] : List Str).zip us)) :
    ToldD ⟨P, w, K, cl, tb⟩ mg x a body scope N := by
  obtain ⟨f, fd, F, hm⟩ := D
  have FB := F.bindsN hb
  obtain ⟨⟨oc, od, dV, kV, doc, pm, an, cdv, ct, osl, rfl, lk, hcd, _⟩, kp⟩ := F
  exact ⟨⟨f, params, dV, kV, doc, pm, cdv, ct, oc, an, od, osl, hm, kp, lk, hcd, FB⟩, S⟩
section
variable {G : Gm} {X : Cx} {W : WX} {k j i cb : Nat} {Ng : List Str} {x a e n : Str} {sg : Scope} {params : Arguments} {body : Expr} {scope : Scope} {suite : List Stmt} {b₀ : Stmt} {p1 p2 p3 p4 p7 p8 p lpos pos : Pos} {gs : D → FS} {hit : Nat → Option Bool} {r : Nat → List (Str × Int) → Option D} {fb : FE} {c P : Addr}
theorem je_told [F : Fits G X] (h : Here X W j) (hkj : k + 2 ≤ j) (T : ToldD G X.mg x a [.Try [.Return (some (.Call (.Name a p1) [] [] p2)) p3] [.ExceptHandler (some (.Name e p4)) (some n) (b₀ :: suite) p7] [] [] p8] sg Ng)
    (hm : X.mg e = some (.ref (G.cl cb))) (hex : ∀ c b, hit c = some b → PySem.W.exmOne G.K (.ref (G.cl c)) (.ref (G.cl cb)) = some b)
    (hsu : ∀ (g : Addr) (cdg : Value) (s : Shared) (H : Hp) (a : Addr) (oe : Obj) (d : Option Addr) (pn : List (Addr × Obj)) (c : Nat) (fs : List (Str × Int)), Zc (.ref (G.cl c)) d oe → (∃ vs, oe.data = .fields vs) →
      (cxOf C8.CX0 X.prog X.w X.K X.mg X.base Ng x sg g cdg X.A X.stack s H C8.E0).A.units + 64 < cLine →
      JSs G ((cxOf C8.CX0 X.prog X.w X.K X.mg X.base Ng x sg g cdg X.A X.stack s H C8.E0).nox.suite a ((a, oe) :: pn)) W0 (b₀ :: suite) (gs (.exn a d c fs)))
    (hres : ∀ (a : Addr) (d : Option Addr) (c : Nat) (fs : List (Str × Int)) (v : D) (σ : Sl) (S : Sto), r c fs = some v → σ.length = Ng.length → gs (.exn a d c fs) (σ.set i (some (.exn a d c fs))) S = .rt v S)
    (TB : TabB X.base X.mg c P) (hcode : X.env.code = .ref c) (hmT : (P, X.env.qual ++ "<lambda>") ∈ G.tb) (hu : ∀ p ∈ G.tb, p.1 = P → p.2 = X.env.qual ++ "<lambda>")
    (hb : ∀ (A : Around) (outer : List Env) (s : Shared) (H : Hp) (E : XK) (f c' : Addr), Here (lamCx X A outer s H E scope f c') (fun cls d _ H => E cls d H) k → JE G (lamCx X A outer s H E scope f c') (fun cls d _ H => E cls d H) body fb)
    (hN : Ng.Nodup) (hbind : ∀ (q : Str) (cl : List (Str × Addr)) (pm cv ctv : Value), bindArgs (PySem.W.kla_fn "<lambda>" q params body scope cl pm cv ctv) ⟨[], []⟩ = pure [])
    (L : lamSB X.env.scope scope = true := by rfl) (hdef : defaultsOf params X.env = ([], []) := by rfl) (hg : Gl X x := by rfl)
    (hi : Ng[i]? = some n := by rfl) (hln : sg.names.lookup n = some .local := by rfl) (hge : sg.names.lookup e = some .globalImplicit := by rfl) (hde : (e == ("__debug__" : Str)) = false := by rfl) (hNg : Ng[0]? = some a := by rfl) (hva : visB sg a = true := by rfl)
    (hdb : (x == ("__debug__" : Str)) = false := by decide) (hd : (a == ("__debug__" : Str)) = false := by decide) (hcd : (a == ("__classdict__" : Str)) = false := by decide) :
    JE G X W (.Call (.Name x p) [.Lambda params body scope lpos] [] pos) (fTold hit r fb) := by
  obtain ⟨⟨g, pg, dV, kV, doc, pm, cdv, ct, oc, an, od, osl, hmx, kp, lk, hcg, FB⟩, Sg⟩ := T
  rw [F.K] at kp lk hcg FB
  have h0 : ∀ f : Addr, (L2.start Ng [V.ref f])[0]? = some (some (V.ref f)) := fun f => start_at (i := 0) rfl
  have gv := told_gives (F := F) (X := X) (g := g) (cdg := cdv) (x := x) (a := a) (q := X.env.qual ++ "<lambda>") (p1 := p1) (p2 := p2) (p3 := p3) (p4 := p4) (p7 := p7) (p8 := p8) (h.room.mono (show k + 1 ≤ j by omega)) hm hex (hsu g cdv) hres hN hi hln hge hde h0
  refine ⟨PE.weak (pe_lamcall (T := G.tb) (t := fun E => LE G (fun cls d _ H => E cls d H) fb) hg hmx kp lk hcg FB Sg hNg (vis_of hva) gv TB hcode hmT hu (h.room.mono hkj) (lamS_by L) hdef hbind
    (fun A outer s H E f c' hr2 => (hb A outer s H E f c' (here_lam hr2)).pe) hdb hd hcd) ?_⟩
  rintro σ H Q ⟨ρ, η, σd, S, rσ, rs, pp⟩
  refine ⟨rs.tab, fun H1 eN t1 => ?_⟩
  obtain ⟨rs1, ex⟩ := rs.extN eN t1
  refine ⟨ρ, η, σd, S, rσ.ext ex, rs1, ?_⟩
  unfold fTold at pp
  cases hf : fb σd S with
  | ok d S' =>
    rw [hf] at pp
    exact fun ρ' H' v e' rs' rd' => pp ρ' H' v (ex.trans e') rs' rd'
  | stuck => rw [hf] at pp; exact pp.elim
  | exc y S' =>
    rw [hf] at pp
    dsimp only at pp
    intro ρ' H' C dd e' rs' rx'
    cases hh : hit y.c with
    | none => rw [hh] at pp; exact pp.elim
    | some b =>
      rw [hh] at pp
      cases b with
      | false => exact pp.elim
      | true =>
        dsimp only at pp
        cases hi2 : intFs y.fs with
        | none => rw [hi2] at pp; exact pp.elim
        | some fs =>
          rw [hi2] at pp
          dsimp only at pp
          cases hv : r y.c fs with
          | none => rw [hv] at pp; exact pp.elim
          | some v =>
            rw [hv] at pp
            exact ⟨ρ', η, S', y, fs, v, rs', rx', hh, hi2, hv, fun ρ2 H2 v2 e2 rs2 rd2 => pp ρ2 H2 v2 ((ex.trans e').trans e2) rs2 rd2⟩
end
/-! ### defs that hold lambdas: their code object is known -/
section
variable {P : Program} {w : World} {K : PySem.W.Frag} {mg : Str → Option Value} {base : Heap} {cl : Nat → Addr} {tb : List (Addr × Str)}
theorem fn_bodyC {x qual : Str} {params : Arguments} {body : List Stmt} {scope : Scope} {dfl : List V} {kwd : List (Str × V)} {f : Addr} {fd : FuncData} {c : Addr} (N ps : List Str) {k : Nat} {g : FS} (F : FunD K x qual params body scope dfl kwd f fd) (hc : fd.code = .ref c) (S : FnScope N ps scope)
    (h : ∀ (A : Around) (outer : List Env) (s : Shared) (H : Hp) (E : XK), Room k (A.deeper (PyProof.Rows.envOfC qual scope s.heap.objs.size f (.ref c))) →
      JSs ⟨P, w, K, cl, tb⟩ (cxOf (L2.CX P w) P w K mg base N qual scope f (.ref c) A outer s H E) (fun cls d _ H => E cls d H) body g) :
    FnOk P w K mg base (L2.CX P w) (k + 1) f fd ps (spF ⟨P, w, K, cl, tb⟩ ps.length (fDef N.length g)) := by
  obtain ⟨⟨oc, od, dV, kV, doc, pm, an, cdv, ct, osl, rfl, lk, hcd, _⟩, kp⟩ := F
  obtain rfl : cdv = .ref c := hc
  refine fn_of lk hcd S (fun vs H Q E h => ?_) fun A outer s H vs Q E hr h' => ?_
  · obtain ⟨ρ, η, ds, S, hn, rd, _⟩ := h
    rw [rd.length, hn]
  · obtain ⟨ρ, η, ds, S', hn, rd, rs, p⟩ := h'
    exact ⟨_, (h A outer s H E hr).ps, ρ, η, _, S', start_slots N rd, rs, fdef_post p⟩
theorem callee_ofC {x qual : Str} {params : Arguments} {body : List Stmt} {scope : Scope} {kws : List (Str × V)} {N ps : List Str} {n k : Nat} {g : FS} {c : Addr}
    (D : ∃ f fd, FunD K x qual params body scope [] kws f fd ∧ mg x = some (.ref f) ∧ fd.code = .ref c) (S : FnScope N ps scope)
    (hb : ∀ (kV doc pm : Value) (an : Option Addr) (cdv ct : Value) (us : List Value), us.length = ps.length → bindArgs (PySem.W.fnOf x qual params body scope .none kV doc pm an cdv ct) ⟨us, []⟩ = pure (ps.zip us))
    (hn : ps.length = n)
    (h : ∀ (f : Addr) (A : Around) (outer : List Env) (s : Shared) (H : Hp) (E : XK), Here (cxOf (L2.CX P w) P w K mg base N qual scope f (.ref c) A outer s H E) (fun cls d _ H => E cls d H) k →
      JSs ⟨P, w, K, cl, tb⟩ (cxOf (L2.CX P w) P w K mg base N qual scope f (.ref c) A outer s H E) (fun cls d _ H => E cls d H) body g) :
    Callee ⟨P, w, K, cl, tb⟩ mg base x ps n (k + 1) (fDef N.length g) := by
  obtain ⟨f, fd, F, hm, hc⟩ := D
  refine ⟨f, fd, ?_, hm, F.kp, F.bindsN hb⟩
  subst hn
  exact fn_bodyC N ps F hc S fun A outer s H E hr => h f A outer s H E (here_def hr)
end
end Fx
namespace Fx
open PySem PySem.Spec L2
/-- what the handler of a def's single try does -/
def toldSuite : List Stmt → List Stmt
  | [.Try _ [.ExceptHandler _ _ su _] _ _ _] => su
  | _ => []
theorem code_fun {K : PySem.W.Frag} {x qual : Str} {params : Arguments} {body : List Stmt} {scope : Scope} {dvs : List V} {kws : List (Str × V)} {fd : FuncData} {p : He.Defn} (F : FunD K x qual params body scope dvs kws (He.fAd K p) fd) : fd.code = .ref (He.codeOf K p) := by
  obtain ⟨⟨oc, od, dV, kV, doc, pm, an, cdv, ct, osl, rfl, lk, hcd, _⟩, _⟩ := F
  obtain ⟨c, rfl⟩ := He.codeIn_ref hcd
  rw [He.codeOf_eq lk rfl] <;> rfl
def tbB (l : List (Addr × Str)) (P : Addr) (q : Str) : Bool := l.all fun p => decide (p.1 ≠ P) || decide (p.2 = q)
theorem tbB_ok {l : List (Addr × Str)} {P : Addr} {q : Str} (h : tbB l P q = true) : ∀ p ∈ l, p.1 = P → p.2 = q := fun p hp e => by
  have := List.all_eq_true.mp h p hp
  simp only [Bool.or_eq_true, decide_eq_true_eq] at this
  exact this.elim (fun z => absurd e z) id
end Fx

/-! Fx32: sorted of ints that rise already; equations of what came last. -/
namespace Fx
open PySem PySem.Spec L2
def opSortR (x : D) (S : Sto) : Option (List D) := match seqL x S with
  | some xs => (match intsOf xs with
    | some is => if decide (is.Pairwise (· ≤ ·)) then some xs else none
    | none => none)
  | none => none
def fSortR (fa : FE) : FL := fun σ S => (fa σ S).bind fun x S1 => liftO (opSortR x S1) S1
theorem perm_le : ∀ {a b : List Int}, a.Perm b → a.Pairwise (· ≤ ·) → b.Pairwise (· ≤ ·) → a = b
  | [], b, p, _, _ => (List.Perm.nil_eq p).symm ▸ rfl
  | x :: a, [], p, _, _ => by simpa using p.length_eq
  | x :: a, y :: b, p, h1, h2 => by
    rw [List.pairwise_cons] at h1 h2
    have e : x = y := by
      have m1 : x ∈ y :: b := p.mem_iff.mp List.mem_cons_self
      have m2 : y ∈ x :: a := p.mem_iff.mpr List.mem_cons_self
      rcases List.mem_cons.mp m1 with e | e
      · exact e
      · rcases List.mem_cons.mp m2 with e2 | e2
        · exact e2.symm
        · have := h2.1 x e
          have := h1.1 y e2
          omega
    subst e
    rw [perm_le ((List.perm_cons x).mp p) h1.2 h2.2]
section
variable {G : Gm} {X : Cx} {W : WX} {a : Expr} {fa : FE} {p q pos : Pos}
theorem jl_sortR [F : Fits G X] (hm : X.mg "sorted" = none) (ha : JE G X W a fa) (hg : Gl X "sorted" := by rfl)
    (na : starEach [a] X.env = (false, eval a X.env) :: starEach [] X.env := by rfl) : JL G X W (.Call (.Name "sorted" p) [a] [] pos) (fSortR fa) := by
  refine ⟨PE.weak (pe_callB cr_sortedI hg hm (by decide +kernel) (pa_cons ha.pe pa_nil na) (by decide) (by decide) na rfl) ?_⟩
  rintro σ H Q ⟨ρ, η, σd, S, rσ, rs, pp⟩
  refine LE.of rσ rs pp fun x S1 ρ1 H1 u e1 rσ1 rs1 rx p1 => ?_
  cases hq : opSortR x S1 with
  | none => rw [hq] at p1; exact p1.elim
  | some ys =>
    rw [hq] at p1
    unfold opSortR at hq
    split at hq
    · rename_i xs hx
      split at hq
      · rename_i is hi
        split at hq
        · rename_i hlt
          cases hq
          rw [decide_eq_true_iff] at hlt
          obtain ⟨l, vs, rfl, hs, hl, r⟩ := seqL_at rs1 rx hx
          have hv := ints_at _ vs is r hi
          subst hv
          refine ⟨l, is, rfl, F.K ▸ hs, fun out n hp ho hn => ?_⟩
          have eo : out = is := perm_le hp ho hlt
          subst eo
          exact newList (fun a ha => rs1.somes a (e1.mem ha)) e1 rs1 r (by rw [r.length]; rw [r.length] at hl; exact hl) hn p1
        · cases hq
      · cases hq
    · cases hq
end
@[simp] theorem xSortR {fa : FE} {σ : Sl} {S : Sto} : fSortR fa σ S = (fa σ S).bind fun x S1 => liftO (opSortR x S1) S1 := rfl
def fXi (x : D) (i : Nat) (n : Int) : FE := fun σ S => if σ[i]? = some (some x) then .ok (.int n) S else .stuck
theorem xf_at {a : Addr} {d : Option Addr} {c i : Nat} {fs : List (Str × Int)} {f : Str} {n : Int} {l : List (Nat × Bool)} (h : fs.lookup f = some n) (hl : List.lookup c l = some true) :
    fXf (.exn a d c fs) i f (List.lookup (exC (.exn a d c fs)) l) = fXi (.exn a d c fs) i n := by
  funext σ S
  unfold fXf fXi
  rw [show exC (.exn a d c fs) = c from rfl, hl]
  by_cases q : σ[i]? = some (some (D.exn a d c fs))
  · rw [if_pos ⟨rfl, q⟩, if_pos q]
    dsimp only
    rw [h]
  · rw [if_neg (fun z => q z.2), if_neg q]
instance fits_any {P : Program} {w : World} {K : PySem.W.Frag} {cl : Nat → Addr} {tb : List (Addr × Str)} {mg : Str → Option Value} {base : Heap} {N : List Str} {qual : Str} {scope : Scope} {f : Addr} {cd : Value} {A : Around} {outer : List Env} {s : Shared} {H : Hp} {E : XK} {CX : CXT} :
    Fits ⟨P, w, K, cl, tb⟩ (cxOf CX P w K mg base N qual scope f cd A outer s H E) := ⟨rfl, rfl, rfl⟩
theorem eqFb (a b : Bool) : eqF (.bl a) (.bl b) = (a == b) := rfl
theorem eqFs (a b : Str) : eqF (.str a) (.str b) = (a == b) := rfl
theorem oInS2 {S : Sto} {x a b : Str} : opIn (.str x) (.tup [.str a, .str b]) S = some (.bl (decide (x = a) || decide (x = b))) := by
  have e2 : isInB (.str x) (.tup [.str a, .str b]) S = some (inD (.str x) [.str a, .str b]) := rfl
  have e : inD (.str x) [.str a, .str b] = (decide (x = a) || decide (x = b)) := by
    show ((a == x) || ((b == x) || false)) = _
    rw [Bool.or_false]
    congr 1 <;> · rw [eq_comm]; exact decide_eq_decide.mpr eq_comm
  show (isInB (.str x) (.tup [.str a, .str b]) S).map D.bl = _
  rw [e2, e]
  rfl
@[simp] theorem xRaise0 {c : Nat} {σ : Sl} {S : Sto} : sRaise0 c σ S = .exc ⟨c, []⟩ σ S := rfl
theorem xRaiseF {c n : Nat} {fs : List Str} {g : FL} {σ : Sl} {S S1 : Sto} {ds : List D} (h : g σ S = .ok ds S1) (hl : ds.length = n) : sRaiseF c n fs g σ S = .exc ⟨c, fs.zip ds.reverse⟩ σ S1 := by
  unfold sRaiseF
  rw [h]
  exact if_pos hl
theorem told_ok {hit : Nat → Option Bool} {r : Nat → List (Str × Int) → Option D} {fb : FE} {σ : Sl} {S S' : Sto} {d : D} (h : fb σ S = .ok d S') : fTold hit r fb σ S = .ok d S' := by
  unfold fTold
  rw [h]
theorem told_exc {hit : Nat → Option Bool} {r : Nat → List (Str × Int) → Option D} {fb : FE} {σ : Sl} {S S' : Sto} {x : Exc} {fs : List (Str × Int)} {v : D} (h : fb σ S = .exc x S') (h1 : hit x.c = some true) (h2 : intFs x.fs = some fs) (h3 : r x.c fs = some v) : fTold hit r fb σ S = .ok v S' := by
  unfold fTold
  rw [h]
  simp only [h1, h2, h3]
theorem try_nx {N : Nat} {hit : Nat → Option Bool} {r : Nat → List (Str × Int) → Option D} {g : FS} {σ σ' : Sl} {S S' : Sto} (h : g σ S = .nx σ' S') : sTryAs N hit r g σ S = .nx σ' S' := by
  unfold sTryAs
  rw [h]
theorem try_exc {N : Nat} {hit : Nat → Option Bool} {r : Nat → List (Str × Int) → Option D} {g : FS} {σ σ' : Sl} {S S' : Sto} {x : Exc} {fs : List (Str × Int)} {v : D} (h : g σ S = .exc x σ' S') (h1 : hit x.c = some true) (h2 : intFs x.fs = some fs) (hn : σ'.length = N) (h3 : r x.c fs = some v) : sTryAs N hit r g σ S = .rt v S' := by
  unfold sTryAs
  rw [h]
  simp only [h1, h2, h3, if_pos hn]
end Fx

/-! Fx33: x[::-1] of a tuple, a list. -/
namespace HT
open PySem PySem.Spec PyProof.Rows
variable {prog : Program} {w : World} {A : Around} {E : Value → Shared → Prop} {s : Shared}
theorem adjust_rev (n : Nat) : Builtin.Slice.sliceAdjust none none (-1) (n : Int) = ((n : Int) - 1, -1) := by
  unfold Builtin.Slice.sliceAdjust
  have h1 : ((-1 : Int) < 0) := by omega
  simp only [h1, if_true]
theorem places_rev (n : Nat) : Builtin.Slice.slicePlaces ((n : Int) - 1) (-1) (-1) = n := by
  unfold Builtin.Slice.slicePlaces
  have h1 : ¬ (-1 : Int) > 0 := by omega
  simp only [h1, if_false]
  split
  · have h2 : (- -1 : Int) = 1 := by decide
    rw [h2, Int.ediv_one]
    omega
  · omega
theorem sliceApplied_rev {sl : Addr} {vs : Value} {n : Nat} {Q : Int × Int × Nat → Shared → Prop} (hs : s.heap.IsSliceOf sl .none .none vs) (ps : IsPart vs (some (-1)))
    (h : Q ((n : Int) - 1, -1, n) s) : wpAny (model prog w) A (Builtin.Slice.sliceApplied (.ref sl) (pure (n : Int))) Q E s := by
  obtain ⟨os, hos, hcs, hds⟩ := id hs
  unfold Builtin.Slice.sliceApplied Builtin.Slice.sliceFields
  refine wpAny_bind (wpAny_bind (wpAny_field hos hds (x := .none) rfl (wpAny_bind (wpAny_field hos hds (x := .none) rfl (wpAny_bind (wpAny_field hos hds (x := vs) rfl (wpAny_pure ?_)))))))
  refine wpAny_bind (slicePart_ ps ?_)
  show wpAny _ _ (if ((-1 : Int) == 0) = true then _ else _) _ _ s
  rw [if_neg (by decide)]
  refine wpAny_bind (slicePart_ .none (wpAny_bind (slicePart_ .none (wpAny_bind (wpAny_pure ?_)))))
  show wpAny _ _ (match Builtin.Slice.sliceAdjust none none (-1) (n : Int) with | (lo, hi) => pure (lo, (-1 : Int), Builtin.Slice.slicePlaces lo hi (-1))) _ _ s
  rw [adjust_rev n]
  show wpAny _ _ (pure ((n : Int) - 1, (-1 : Int), Builtin.Slice.slicePlaces ((n : Int) - 1) (-1) (-1))) _ _ s
  rw [places_rev]
  exact wpAny_pure h
theorem pick_rev (xs : Array Value) : ((List.range xs.size).filterMap fun (m : Nat) => xs[((xs.size : Int) - 1 + (m : Int) * -1).toNat]?).toArray = xs.toList.reverse.toArray := by
  congr 1
  have e : ∀ m ∈ List.range xs.size, xs[((xs.size : Int) - 1 + (m : Int) * -1).toNat]? = xs.toList.reverse[m]? := by
    intro m hm
    rw [List.mem_range] at hm
    have h1 : ((xs.size : Int) - 1 + (m : Int) * -1).toNat = xs.size - 1 - m := by omega
    rw [h1, List.getElem?_reverse (by rw [Array.length_toList]; exact hm), Array.getElem?_toList, Array.length_toList]
  have e2 : (List.range xs.size).filterMap (fun (m : Nat) => xs[((xs.size : Int) - 1 + (m : Int) * -1).toNat]?) = (List.range xs.size).filterMap (fun m => xs.toList.reverse[m]?) := by
    have key : ∀ l : List Nat, (∀ m ∈ l, m ∈ List.range xs.size) → l.filterMap (fun (m : Nat) => xs[((xs.size : Int) - 1 + (m : Int) * -1).toNat]?) = l.filterMap (fun m => xs.toList.reverse[m]?) := by
      intro l
      induction l with
      | nil => intro _; rfl
      | cons m l ih =>
        intro h
        rw [List.filterMap_cons, List.filterMap_cons, e m (h m List.mem_cons_self), ih fun k hk => h k (List.mem_cons_of_mem _ hk)]
    exact key _ fun _ h => h
  rw [e2]
  have hl : xs.size = xs.toList.reverse.length := by rw [List.length_reverse, Array.length_toList]
  rw [hl]
  generalize xs.toList.reverse = ys
  have : ∀ ys : List Value, (List.range ys.length).filterMap (fun m => ys[m]?) = ys := by
    intro ys
    refine List.ext_getElem? fun i => ?_
    have h3 : (List.range ys.length).filterMap (fun m => ys[m]?) = ys := by
      induction ys with
      | nil => rfl
      | cons y ys ih =>
        rw [List.length_cons, List.range_succ_eq_map, List.filterMap_cons]
        show y :: List.filterMap _ _ = _
        rw [List.filterMap_map]
        congr 1
    rw [h3]
  exact this ys
theorem getItem_tuple_rev {t sl : Addr} {items : Array Value} {vs : Value} {Q : Value → Shared → Prop} (ht : IsTup s.heap t items) (hs : s.heap.IsSliceOf sl .none .none vs) (ps : IsPart vs (some (-1)))
    (h : Q (.ref s.heap.objs.size) { s with heap := s.heap.push { cls := .type "tuple", data := .seq items.toList.reverse.toArray } })
    (hsz : items.size ≤ sizeLine) : wpAny (model prog w) A (getItem (.ref t) (.ref sl)) Q E s := by
  have htake : sizeOk (.seq items.toList.reverse.toArray) := by
    show items.toList.reverse.toArray.size ≤ sizeLine
    rw [List.size_toArray, List.length_reverse, Array.length_toList]
    exact hsz
  obtain ⟨os, hos, hcs, hds⟩ := id hs
  have hTs : s.TypeIs (.ref sl) "slice" := ⟨os, hos, hcs⟩
  unfold getItem
  try with_reducible refine wpAny_holding ?_
  first | refine wpAny_bind (wpAny_pure ?_) | skip
  refine wpAny_bind (wpAny_sequenceKey ht.typeIs (by decide) ?_)
  refine wpAny_bind (wpAny_callSpecial?_slot (name := Str.ofString "__getitem__") ht.typeIs PyProof.Rows.slot_tuple_getitem
    (wpAny_call_entry PyProof.Rows.slot_tuple_getitem ht.typeIs entry_tuple_getitem ?_ (args_tuple_getitem _ _)))
  show wpAny _ _ (Builtin.Tuple.tupleItemsOf (.ref t) >>= _) _ _ s
  refine wpAny_bind (tupleItemsOf_ ht ?_)
  refine wpAny_bind (wpAny_typeOf hTs ?_)
  rw [if_pos (by decide)]
  refine wpAny_bind (sliceApplied_rev hs ps ?_)
  have hno : ¬ ((((items.size : Int) - 1) == 0 && (-1 : Int) == 1 && items.size == items.size) = true) := by
    intro q
    rw [Bool.and_eq_true, Bool.and_eq_true] at q
    exact absurd q.1.2 (by decide)
  show wpAny _ _ (if (((items.size : Int) - 1) == 0 && (-1 : Int) == 1 && items.size == items.size) = true then _ else _) _ _ s
  rw [if_neg hno, pick_rev]
  first
    | exact wpAny_bind (m := Builtin.Tuple.tupleExact _) (wpAny_newObj_type (wpAny_pure ⟨_, rfl, wpAny_pure h⟩) htake)
    | exact wpAny_bind (m := Builtin.Tuple.tupleExact _) (wpAny_newObj_type (wpAny_bind (wpAny_pure (wpAny_pure ⟨_, rfl, wpAny_pure h⟩))) htake)
    | exact wpAny_bind (wpAny_bind (m := Builtin.Tuple.tupleExact _) (wpAny_newObj_type (wpAny_pure (wpAny_pure ⟨_, rfl, wpAny_pure h⟩)) htake))
    | exact wpAny_bind (wpAny_bind (m := Builtin.Tuple.tupleExact _) (wpAny_newObj_type (wpAny_pure ⟨_, rfl, wpAny_pure h⟩) htake))
end HT
namespace Fx
open PySem PySem.Spec L2
section
variable {G : Gm} {X : Cx} {W : WX} {e : Expr} {pos : Pos} {f : FE}
def tRevU (K : PySem.W.Frag) (te : TE) : TE := fun σ H Q => te σ H fun x H1 => (∃ a xs, x = .ref a ∧ SqT K H1 a xs ∧ wTup H1 Q xs.reverse) ∨ (∃ a xs, x = .ref a ∧ SqL K H1 a xs ∧ ∀ p, H1 p = none → Q (.ref p) (upd H1 p (.lst xs.reverse)))
theorem pe_revU {te : TE} {k : Nat} {p1 p2 p3 : Pos} (he : PE X e te) : PE X (.Subscript e (.Slice none none (some (.UnaryOp .USub (.Constant (.int 1) k p1) p2)) p3) pos) (tRevU X.K te) := by
  refine ⟨fun pins s σ H Q I h => ?_⟩
  refine PyProof.Rows.Subscript_ (thn (he.run pins s σ H _ I h) fun v s1 ⟨x, H1, I1, r1, q1⟩ => ?_)
  have hst : PO X (some (.UnaryOp .USub (.Constant (.int 1) k p1) p2)) (tPart (tUn (rU fun i => .int (-i)) (tC (.int 1)))) := po_some (pe_un un_neg pe_int)
  refine wpAny_Slice (thn (po_none.run pins s1 σ H1 (fun o H2 => o = none ∧ H2 = H1) I1 ⟨rfl, rfl⟩) fun vl s2 ⟨l, H2, I2, pl, el, e2⟩ => ?_)
  subst el e2
  refine thn (po_none.run pins s2 σ H2 (fun o H3 => o = none ∧ H3 = H2) I2 ⟨rfl, rfl⟩) fun vu s3 ⟨u, H3, I3, pu, eu, e3⟩ => ?_
  subst eu e3
  refine thn (hst.run pins s3 σ H3 (fun o H4 => o = some (-1) ∧ H4 = H3) I3 ⟨1, rfl, -1, rfl, rfl, rfl⟩) fun vs s4 ⟨o, H4, I4, ps, eo, e4⟩ => ?_
  subst eo e4
  have I5 : Inv X pins σ H4 { s4 with heap := s4.heap.push { cls := .type "slice", data := .fields #[vl, vu, vs] } } := I4.kept (t' := s4.toks) fun b ob q => Heap.get?_push_of_some _ q
  rcases q1 with ⟨a, xs, ex, hx, q⟩ | ⟨a, xs, ex, hx, q⟩
  · subst ex
    cases r1
    cases pl
    cases pu
    obtain ⟨its, r, ht, hz⟩ := I5.tuple hx
    have hlen : its.toArray.size = xs.length := by rw [List.size_toArray]; exact r.length.symm
    refine PyProof.Rows.tail_any (ops := [.ref a, .ref s4.heap.objs.size]) ht.typeIs (PyProof.Rows.slot_tuple_getitem.lookup) ?_ (by with_unfolding_all rfl)
    refine HT.getItem_tuple_rev ht (Heap.IsSliceOf.new _ .none .none vs) ps ?_ (by rw [hlen]; exact hz)
    exact wTup.at (t' := s4.toks) q I5 r.reverse (by rw [List.length_reverse]; exact hz)
  · subst ex
    cases r1
    obtain ⟨its, r, ht, hz⟩ := I5.list hx
    have hlen := r.length
    refine PyProof.Rows.tail_any (ops := [.ref a, .ref s4.heap.objs.size]) ht.isList.typeIs (PySem.slot_list_getitem.lookup) ?_ (by with_unfolding_all rfl)
    refine wpAny_getItem_list_slice ht.isList (Heap.IsSliceOf.new _ vl vu vs) pl pu ps (by decide) ?_ (by rw [List.size_toArray]; omega)
    rw [PySem.W.krv_pick]
    refine ⟨.ref _, _, I5.laid (t' := s4.toks) (o := .lst xs.reverse) (fun b ob q => Heap.get?_push_of_some _ q) (Nat.le_refl _) ?_, rfl, q _ (I5.hok.fresh (Nat.le_refl _))⟩
    exact ⟨by rw [List.length_reverse]; exact hz, _, 0, r.reverse, Heap.get?_push_size _ rfl⟩
def opRevU (x : D) (S : Sto) : Option D := match x with
  | .tup xs => some (.tup xs.reverse)
  | _ => (seqL x S).map fun xs => .lst xs.reverse
def fRevU (fa : FE) : FE := fun σ S => (fa σ S).bind fun x S1 => liftO (opRevU x S1) S1
@[simp] theorem xRevU {fa : FE} {σ : Sl} {S : Sto} : fRevU fa σ S = (fa σ S).bind fun x S1 => liftO (opRevU x S1) S1 := rfl
theorem je_revU [F : Fits G X] {k : Nat} {p1 p2 p3 : Pos} (he : JE G X W e f) : JE G X W (.Subscript e (.Slice none none (some (.UnaryOp .USub (.Constant (.int 1) k p1) p2)) p3) pos) (fRevU f) := by
  refine ⟨PE.weak (pe_revU he.pe) ?_⟩
  rintro σ H Q ⟨ρ, η, σd, S, rσ, rs, pp⟩
  rw [← F.K]
  refine LE.of rσ rs pp fun x S1 ρ1 H1 u e1 rσ1 rs1 rx p1 => ?_
  cases ho : opRevU x S1 with
  | none => rw [ho] at p1; exact p1.elim
  | some d =>
    rw [ho] at p1
    have lst : (seqL x S1).map (fun xs => D.lst xs.reverse) = some d → ∃ a xs, u = .ref a ∧ SqL G.K H1 a xs ∧ ∀ p, H1 p = none → Q (.ref p) (upd H1 p (.lst xs.reverse)) := fun hq => by
      obtain ⟨xs, h1, rfl⟩ := Option.map_eq_some_iff.mp hq
      obtain ⟨q, vs, rfl, hs, hl2, r⟩ := seqL_at rs1 rx h1
      refine ⟨q, vs, rfl, hs, fun n hn => ?_⟩
      obtain ⟨sm, rd⟩ := lst_new (vs := vs.reverse) rs1 hn (by rw [List.length_reverse]; exact hl2) r.reverse
      exact p1 ρ1 _ _ (e1.trans (Ext.of_same sm)) (rs1.same sm) rd
    cases x with
    | tup xs =>
      have hd : d = .tup xs.reverse := (Option.some.inj ho).symm
      subst hd
      obtain ⟨q, vs, rfl, hs, hl2, r⟩ := tup_at rx
      refine .inl ⟨q, vs, rfl, hs, fun n o hn ho => ?_⟩
      obtain ⟨sm, rd⟩ := tup_new (vs := vs.reverse) rs1 hn ho (by rw [List.length_reverse]; exact hl2) r.reverse
      exact p1 ρ1 _ _ (e1.trans (Ext.of_same sm)) (rs1.same sm) rd
    | str z => exact .inr (lst ho)
    | lst xs => exact .inr (lst ho)
    | scr xs => exact .inr (lst ho)
    | ref n => exact .inr (lst ho)
    | dct a b => exact .inr (lst ho)
    | non => exact .inr (lst ho)
    | bl b => exact .inr (lst ho)
    | int j => exact .inr (lst ho)
    | exn a b c d => exact .inr (lst ho)
end
end Fx

/-! Fx34: dicts by ints: {}, d[k], d[k] = v, d.pop(k). -/
namespace Fx
open PySem PySem.Spec L2
def getKD (kvs : List (Key × D)) (k : Key) : Option D := (kvs.find? fun p => decide (p.1 = k)).map (·.2)
def putKD (kvs : List (Key × D)) (k : Key) (d : D) : List (Key × D) := if (kvs.any fun p => decide (p.1 = k)) = true then kvs.map (fun p => if p.1 = k then (p.1, d) else p) else kvs ++ [(k, d)]
def dropKD (kvs : List (Key × D)) (k : Key) : List (Key × D) := kvs.filter fun p => decide (p.1 ≠ k)
def dkS (x : D) (S : Sto) : Option (Nat × List (Key × D)) := match x with
  | .ref n => (match S[n]? with
    | some (.dk kvs) => some (n, kvs)
    | _ => none)
  | _ => none
section
variable {G : Gm} {ρ η : List Addr} {H : Hp}
theorem RDs.cons_of {d : D} {v : V} {ds : List D} {vs : List V} (r : RDs G ρ η H (d :: ds) (v :: vs)) : RD G ρ η H d v ∧ RDs G ρ η H ds vs := by
  rw [RDs] at r
  obtain ⟨u, us, e, h1, h2⟩ := r
  injection e with e1 e2
  subst e1 e2
  exact ⟨h1, h2⟩
theorem dk_get (k : Key) : ∀ (kvs : List (Key × D)) (l : List (Key × V)), l.map (·.1) = kvs.map (·.1) → RDs G ρ η H (kvs.map (·.2)) (l.map (·.2)) → ∀ d, getKD kvs k = some d → ∃ v, valV l k = some v ∧ RD G ρ η H d v
  | [], _, _, _, d, h => by cases h
  | p :: kvs, [], h1, _, _, _ => by cases h1
  | p :: kvs, q :: l, h1, h2, d, h => by
    rw [List.map_cons, List.map_cons] at h1 h2
    injection h1 with e1 e2
    obtain ⟨r1, r2⟩ := h2.cons_of
    unfold getKD at h
    rw [List.find?_cons] at h
    by_cases hk : p.1 = k
    · rw [decide_eq_true hk] at h
      injection h with h
      exact ⟨q.2, valV_pos (by rw [e1]; exact hk), h ▸ r1⟩
    · rw [decide_eq_false hk] at h
      obtain ⟨v, h3, h4⟩ := dk_get k kvs l e2 r2 d h
      exact ⟨v, by rw [valV_neg (by rw [e1]; exact hk)]; exact h3, h4⟩
theorem any_keys (k : Key) : ∀ (kvs : List (Key × D)) (l : List (Key × V)), l.map (·.1) = kvs.map (·.1) → (l.any fun p => decide (p.1 = k)) = (kvs.any fun p => decide (p.1 = k))
  | [], [], _ => rfl
  | [], _ :: _, h => by cases h
  | _ :: _, [], h => by cases h
  | p :: kvs, q :: l, h => by
    rw [List.map_cons, List.map_cons] at h
    injection h with e1 e2
    rw [List.any_cons, List.any_cons, e1, any_keys k kvs l e2]
theorem dk_repl (k : Key) {d : D} {v : V} (rd : RD G ρ η H d v) : ∀ (kvs : List (Key × D)) (l : List (Key × V)), l.map (·.1) = kvs.map (·.1) → RDs G ρ η H (kvs.map (·.2)) (l.map (·.2)) →
    (l.map fun p => if p.1 = k then (p.1, v) else p).map (·.1) = (kvs.map fun p => if p.1 = k then (p.1, d) else p).map (·.1) ∧ RDs G ρ η H ((kvs.map fun p => if p.1 = k then (p.1, d) else p).map (·.2)) ((l.map fun p => if p.1 = k then (p.1, v) else p).map (·.2))
  | [], [], _, h => ⟨rfl, h⟩
  | [], _ :: _, h, _ => by cases h
  | _ :: _, [], h, _ => by cases h
  | p :: kvs, q :: l, h1, h2 => by
    rw [List.map_cons, List.map_cons] at h1 h2
    injection h1 with e1 e2
    obtain ⟨r1, r2⟩ := h2.cons_of
    obtain ⟨a, b⟩ := dk_repl k rd kvs l e2 r2
    by_cases hk : p.1 = k
    · have hq : q.1 = k := by rw [e1]; exact hk
      simp only [List.map_cons, if_pos hk, if_pos hq]
      exact ⟨by rw [a, e1], RDs.cons rd b⟩
    · have hq : ¬ q.1 = k := by rw [e1]; exact hk
      simp only [List.map_cons, if_neg hk, if_neg hq]
      exact ⟨by rw [a, e1], RDs.cons r1 b⟩
theorem dk_put (k : Key) {d : D} {v : V} (rd : RD G ρ η H d v) {kvs : List (Key × D)} {l : List (Key × V)} (h1 : l.map (·.1) = kvs.map (·.1)) (h2 : RDs G ρ η H (kvs.map (·.2)) (l.map (·.2))) :
    (putK l k v).map (·.1) = (putKD kvs k d).map (·.1) ∧ RDs G ρ η H ((putKD kvs k d).map (·.2)) ((putK l k v).map (·.2)) := by
  unfold putK putKD
  rw [any_keys k kvs l h1]
  split
  · exact dk_repl k rd kvs l h1 h2
  · refine ⟨by rw [List.map_append, List.map_append, h1]; rfl, ?_⟩
    rw [List.map_append, List.map_append]
    exact RDs.append h2 (RDs.cons rd RDs.nil)
theorem dk_drop (k : Key) : ∀ (kvs : List (Key × D)) (l : List (Key × V)), l.map (·.1) = kvs.map (·.1) → RDs G ρ η H (kvs.map (·.2)) (l.map (·.2)) →
    (dropK l k).map (·.1) = (dropKD kvs k).map (·.1) ∧ RDs G ρ η H ((dropKD kvs k).map (·.2)) ((dropK l k).map (·.2))
  | [], [], _, h => ⟨rfl, h⟩
  | [], _ :: _, h, _ => by cases h
  | _ :: _, [], h, _ => by cases h
  | p :: kvs, q :: l, h1, h2 => by
    rw [List.map_cons, List.map_cons] at h1 h2
    injection h1 with e1 e2
    obtain ⟨r1, r2⟩ := h2.cons_of
    obtain ⟨a, b⟩ := dk_drop k kvs l e2 r2
    unfold dropK dropKD at a b ⊢
    by_cases hk : p.1 = k
    · have hq : q.1 = k := by rw [e1]; exact hk
      rw [List.filter_cons_of_neg (by simp [hk, hq]), List.filter_cons_of_neg (by simp [hk, hq])]
      exact ⟨a, b⟩
    · have hq : ¬ q.1 = k := by rw [e1]; exact hk
      rw [List.filter_cons_of_pos (by simp [hk, hq]), List.filter_cons_of_pos (by simp [hk, hq]), List.map_cons, List.map_cons, List.map_cons, List.map_cons]
      exact ⟨by rw [a, e1], RDs.cons r1 b⟩
theorem dk_at {S : Sto} {x : D} {v : V} {n : Nat} {kvs : List (Key × D)} (rs : RS G ρ η H S) (rx : RD G ρ η H x v) (h : dkS x S = some (n, kvs)) :
    ∃ a l, v = .ref a ∧ ρ[n]? = some a ∧ H a = some (.dK l) ∧ l.length ≤ sizeLine ∧ l.map (·.1) = kvs.map (·.1) ∧ RDs G ρ η H (kvs.map (·.2)) (l.map (·.2)) := by
  unfold dkS at h
  split at h
  · split at h
    · rename_i kvs' hn
      cases h
      rw [RD] at rx
      obtain ⟨a, ha, rfl⟩ := rx
      obtain ⟨l, h1, h2, h3, h4⟩ := rs.ob n a _ ha hn
      exact ⟨a, l, rfl, ha, h1, h2, h3, h4⟩
    · cases h
  · cases h
theorem dk_write {S : Sto} {n : Nat} {a : Addr} {kvs : List (Key × D)} {l : List (Key × V)} (rs : RS G ρ η H S) (ha : ρ[n]? = some a) {l0 : List (Key × V)} (e : H a = some (.dK l0)) (hl : l.length ≤ sizeLine) (h1 : l.map (·.1) = kvs.map (·.1)) (h2 : RDs G ρ η H (kvs.map (·.2)) (l.map (·.2))) :
    Ext ρ H ρ (upd H a (.dK l)) ∧ RS G ρ η (upd H a (.dK l)) (S.set n (.dk kvs)) := by
  have nz : ∀ o u, H a ≠ some (.frz o u) := fun o u z => by rw [e] at z; cases z
  have ex : Ext ρ H ρ (upd H a (.dK l)) := ⟨⟨[], by simp⟩, fun b o hb nb _ => ⟨by rw [upd_ne (fun (z : b = a) => nb (by rw [z]; exact List.mem_of_getElem? ha))]; exact hb, nb⟩, fun b w y q => by rw [upd_ne (fun (z : b = a) => nz w y (z ▸ q))]; exact q⟩
  have ro : RO G ρ η (upd H a (.dK l)) a (.dk kvs) := ⟨l, upd_same, hl, h1, h2.ext ex⟩
  exact ⟨ex, (rs.write ha ro nz).1⟩
end
section
variable {G : Gm} {X : Cx} {W : WX} {pos p2 : Pos} {a b o i : Expr} {fa fb fo fi : FE} {k0 : Nat}
/-! ### d[k] -/
def rIxDk : R2 := fun x y H Q => ∃ a kvs k v, x = .ref a ∧ H a = some (.dK kvs) ∧ y = kV k ∧ valV kvs k = some v ∧ Q v H
theorem ix_dk (hu : X.A.units + 64 < cLine) : IxR X rIxDk := by
  intro value slice pins s σ H x y v u Q I rx ry h hs
  obtain ⟨a, kvs, k, w, rfl, e, rfl, hv, q⟩ := h
  cases (show v = Value.ref a from rx)
  have g : DGet H a (kV k) (some w) := by rw [← hv]; exact DGet.k e
  exact PyProof.Rows.tail_any (dict_typeIs I g) PySem.F.slot_dict_getitem.lookup (d_getItem (by omega) I g ry fun w' s' I' rw' => ⟨w, H, I', rw', q⟩) hs
def opIxDk (x y : D) (S : Sto) : Option D := match dkS x S, y with
  | some (_, kvs), .int j => getKD kvs (.inl j)
  | _, _ => none
theorem lnk_ixDk : Lnk G rIxDk opIxDk := by
  intro ρ η H S x y u v d Q rs rx ry h k
  unfold opIxDk at h
  split at h
  · rename_i n kvs j hd
    obtain ⟨a, l, rfl, ha, e, hl, h1, h2⟩ := dk_at rs rx hd
    obtain ⟨w, h3, h4⟩ := dk_get (.inl j) kvs l h1 h2 d h
    rw [RD] at ry
    exact ⟨a, l, .inl j, w, rfl, e, ry, h3, k H w (Same.refl H) h4⟩
  · cases h
theorem je_ixDk [F : Fits G X] (h : Here X W k0) (ha : JE G X W a fa) (hb : JE G X W b fb) (hs : PlainIx b := by exact fun _ _ => rfl) : JE G X W (.Subscript a b pos) (fBin opIxDk fa fb) :=
  je_ixR (ix_dk (here_hu h)) lnk_ixDk ha hb hs
/-! ### d[k] = v -/
def rSetDk : TSet := fun o i v H Q => ∃ a kvs k, o = .ref a ∧ H a = some (.dK kvs) ∧ kvs.length < sizeLine ∧ i = kV k ∧ Q (upd H a (.dK (putK kvs k v)))
theorem set_dk (hu : X.A.units + 64 < cLine) : PSet X rSetDk := by
  intro pins s σ H o i v ov iv u Q I ro ri rv h
  obtain ⟨a, kvs, k, rfl, e, hl, rfl, q⟩ := h
  cases (show ov = Value.ref a from ro)
  exact d_setItem (by omega) I (DPut.k e hl) ri rv fun s' I' => ⟨_, I', q⟩
def opSetDk (o i d : D) (S : Sto) : Option Sto := match dkS o S, i with
  | some (n, kvs), .int j => if fewer kvs.length then some (S.set n (.dk (putKD kvs (.inl j) d))) else none
  | _, _ => none
theorem lnk_setDk : LnkSet G rSetDk opSetDk := by
  intro ρ η H S x y z u v w S' Q rs rx ry rz h k
  unfold opSetDk at h
  split at h
  · rename_i n kvs j hd
    split at h
    · rename_i hf
      cases h
      obtain ⟨a, l, rfl, ha, e, hl, h1, h2⟩ := dk_at rs rx hd
      obtain ⟨h3, h4⟩ := dk_put (.inl j) rz h1 h2
      have hlen : l.length = kvs.length := by
        have := congrArg List.length h1
        simpa using this
      have hlt : l.length < sizeLine := by rw [hlen]; exact lt_line hf
      rw [RD] at ry
      obtain ⟨ex, rs'⟩ := dk_write (kvs := putKD kvs (.inl j) z) (l := putK l (.inl j) w) rs ha e (Nat.le_trans (length_putK l _ w) hlt) h3 h4
      exact ⟨a, l, .inl j, rfl, e, hlt, ry, k _ ex rs'⟩
    · cases h
  · cases h
theorem jg_setDk [F : Fits G X] (h : Here X W k0) (ho : JE G X W o fo) (hi : JE G X W i fi)
    (ha : ∀ v, assign (.Subscript o i pos) X.env v = (do
      let ov ← holding [v] (eval o X.env)
      let iv ← holding [v, ov] (eval i X.env)
      standAt pos
      holding [v, ov, iv] (setItem ov iv v)
      release [v, ov, iv] []) := by intro _; rfl) : JG G X (.Subscript o i pos) (gSub opSetDk fo fi) :=
  jg_sub (set_dk (here_hu h)) lnk_setDk ho hi ha
/-! ### {} -/
def fDk : FE := fun _ S => .ok (.ref S.length) (S ++ [.dk []])
theorem je_dk : JE G X W (.Dict [] [] pos) fDk := by
  refine ⟨PE.weak pe_dnewK ?_⟩
  rintro σ H Q ⟨ρ, η, σd, S, rσ, rs, p⟩
  intro a ha
  have sm : Same H (upd H a (.dK [])) := fun b u e => by rw [upd_ne (ne_of_none e ha)]; exact e
  have rs1 := rs.hide ha sm ⟨_, upd_same, fun _ z => nomatch z⟩
  have nt : ∀ o vs, (upd H a (.dK [])) a ≠ some (.frz o (.tup vs)) := fun o vs z => by
    rw [upd_same] at z
    cases z
  have na : a ∉ η := (rs.fresh ha).2
  have ro : RO G (ρ ++ [a]) η (upd H a (.dK [])) a (.dk []) := ⟨[], upd_same, Nat.zero_le _, rfl, RDs.nil⟩
  refine p (ρ ++ [a]) _ (.ref a) (ext_adopt rs (Ext.of_same sm) (Nul.of ha)) (rs1.adopt na nt (fun l z => by rw [upd_same] at z; cases z) ro) ?_
  rw [RD]
  exact ⟨a, by rw [← rs.len, List.getElem?_append_right (Nat.le_refl _)]; simp, rfl⟩
/-! ### d.pop(k) -/
def fPopDk (fo fe : FE) : FE := fun σ S => (fo σ S).bind fun x S1 => if (dkS x S1).isSome = true then (fe σ S1).bind fun y S2 => match dkS x S2, y with
  | some (n, kvs), .int j => (match getKD kvs (.inl j) with
    | some d => .ok d (S2.set n (.dk (dropKD kvs (.inl j))))
    | none => .stuck)
  | _, _ => .stuck else .stuck
theorem je_popDk {apos cpos : Pos} {e : Expr} {fe : FE} (ho : JE G X W o fo) (he : JE G X W e fe)
    (base : attributeBase o "pop" X.env (eval o X.env) = eval o X.env := by rfl)
    (few : ((backTo cpos (starEach [e] X.env)).all (fun x => !x.1) && (backToKw cpos (keywordEach [] X.env)).all (fun x => x.1.isSome) && decide (([e] : List Expr).length + ([] : List Keyword).length + (if ([] : List Keyword).isEmpty then 0 else 1) < 30)) = true := by rfl)
    (line : (apos.endLine == cpos.line) = true := by rfl) (trees : backTo cpos (starEach [e] X.env) = [(false, eval e X.env)] := by rfl) :
    JE G X W (.Call (.Attribute o "pop" apos) [e] [] cpos) (fPopDk fo fe) := by
  refine ⟨PE.weak (pe_dpop1 ho.pe he.pe ⟨base, few, line, trees⟩) ?_⟩
  rintro σ H Q ⟨ρ, η, σd, S, rσ, rs, p⟩
  refine LE.of rσ rs p fun x S1 ρ1 H1 u e1 rσ1 rs1 rx p1 => ?_
  cases hd : dkS x S1 with
  | none =>
    rw [hd] at p1
    exact p1.elim
  | some q =>
    obtain ⟨n, kvs⟩ := q
    rw [hd] at p1
    obtain ⟨a, l, rfl, ha, eH, hl, h1, h2⟩ := dk_at rs1 rx hd
    refine ⟨a, rfl, .inl ⟨l, .inl eH⟩, ?_⟩
    refine LE.of rσ1 rs1 p1 fun y S2 ρ2 H2 w e2 rσ2 rs2 ry p2 => ?_
    have rx2 := rx.ext e2
    cases hd2 : dkS x S2 with
    | none => rw [hd2] at p2; exact p2.elim
    | some q2 =>
      obtain ⟨n2, kvs2⟩ := q2
      rw [hd2] at p2
      obtain ⟨a2, l2, ea, ha2, eH2, hl2, h3, h4⟩ := dk_at rs2 rx2 hd2
      cases ea
      cases y with
      | int j =>
        dsimp only at p2
        cases hg : getKD kvs2 (.inl j) with
        | none => rw [hg] at p2; exact p2.elim
        | some d =>
          rw [hg] at p2
          obtain ⟨v, g1, g2⟩ := dk_get (.inl j) kvs2 l2 h3 h4 d hg
          obtain ⟨g3, g4⟩ := dk_drop (.inl j) kvs2 l2 h3 h4
          obtain ⟨ex, rs'⟩ := dk_write (kvs := dropKD kvs2 (.inl j)) (l := dropK l2 (.inl j)) rs2 ha2 eH2 (Nat.le_trans (dropK_le l2 _) hl2) g3 g4
          rw [RD] at ry
          exact ⟨l2, .inl j, v, eH2, ry, g1, p2 ρ2 _ v ((e1.trans e2).trans ex) rs' (g2.ext ex)⟩
      | _ => exact p2.elim
end
end Fx

/-! Fx35: list(d.values()) of a dict by ints. -/
namespace Fx
open PySem PySem.Spec L2
def ViewO (p a : Addr) : HO := .ext fun h => h.IsValuesView p a
def tDVals (td : TE) : TE := fun σ H Q => td σ H fun x H1 => ∃ a kvs, x = .ref a ∧ H1 a = some (.dK kvs) ∧ ∀ p, H1 p = none → Q (.ref p) (upd H1 p (ViewO p a))
theorem pe_dvals {X : Cx} {e : Expr} {td : TE} {apos cpos : Pos} (he : PE X e td) (hbase : attributeBase e "values" X.env (eval e X.env) = eval e X.env := by rfl) (hline : (apos.endLine == cpos.line) = true := by rfl) : PE X (.Call (.Attribute e "values" apos) [] [] cpos) (tDVals td) := by
  refine ⟨fun pins s σ H Q I h => ?_⟩
  refine wpAny_Call_method (T := "dict") (id := "dict.values") hbase rfl hline F.plainAttrs_dict F.slot_dict_values F.type_dict_values (thn (he.run pins s σ H _ I h) fun u s1 ⟨x, H1, I1, rx, a, kvs, ex, e, q⟩ => ?_)
  subst ex
  obtain rfl : u = Value.ref a := rx
  obtain ⟨z, hd, vs, rel, dd⟩ := dk_of I1.hok e
  refine ⟨dd.typeIs, dd.mapOf.noDict, ?_⟩
  have fin : EP X pins σ Q (.ref s1.heap.objs.size) { s1 with heap := s1.heap.push { cls := .type "dict_values", data := .fields #[.ref a] } } := by
    refine ⟨.ref s1.heap.objs.size, _, I1.laid (t' := s1.toks) (o := ViewO s1.heap.objs.size a) (fun b ob q => Heap.get?_push_of_some _ q) (Nat.le_refl _) ?_, rfl, q _ (I1.hok.fresh (Nat.le_refl _))⟩
    refine ⟨⟨_, Heap.get?_push_size _ rfl, rfl, rfl⟩, ⟨_, Heap.get?_push_size _ rfl⟩, fun h1 h2 hq hk => ?_⟩
    obtain ⟨o, g1, g2, g3⟩ := hq
    exact ⟨o, hk _ g1, g2, g3⟩
  show wpAny _ _ (callWith cpos (.builtin "dict.values") [.ref a] [] []) _ X.xe s1
  exact method_meetsIn F.slot_dict_values F.entry_dict_values rfl (PySem.evalArgs_none ⟨rfl, dd.typeIs, F.args_dict_values_1 _, _, meets_dict_values (mixKind X.prog X.w) a hd, ⟨vs, dd⟩, fin⟩)
def rListVals : List V → Hp → VK → Prop := fun vs H Q => ∃ p a kvs, vs = [.ref p] ∧ H p = some (ViewO p a) ∧ H a = some (.dK kvs) ∧ ∀ q, H q = none → Q (.ref q) (upd H q (.lst (kvs.map (·.2))))
theorem vals_of : ∀ (kvs : List (Key × V)) (vs : List (Key × Value)) (acc : List Value), KV kvs vs → acc.length = vs.length → (∀ (j : Nat) v, acc[j]? = some v → ∃ k, vs[j]? = some (k, v)) → Vals (kvs.map (·.2)) acc
  | _, _, acc, .nil, hl, _ => by
    cases acc with
    | nil => exact .nil
    | cons _ _ => simp at hl
  | _, _, acc, .cons r t, hl, h => by
    cases acc with
    | nil => simp at hl
    | cons v acc =>
      obtain ⟨k, hk⟩ := h 0 v rfl
      have hk' := Option.some.inj hk
      refine .cons ?_ (vals_of _ _ acc t (by simpa using hl) fun j w hj => h (j + 1) w hj)
      have : RelV _ _ := r.2
      rw [hk'] at this
      exact this
theorem call_listVals {X : Cx} (hc : X.calm = true) : CallR X (.type "list") rListVals := by
  intro pins s σ H vs us Q I r h
  obtain ⟨p, a, kvs, rfl, hp, ha, q⟩ := h
  obtain ⟨u, rfl, ru⟩ := r.one
  cases (show u = Value.ref p from ru)
  obtain ⟨z, hd, ws, rel, dd⟩ := dk_of I.hok ha
  obtain ⟨ep, dat⟩ := dd.dictAt
  have view := (show s.heap.IsValuesView p a ∧ _ from I.hok p _ hp).1
  have hlen : kvs.length = ws.length := rel.length
  refine PySem.W.kdl_call (PySem.W.kdl_values (knd := mixKind X.prog X.w)) (I.ok.hd hc) ⟨view, dat⟩ (by rw [← hlen]; exact z) fun h' tk acc c kp e it => ?_
  have hv : Vals (kvs.map (·.2)) acc.toList := vals_of kvs ws acc.toList rel (by rw [Array.length_toList]; exact it.1) fun j v hj => it.2 j v (by rw [← Array.getElem?_toList]; exact hj)
  refine ⟨.ref s.heap.objs.size, _, I.laid (t' := tk) (o := .lst (kvs.map (·.2))) kp (Nat.le_refl _) ⟨?_, acc.toList, c, hv, by rw [Array.toArray_toList]; exact e⟩, rfl, q _ (I.hok.fresh (Nat.le_refl _))⟩
  rw [List.length_map]
  exact z
def fValsL (fo : FE) : FL := fun σ S => (fo σ S).bind fun x S1 => match dkS x S1 with
  | some (_, kvs) => .ok (kvs.map (·.2)) S1
  | none => .stuck
section
variable {G : Gm} {X : Cx} {W : WX} {o : Expr} {fo : FE} {p pos apos cpos : Pos}
theorem jl_valsDk (hc : X.calm = true) (hm : X.mg "list" = none) (ho : JE G X W o fo) (hg : Gl X "list" := by rfl)
    (hbase : attributeBase o "values" X.env (eval o X.env) = eval o X.env := by rfl) (hline : (apos.endLine == cpos.line) = true := by rfl)
    (he : starEach [.Call (.Attribute o "values" apos) [] [] cpos] X.env = (false, eval (.Call (.Attribute o "values" apos) [] [] cpos) X.env) :: starEach [] X.env := by rfl) (hpl : (backTo pos (starEach [] X.env)).any (·.1) = false := by rfl) :
    JL G X W (.Call (.Name "list" p) [.Call (.Attribute o "values" apos) [] [] cpos] [] pos) (fValsL fo) := by
  refine ⟨PE.weak (pe_callTy (call_listVals hc) hg hm PyProof.Rows.boot_list (pa_cons (pe_dvals ho.pe hbase hline) pa_nil) (by decide) rfl he hpl) ?_⟩
  rintro σ H Q ⟨ρ, η, σd, S, rσ, rs, pp⟩
  refine LE.of rσ rs pp fun x S1 ρ1 H1 u e1 rσ1 rs1 rx p1 => ?_
  cases hd : dkS x S1 with
  | none => rw [hd] at p1; exact p1.elim
  | some q =>
    obtain ⟨n, kvs⟩ := q
    rw [hd] at p1
    obtain ⟨a, l, rfl, ha, eH, hl, h1, h2⟩ := dk_at rs1 rx hd
    refine ⟨a, l, rfl, eH, fun v hv => ?_⟩
    have sm : Same H1 (upd H1 v (ViewO v a)) := fun b w e => by rw [upd_ne (ne_of_none e hv)]; exact e
    refine ⟨v, a, l, rfl, upd_same, sm _ _ eH, fun q hq => ?_⟩
    have rs2 : RS G ρ1 η (upd H1 v (ViewO v a)) S1 := rs1.same sm
    have e2 := e1.trans (Ext.of_same sm)
    exact newList (fun b hb => rs2.somes b (e2.mem hb)) e2 rs2 (h2.ext (Ext.of_same sm)) (by rw [List.length_map]; exact hl) hq p1
end
section
variable {fo fe : FE} {σ : Sl} {S : Sto}
@[simp] theorem xDk : fDk σ S = .ok (.ref S.length) (S ++ [.dk []]) := rfl
def kPop2 (x y : D) (S2 : Sto) : Out D := match dkS x S2, y with
  | some (n, kvs), .int j => (match getKD kvs (.inl j) with
    | some d => .ok d (S2.set n (.dk (dropKD kvs (.inl j))))
    | none => .stuck)
  | _, _ => .stuck
def kPop1 (fe : FE) (σ : Sl) (x : D) (S1 : Sto) : Out D := if (dkS x S1).isSome = true then (fe σ S1).bind (kPop2 x) else .stuck
@[simp] theorem xPopDk : fPopDk fo fe σ S = (fo σ S).bind (kPop1 fe σ) := rfl
@[simp] theorem kPop1_ {x : D} : kPop1 fe σ x S = if (dkS x S).isSome = true then (fe σ S).bind (kPop2 x) else .stuck := rfl
def kVals (x : D) (S1 : Sto) : Out (List D) := match dkS x S1 with
  | some (_, kvs) => .ok (kvs.map (·.2)) S1
  | none => .stuck
@[simp] theorem xValsL : fValsL fo σ S = (fo σ S).bind kVals := rfl
end
end Fx

/-! Fx36: list.sort and sorted with a key, over Inv. -/
namespace Fx
open PySem PySem.Spec L2 LamX PyProof.Rows
section
variable {X : Cx} {pins : List (Addr × Obj)} {σ : L2.St} {A : Around} {E : Value → Shared → Prop} {a kS : Addr} {vs : List Value} {kz : List Int} {keys : Array Value} {e1 : Nat} {R : Nat → Hp → Prop}
/-- a record of ours is pinned -/
theorem Inv.pin1 {H : Hp} {s : Shared} {a : Addr} {o : Obj} (I : Inv X pins σ H s) (f : FpOk X pins H a) (h : s.heap.get? a = some o) (hd : ∀ v, o.data ≠ .cell v) : Inv X ((a, o) :: pins) σ H s :=
  I.pins_of fun p hp => (List.mem_cons.mp hp).elim (fun z => by subst z; exact ⟨h, f.1, f.2.1, f.2.2.1, hd⟩) fun z => I.pin p (List.mem_append_right _ z)
theorem Inv.unpin1 {H : Hp} {s : Shared} {q : Addr × Obj} (I : Inv X (q :: pins) σ H s) : Inv X pins σ H s := I.pins_of fun p hp => I.pin p (List.mem_append_right _ (List.mem_cons_of_mem _ hp))
/-- the standing of a record of ours, apart from the abstract heap -/
def Own1 (X : Cx) (pins : List (Addr × Obj)) (b : Addr) : Prop :=
  b ≠ X.env.locals ∧ b ∉ X.fs ∧ (b ∈ X.ex ∨ X.s_0.heap.objs.size ≤ b) ∧ (∀ x c, X.env.cells.lookup x = some c → c ≠ b) ∧ ∀ p ∈ X.pn ++ pins, p.1 ≠ b
theorem own1_cons {q : Addr × Obj} {b : Addr} (h : Own1 X pins b) (n : q.1 ≠ b) : Own1 X (q :: pins) b :=
  ⟨h.1, h.2.1, h.2.2.1, h.2.2.2.1, fun p hp => (List.mem_append.mp hp).elim (fun z => h.2.2.2.2 p (List.mem_append_left _ z)) fun z => (List.mem_cons.mp z).elim (fun e => e ▸ n) fun z => h.2.2.2.2 p (List.mem_append_right _ z)⟩
/-- what is wanted of the key function at each item -/
def KeyTurn (X : Cx) (pins : List (Addr × Obj)) (σ : L2.St) (A : Around) (f : Value) (vs : List Value) (kz : List Int) (R : Nat → Hp → Prop) : Prop :=
  ∀ (i : Nat) (v : Value) (k : Int), vs[i]? = some v → kz[i]? = some k → ∀ (own : List (Addr × Obj)) (s : Shared) (H : Hp), Inv X (own ++ pins) σ H s → R i H →
    wpAny (model X.prog X.w) A (call f [v]) (fun r s' => ∃ t H', r = .int k t ∧ Inv X (own ++ pins) σ H' s' ∧ R (i + 1) H') (fun _ _ => False) s
theorem ksi_tail {st : SortSt} {H : Hp} {s : Shared} {e : Nat} {P : PySem.Fin → Shared → Prop} (I : Inv X ((kS, seqObj "list" keys e) :: (a, seqObj "list" #[] e1) :: pins) σ H s) (ok : Own1 X pins kS) (oa : Own1 X pins a) (hka : kS ≠ a)
    (hk : IntsAre keys.toList kz) (hlen : kz.length = vs.length) (hZ : vs.length ≤ sizeLine) (hp : (arrOf st).Perm (keys.zip vs.toArray)) (hs : SortedTo (arrOf st) (arrOf st).size) (hfl : failedOf st = none)
    (hst : Stable intKind (arrOf st) (keys.zip vs.toArray))
    (h : ∀ (s' : Shared) (out : Array Value) (c : Nat), Inv X pins σ H s' → H a = none → s'.heap.get? a = some (seqObj "list" out c) → KskOutSt false kz vs out.toList → P (.done (.ret .none)) s') :
    wpAny (model X.prog X.w) A (ksk_tail a false e1 (.ref kS) st) P E s := by
  have hZ2 := hZ
  rw [sizeLine_eq] at hZ2
  have pk := I.pin (kS, seqObj "list" keys e) (List.mem_append_right _ (.head _))
  have pa := I.pin (a, seqObj "list" #[] e1) (List.mem_append_right _ (.tail _ (.head _)))
  have hsz : keys.size = vs.length := by
    have h1 := hk.length
    rw [Array.length_toList] at h1
    omega
  have hsz2 : (arrOf st).size = vs.length := by rw [hp.size_eq, Array.size_zip, hsz, List.size_toArray, Nat.min_self]
  have hout : ((arrOf st).map (·.2)).size = vs.length := by simp only [Array.size_map]; exact hsz2
  have s1 := Heap.SameBut.update s.heap kS (Obj.mapSeq fun _ => (#[] : Array Value))
  have na1 : (s.heap.update kS (Obj.mapSeq fun _ => (#[] : Array Value))).get? a = some (seqObj "list" #[] e1) := (s1.2 a hka.symm).trans pa.1
  have s2 := Heap.SameBut.update (s.heap.update kS (Obj.mapSeq fun _ => (#[] : Array Value))) a (Obj.mapSeq fun _ => (arrOf st).map (·.2))
  obtain ⟨c2, hc2⟩ : ∃ c2, ((s.heap.update kS (Obj.mapSeq fun _ => (#[] : Array Value))).update a (Obj.mapSeq fun _ => (arrOf st).map (·.2))).get? a = some (seqObj "list" ((arrOf st).map (·.2)) c2) :=
    ⟨_, get?_update_seq na1 fun _ => (arrOf st).map (·.2)⟩
  have I0 := Inv.unpin1 (Inv.unpin1 I)
  unfold ksk_tail
  try dsimp only
  refine wpAny_bind (listUpdate_at pk.1 rfl ?_ (by rw [hsz, sizeLine_eq]; omega) (Nat.zero_le _))
  refine wpAny_bind (wpAny_letGo ?_)
  refine wpAny_bind (seqEpoch_at na1 rfl ?_)
  refine wpAny_bind (listUpdate_at na1 rfl ?_ (Nat.zero_le _) (Nat.le_trans (Nat.le_of_eq hout) (by rw [sizeLine_eq]; omega)))
  rw [hfl]
  simp only [bne_self_eq_false, Bool.false_eq_true, if_false]
  refine wpAny_pure (h _ _ c2 ?_ pa.2.1 hc2 (ksk_outSt (b := false) hk hp hs hst))
  refine I0.turnedL (ch := [kS, a]) (fun b o hb q => ?_) fun b hb => ?_
  · have h1 : b ≠ kS := fun z => hb (by simp [z])
    have h2 : b ≠ a := fun z => hb (by simp [z])
    exact (s2.2 b h2).trans ((s1.2 b h1).trans q)
  · rcases List.mem_cons.mp hb with z | z
    · subst z; exact ⟨pk.2.1, ok⟩
    · have : b = a := by simpa using z
      subst this; exact ⟨pa.2.1, oa⟩
theorem ksi_end {H : Hp} {s : Shared} {e : Nat} {P : PySem.Fin → Shared → Prop} (I : Inv X ((kS, seqObj "list" keys e) :: (a, seqObj "list" #[] e1) :: pins) σ H s) (ok : Own1 X pins kS) (oa : Own1 X pins a) (hka : kS ≠ a)
    (hk : IntsAre keys.toList kz) (hlen : kz.length = vs.length) (hZ : vs.length ≤ sizeLine)
    (h : ∀ (s' : Shared) (out : Array Value) (c : Nat), Inv X pins σ H s' → H a = none → s'.heap.get? a = some (seqObj "list" out c) → KskOutSt false kz vs out.toList → P (.done (.ret .none)) s') :
    wpAny (model X.prog X.w) A (ksk_end a false vs.toArray e1 (.ref kS) keys) P E s := by
  have hZ2 := hZ
  rw [sizeLine_eq] at hZ2
  have hsz : keys.size = vs.length := by
    have h1 := hk.length
    rw [Array.length_toList] at h1
    omega
  have hzs : (keys.zip vs.toArray).size = vs.length := by rw [Array.size_zip, hsz, List.size_toArray, Nat.min_self]
  unfold ksk_end
  simp only [Bool.false_eq_true, if_false, pure_bind]
  try dsimp only
  by_cases h2 : vs.toArray.size < 2
  · rw [if_pos h2, if_pos h2]
    refine wpAny_bind (wpAny_pure ?_)
    try dsimp only
    refine ksi_tail (st := SortSt.mk' general' (keys.zip vs.toArray) #[] 7 none) I ok oa hka hk hlen hZ (Array.Perm.refl _) ?_ rfl (Stable.refl _) h
    intro i j hij hj
    have hj2 : j < (keys.zip vs.toArray).size := hj
    rw [hzs] at hj2
    rw [List.size_toArray] at h2
    have : i = j := by omega
    subst this
    exact Int.le_refl _
  · rw [if_neg h2, if_neg h2]
    rw [List.size_toArray] at h2
    rw [ksk_kind hk (by rw [hsz]; omega)]
    refine wpAny_bind (wpAny_pure ?_)
    refine wpAny_bind (wpAny_mono (wpS_sortRunsSt (κ := intKind) (a₀ := keys.zip vs.toArray)
      (st := SortSt.mk' oneType' (keys.zip vs.toArray) #[] 7 none)
      (Q := fun _ st' => (arrOf st').Perm (keys.zip vs.toArray) ∧ failedOf st' = none ∧ SortedTo (arrOf st') (arrOf st').size ∧
        Stable intKind (arrOf st') (keys.zip vs.toArray))
      intKind_oneLt (ksk_keysOfInt (ksk_intKeys hk)) ⟨Array.Perm.refl _, rfl, rfl⟩ rfl (Stable.refl _) (by rw [hzs]; omega)
      fun st' a1 a2 a3 a4 => ⟨a1, a2, by rw [a1.size_eq]; exact sortedTo_of_int a3, a4⟩) ?_ fun _ _ e => e)
    rintro ⟨⟨⟩, st'⟩ s' ⟨rfl, hp, hf, hs, hst⟩
    try dsimp only
    exact ksi_tail I ok oa hka hk hlen hZ hp hs hf hst h
theorem ksi_rest {f : Value} {H : Hp} {s : Shared} {P : PySem.Fin → Shared → Prop} (I : Inv X ((kS, seqObj "list" #[] 0) :: (a, seqObj "list" #[] e1) :: pins) σ H s) (ok : Own1 X pins kS) (oa : Own1 X pins a) (hka : kS ≠ a)
    (hlen : kz.length = vs.length) (hZ : vs.length ≤ sizeLine) (turn : KeyTurn X pins σ A f vs kz R) (hR : R 0 H)
    (h : ∀ (s' : Shared) (H' : Hp) (out : Array Value) (c : Nat), Inv X pins σ H' s' → R vs.length H' → H' a = none → s'.heap.get? a = some (seqObj "list" out c) → KskOutSt false kz vs out.toList → P (.done (.ret .none)) s') :
    wpAny (model X.prog X.w) A (ksk_rest a f false vs.toArray e1 (.ref kS)) P E s := by
  have hZ2 := hZ
  rw [sizeLine_eq] at hZ2
  unfold ksk_rest
  refine wpAny_bind (wpAny_rule ?_)
  first
    | rw [List.forIn_toArray]
    | (rw [← Array.forIn_toList]; simp only [List.toList_toArray])
    | rw [← Array.forIn_toList]
  refine wpAny_bind (ksk_fold (fun i s' => ∃ H' kA e, Inv X ((kS, seqObj "list" kA e) :: (a, seqObj "list" #[] e1) :: pins) σ H' s' ∧ R i H' ∧ IntsAre kA.toList (kz.take i)) vs 0 s
    ⟨H, #[], 0, I, hR, by simpa using IntsAre.nil⟩ ?step ?done)
  case step =>
    rintro j x s' hx ⟨H', kA, e, I', hR', hk⟩
    simp only [Nat.zero_add] at hk hR' ⊢
    have hj : j < vs.length := (List.getElem?_eq_some_iff.mp hx).1
    obtain ⟨k, hkj⟩ : ∃ k, kz[j]? = some k := ⟨_, List.getElem?_eq_getElem (by omega)⟩
    have hz : kA.size ≤ vs.length := by
      have h1 := hk.length
      rw [Array.length_toList, List.length_take] at h1
      omega
    refine wpAny_bind (wpAny_attempt (wpAny_mono (turn j x k hx hkj [(kS, seqObj "list" kA e), (a, seqObj "list" #[] e1)] s' H' I' hR') (fun v s'' he => ?_) fun _ _ hF => hF.elim))
    obtain ⟨t2, H2, rfl, I2, hR2⟩ := he
    try dsimp only
    have I2 : Inv X ((kS, seqObj "list" kA e) :: (a, seqObj "list" #[] e1) :: pins) σ H2 s'' := I2
    have pk := I2.pin (kS, seqObj "list" kA e) (List.mem_append_right _ (.head _))
    have s1 := Heap.SameBut.update s''.heap kS (Obj.mapSeq (·.push (.int k t2)))
    obtain ⟨c2, hc2⟩ : ∃ c2, (s''.heap.update kS (Obj.mapSeq (·.push (.int k t2)))).get? kS = some (seqObj "list" (kA.push (.int k t2)) c2) := ⟨_, get?_update_seq pk.1 (·.push (.int k t2))⟩
    have ek : kz.take (j + 1) = kz.take j ++ [k] := by rw [List.take_add_one, hkj]; simp
    have ea : (kA.push (Value.int k t2)).toList = kA.toList ++ [Value.int k t2] := by simp
    refine wpAny_bind (listUpdate_at pk.1 rfl ?_ (by rw [sizeLine_eq]; omega) (Nat.le_trans (Nat.le_of_eq (Array.size_push ..)) (by rw [sizeLine_eq]; omega)))
    have fk : FpOk X ((a, seqObj "list" #[] e1) :: pins) H2 kS := ⟨pk.2.1, own1_cons ok (Ne.symm hka)⟩
    have I3 := (Inv.unpin1 I2).turnedL (h' := s''.heap.update kS (Obj.mapSeq (·.push (.int k t2)))) (t' := s''.toks) (ch := [kS]) (fun b o hb q => (s1.2 b fun z => hb (by simp [z])).trans q) fun b hb => by
      have : b = kS := by simpa using hb
      subst this; exact fk
    have I4 := Inv.pin1 I3 fk hc2 (fun v z => nomatch z)
    exact wpAny_pure ⟨rfl, H2, kA.push (.int k t2), c2, I4, hR2, by rw [ea, ek]; exact ksk_snoc hk⟩
  case done =>
    rintro s' ⟨H', kA, e, I', hR', hk⟩
    have hk' : IntsAre kA.toList kz := by
      have e3 : kz.take (0 + vs.length) = kz := List.take_of_length_le (by omega)
      rw [e3] at hk
      exact hk
    have pk := I'.pin (kS, seqObj "list" kA e) (List.mem_append_right _ (.head _))
    try dsimp only
    refine wpAny_bind (listItems_at pk.1 rfl ?_)
    exact ksi_end I' ok oa hka hk' hlen hZ fun s3 out c I3 n3 h3 k3 => h s3 H' out c I3 (by simpa using hR') n3 h3 k3
theorem ksi_sort {f : Value} {H : Hp} {s : Shared} {n : Nat} {P : PySem.Fin → Shared → Prop} (I : Inv X pins σ H s) (ho : s.heap.get? a = some (seqObj "list" vs.toArray n)) (fa : FpOk X pins H a)
    (hlen : kz.length = vs.length) (hZ : vs.length ≤ sizeLine) (turn : KeyTurn X pins σ A f vs kz R) (hR : R 0 H)
    (h : ∀ (s' : Shared) (H' : Hp) (out : Array Value) (c : Nat), Inv X pins σ H' s' → R vs.length H' → H' a = none → s'.heap.get? a = some (seqObj "list" out c) → KskOutSt false kz vs out.toList → P (.done (.ret .none)) s') :
    wpAny (model X.prog X.w) A (ksk_tree a f false) P E s := by
  have hZ2 := hZ
  rw [sizeLine_eq] at hZ2
  have ha : a < s.heap.objs.size := Heap.lt_size ho
  have s1 := Heap.SameBut.update s.heap a (Obj.mapSeq fun _ => (#[] : Array Value))
  obtain ⟨e1, ho1⟩ : ∃ e1, (s.heap.update a (Obj.mapSeq fun _ => (#[] : Array Value))).get? a = some (seqObj "list" #[] e1) := ⟨_, get?_update_seq ho fun _ => #[]⟩
  have I1 := I.turnedL (h' := s.heap.update a (Obj.mapSeq fun _ => (#[] : Array Value))) (t' := s.toks) (ch := [a]) (fun b o hb q => (s1.2 b fun z => hb (by simp [z])).trans q) fun b hb => by
    have : b = a := by simpa using hb
    subst this; exact fa
  have I2 := I1.kept (h' := (s.heap.update a (Obj.mapSeq fun _ => (#[] : Array Value))).push (seqObj "tuple" vs.toArray 0)) (t' := s.toks) fun b o q => Heap.get?_push_of_some _ q
  have I3 := I2.kept (h' := ((s.heap.update a (Obj.mapSeq fun _ => (#[] : Array Value))).push (seqObj "tuple" vs.toArray 0)).push (seqObj "list" #[] 0)) (t' := s.toks) fun b o q => Heap.get?_push_of_some _ q
  have nk : H ((s.heap.update a (Obj.mapSeq fun _ => (#[] : Array Value))).push (seqObj "tuple" vs.toArray 0)).objs.size = none := I2.hok.fresh (Nat.le_refl _)
  have fk := I2.fpOk (Nat.le_refl _) nk
  have hkS : ((s.heap.update a (Obj.mapSeq fun _ => (#[] : Array Value))).push (seqObj "tuple" vs.toArray 0)).objs.size = s.heap.objs.size + 1 := by rw [size_push', Heap.size_update]
  have hka : ((s.heap.update a (Obj.mapSeq fun _ => (#[] : Array Value))).push (seqObj "tuple" vs.toArray 0)).objs.size ≠ a := by rw [hkS]; exact Nat.ne_of_gt (Nat.lt_succ_of_lt ha)
  have J1 := Inv.pin1 I3 fa (Heap.get?_push_of_some _ (Heap.get?_push_of_some _ ho1)) (fun v z => nomatch z)
  have J2 := Inv.pin1 J1 ⟨nk, own1_cons fk.2 (Ne.symm hka)⟩ (Heap.get?_push_size _ rfl) (fun v z => nomatch z)
  unfold ksk_tree
  refine wpAny_bind (listItems_at ho rfl ?_)
  refine wpAny_bind (listUpdate_at ho rfl ?_ (by rw [List.size_toArray, sizeLine_eq]; omega) (Nat.zero_le _))
  refine wpAny_bind (seqEpoch_at ho1 rfl ?_)
  refine wpAny_bind (wpAny_newTuple ?_ (by show vs.length ≤ _; rw [sizeLine_eq]; omega))
  refine wpAny_bind (wpAny_newList ?_ (Nat.zero_le _))
  refine wpAny_holding ?_
  exact ksi_rest J2 fk.2 fa.2 hka hlen hZ turn hR h
end
end Fx

/-! Fx37: sorted(d, key=lambda row: ..) of a dict by tuples. -/
namespace Fx
open PySem PySem.Spec L2 LamX PyProof.Rows
/-! ### a stable order by keys -/
section
variable {α β : Type}
def insK (p : Int × α) : List (Int × α) → List (Int × α)
  | [] => [p]
  | q :: r => if p.1 ≤ q.1 then p :: q :: r else q :: insK p r
def sortK : List (Int × α) → List (Int × α)
  | [] => []
  | p :: r => insK p (sortK r)
theorem insK_perm (p : Int × α) : ∀ l : List (Int × α), (insK p l).Perm (p :: l)
  | [] => List.Perm.refl _
  | q :: r => by
    unfold insK
    split
    · exact List.Perm.refl _
    · exact ((insK_perm p r).cons q).trans (List.Perm.swap p q r)
theorem sortK_perm : ∀ l : List (Int × α), (sortK l).Perm l
  | [] => List.Perm.refl _
  | p :: r => (insK_perm p _).trans ((sortK_perm r).cons p)
theorem insK_sorted (p : Int × α) : ∀ {l : List (Int × α)}, l.Pairwise (fun a b => a.1 ≤ b.1) → (insK p l).Pairwise (fun a b => a.1 ≤ b.1)
  | [], _ => by unfold insK; simp
  | q :: r, h => by
    rw [List.pairwise_cons] at h
    unfold insK
    split
    · rename_i hp
      refine List.pairwise_cons.mpr ⟨fun b hb => ?_, List.pairwise_cons.mpr h⟩
      rcases List.mem_cons.mp hb with rfl | hb
      · exact hp
      · exact Int.le_trans hp (h.1 b hb)
    · rename_i hp
      refine List.pairwise_cons.mpr ⟨fun b hb => ?_, insK_sorted p h.2⟩
      rcases List.mem_cons.mp ((insK_perm p r).mem_iff.mp hb) with rfl | hb
      · omega
      · exact h.1 b hb
theorem sortK_sorted : ∀ l : List (Int × α), (sortK l).Pairwise (fun a b => a.1 ≤ b.1)
  | [] => List.Pairwise.nil
  | p :: r => insK_sorted p (sortK_sorted r)
theorem insK_filter (c : Int) (p : Int × α) : ∀ {l : List (Int × α)}, l.Pairwise (fun a b => a.1 ≤ b.1) → (insK p l).filter (fun q => q.1 == c) = (p :: l).filter (fun q => q.1 == c)
  | [], _ => rfl
  | q :: r, h => by
    rw [List.pairwise_cons] at h
    unfold insK
    split
    · rfl
    · rename_i hp
      rw [List.filter_cons, insK_filter c p h.2]
      by_cases h1 : p.1 = c
      · have h2 : ¬ q.1 = c := by omega
        simp [h1, h2]
      · simp [h1, List.filter_cons]
theorem sortK_filter (c : Int) : ∀ l : List (Int × α), (sortK l).filter (fun q => q.1 == c) = l.filter (fun q => q.1 == c)
  | [] => rfl
  | p :: r => by
    unfold sortK
    rw [insK_filter c p (sortK_sorted r), List.filter_cons, List.filter_cons, sortK_filter c r]
theorem sorted_eq : ∀ {l m : List (Int × α)}, l.Pairwise (fun a b => a.1 ≤ b.1) → m.Pairwise (fun a b => a.1 ≤ b.1) → (∀ c, l.filter (fun q => q.1 == c) = m.filter (fun q => q.1 == c)) → l = m
  | [], [], _, _, _ => rfl
  | [], q :: m, _, _, h => by have := h q.1; simp at this
  | p :: l, [], _, _, h => by have := h p.1; simp at this
  | p :: l, q :: m, h1, h2, h => by
    rw [List.pairwise_cons] at h1 h2
    have e : p.1 = q.1 := by
      have m1 : p ∈ (q :: m).filter (fun x => x.1 == p.1) := by rw [← h p.1]; simp
      have m2 : q ∈ (p :: l).filter (fun x => x.1 == q.1) := by rw [h q.1]; simp
      have a1 := (List.mem_filter.mp m1).1
      have a2 := (List.mem_filter.mp m2).1
      have b1 : q.1 ≤ p.1 := by
        rcases List.mem_cons.mp a1 with e | e
        · rw [e]; exact Int.le_refl _
        · exact h2.1 p e
      have b2 : p.1 ≤ q.1 := by
        rcases List.mem_cons.mp a2 with e | e
        · rw [e]; exact Int.le_refl _
        · exact h1.1 q e
      omega
    have e2 : p = q := by
      have := h p.1
      rw [List.filter_cons, List.filter_cons] at this
      simp only [beq_self_eq_true, e, if_true] at this
      exact (List.cons.inj this).1
    subst e2
    rw [sorted_eq h1.2 h2.2 fun c => ?_]
    have := h c
    rw [List.filter_cons, List.filter_cons] at this
    split at this
    · exact (List.cons.inj this).2
    · exact this
theorem insK_map (f : α → β) (p : Int × α) : ∀ l : List (Int × α), insK (p.1, f p.2) (l.map fun q => (q.1, f q.2)) = (insK p l).map fun q => (q.1, f q.2)
  | [] => rfl
  | q :: r => by
    show (if p.1 ≤ q.1 then (p.1, f p.2) :: (q.1, f q.2) :: r.map (fun q => (q.1, f q.2)) else (q.1, f q.2) :: insK (p.1, f p.2) (r.map fun q => (q.1, f q.2))) = (if p.1 ≤ q.1 then p :: q :: r else q :: insK p r).map fun q => (q.1, f q.2)
    by_cases h : p.1 ≤ q.1
    · rw [if_pos h, if_pos h]; rfl
    · rw [if_neg h, if_neg h, List.map_cons, insK_map f p r]
theorem sortK_map (f : α → β) : ∀ l : List (Int × α), sortK (l.map fun q => (q.1, f q.2)) = (sortK l).map fun q => (q.1, f q.2)
  | [] => rfl
  | p :: r => by
    show insK _ (sortK (r.map _)) = _
    rw [sortK_map f r, insK_map f p]
    rfl
theorem zip_map_r (f : α → β) : ∀ (kz : List Int) (xs : List α), kz.zip (xs.map f) = (kz.zip xs).map fun q => (q.1, f q.2)
  | [], _ => rfl
  | _ :: _, [] => rfl
  | k :: kz, x :: xs => by
    rw [List.map_cons, List.zip_cons_cons, zip_map_r f kz xs]
    rfl
/-- the things, ordered by their keys -/
def byK (kz : List Int) (xs : List α) : List α := (sortK (kz.zip xs)).map (·.2)
theorem byK_map (f : α → β) (kz : List Int) (xs : List α) : byK kz (xs.map f) = (byK kz xs).map f := by
  unfold byK
  rw [zip_map_r, sortK_map, List.map_map, List.map_map]
  rfl
theorem insK_paired {R : α → β → Prop} {p : Int × α} {q : Int × β} (h : p.1 = q.1 ∧ R p.2 q.2) : ∀ {l : List (Int × α)} {m : List (Int × β)}, Paired (fun a b => a.1 = b.1 ∧ R a.2 b.2) l m → Paired (fun a b => a.1 = b.1 ∧ R a.2 b.2) (insK p l) (insK q m)
  | _, _, .nil => .cons h .nil
  | a :: l, b :: m, .cons r t => by
    unfold insK
    rw [← h.1, ← r.1]
    split
    · exact .cons h (.cons r t)
    · exact .cons r (insK_paired h t)
theorem sortK_paired {R : α → β → Prop} : ∀ {l : List (Int × α)} {m : List (Int × β)}, Paired (fun a b => a.1 = b.1 ∧ R a.2 b.2) l m → Paired (fun a b => a.1 = b.1 ∧ R a.2 b.2) (sortK l) (sortK m)
  | _, _, .nil => .nil
  | _ :: _, _ :: _, .cons r t => insK_paired r (sortK_paired t)
theorem zip_paired {R : α → β → Prop} : ∀ (kz : List Int) {l : List α} {m : List β}, Paired R l m → Paired (fun (a : Int × α) (b : Int × β) => a.1 = b.1 ∧ R a.2 b.2) (kz.zip l) (kz.zip m)
  | [], _, _, _ => .nil
  | _ :: _, _, _, .nil => .nil
  | k :: kz, _, _, .cons r t => .cons ⟨rfl, r⟩ (zip_paired kz t)
theorem map2_paired {R : α → β → Prop} : ∀ {l : List (Int × α)} {m : List (Int × β)}, Paired (fun a b => a.1 = b.1 ∧ R a.2 b.2) l m → Paired R (l.map (·.2)) (m.map (·.2))
  | _, _, .nil => .nil
  | _ :: _, _ :: _, .cons r t => .cons r.2 (map2_paired t)
theorem byK_paired {R : α → β → Prop} (kz : List Int) {l : List α} {m : List β} (h : Paired R l m) : Paired R (byK kz l) (byK kz m) := map2_paired (sortK_paired (zip_paired kz h))
end
theorem kskOut_eq {kz : List Int} {vs out : List Value} (h : KskOutSt false kz vs out) : out = byK kz vs := by
  obtain ⟨ps, h1, h2, h3, h4⟩ := h
  have : ps = sortK (kz.zip vs) := sorted_eq (by simpa using h3) (sortK_sorted _) fun c => by rw [h4 c, sortK_filter]
  rw [h2, this]
  rfl
theorem byK_perm {α : Type} {kz : List Int} {xs : List α} (h : xs.length ≤ kz.length) : (byK kz xs).Perm xs := by
  have := (sortK_perm (kz.zip xs)).map (·.2)
  rw [List.map_snd_zip h] at this
  exact this
/-! ### the lambda with one name of its own -/
structure LamS1 (sc scope : Scope) (p : Str) : Prop where
  kind : scope.kind = .function
  co : scope.isCoroutine = false
  gen : scope.isGenerator = false
  own : ∀ y ∈ scope.names, y.2 ≠ .cell ∧ (y.2 = .local → y.1 = p)
  par : scope.names.lookup p = some .local
  free : ∀ y ∈ scope.names, y.2 = .free → sc.names.lookup y.1 = some .cell ∨ sc.names.lookup y.1 = some .free
def lamSB1 (sc scope : Scope) (p : Str) : Bool :=
  decide (scope.kind = .function) && !scope.isCoroutine && !scope.isGenerator && decide (scope.names.lookup p = some .local) &&
    scope.names.all fun y => !decide (y.2 = .cell) && (!decide (y.2 = .local) || decide (y.1 = p)) && (!decide (y.2 = .free) || decide (sc.names.lookup y.1 = some .cell) || decide (sc.names.lookup y.1 = some .free))
theorem lamS1_by {sc scope : Scope} {p : Str} (h : lamSB1 sc scope p = true) : LamS1 sc scope p := by
  unfold lamSB1 at h
  simp only [Bool.and_eq_true, Bool.or_eq_true, Bool.not_eq_true', decide_eq_true_eq, decide_eq_false_iff_not, List.all_eq_true] at h
  obtain ⟨⟨⟨⟨h1, h2⟩, h3⟩, h5⟩, h4⟩ := h
  refine ⟨h1, h2, h3, fun y hy => ⟨(h4 y hy).1.1, fun e => (h4 y hy).1.2.resolve_left fun z => z e⟩, h5, fun y hy e => ?_⟩
  rcases (h4 y hy).2 with (z | z) | z
  · exact absurd e z
  · exact .inl z
  · exact .inr z
theorem LamS1.has {X : Cx} {scope : Scope} {p : Str} (L : LamS1 X.env.scope scope p) (ok : X.Ok) : ∀ y ∈ scope.names, y.2 = .free → ∃ c, X.env.cells.lookup y.1 = some c := fun y hy e => by
  rcases L.free y hy e with k | k
  · exact ok.has _ (.inl k)
  · exact ok.has _ (.inr k)
/-- the context of the lambda's body: nothing is raised -/
def lamCx1 (X : Cx) (A : Around) (outer : List Env) (s : Shared) (H : Hp) (scope : Scope) (f c' : Addr) (p : Str) : Cx where
  prog := X.prog
  w := X.w
  K := X.K
  mg := X.mg
  base := X.base
  A := A.deeper (lamEnv X scope s.heap.objs.size f c')
  N := X.N ++ [p]
  s_0 := s
  H_0 := H
  env := lamEnv X scope s.heap.objs.size f c'
  outer := outer
  stack := lamEnv X scope s.heap.objs.size f c' :: outer
  ex := []
  fn := fun _ => false
  calm := true
  pn := []
  xe := fun _ _ => False
instance fits_lam1 {G : Gm} {X : Cx} [F : Fits G X] {A : Around} {outer : List Env} {s : Shared} {H : Hp} {scope : Scope} {f c' : Addr} {p : Str} : Fits G (lamCx1 X A outer s H scope f c' p) := ⟨F.P, F.w, F.K⟩
theorem here_lam1 {X : Cx} {A : Around} {outer : List Env} {s : Shared} {H : Hp} {scope : Scope} {f c' : Addr} {p : Str} {k : Nat} (hr : Room k (A.deeper (lamEnv X scope s.heap.objs.size f c'))) : Here (lamCx1 X A outer s H scope f c' p) W0 k :=
  ⟨hr, L2.takes0, PassesOwn.never⟩
section
variable {X : Cx} {pins : List (Addr × Obj)} {σ : L2.St} {H : Hp} {s : Shared}
theorem lam_start1 {A : Around} {outer : List Env} {scope : Scope} {f c' : Addr} {h₁ : Heap} {tk : Nat} {p : Str} {v : V} {u : Value} (I : Inv X pins σ H s) (L : LamS1 X.env.scope scope p) (e0 : Env0 X.prog X.w X.K X.mg X.base A outer s H) (hd : A.handled = none) (hp : p ∉ X.N) (rv : RelV v u)
    (hns : h₁.Ns s.heap.objs.size fun y => ([(p, u)] : List (Str × Value)).reverse.lookup y) (kp : ∀ b o, s.heap.get? b = some o → h₁.get? b = some o) :
    Inv (lamCx1 X A outer s H scope f c' p) [] (σ ++ [some v]) H { s with heap := h₁, toks := tk } := by
  have hfree := L.has I.ok
  have cm : ∀ {y c}, (cloFrom X.env.cells scope.names []).lookup y = some c → X.env.cells.lookup y = some c := fun {y c} e => by
    rcases cloFrom_mem (PySem.mem_of_lookup e) with hm | ⟨h1, h2⟩
    · cases hm
    · obtain ⟨c1, hc⟩ := hfree _ h1 rfl
      have hc : X.env.cells.lookup y = some c1 := hc
      have e2 : c = c1 := by
        rw [h2, hc] <;> rfl
      rw [e2]
      exact hc
  have look : ∀ {y}, scope.names.lookup y = some .free → ∃ c, (cloFrom X.env.cells scope.names []).lookup y = some c := fun {y} hl => by
    have hy : (y, NameKind.free) ∈ scope.names := PySem.mem_of_lookup hl
    exact mem_lookup (cloFrom_has (cells := X.env.cells) (acc := []) hy)
  have cellK : ∀ {c : Addr} {v : Option Value}, s.heap.IsCell c v → h₁.IsCell c v := fun {c v} ⟨o, ho, hd⟩ => ⟨o, kp _ _ ho, hd⟩
  have noA : ∀ b : Addr, b ∉ (lamCx1 X A outer s H scope f c' p).ex := fun b z => absurd (show b ∈ ([] : List Addr) from z) (by simp)
  refine ⟨⟨e0.mod, L.kind, rfl, rfl, Nat.le_refl _, fun y z c e1 e2 => I.ok.inj y z c (cm e1) (cm e2), fun y hy => ?_, fun y c z _ => ?_, fun _ => hd, Around.frames_deeper e0.frames, .inr ⟨rfl, rfl⟩, fun b z => absurd z (noA b), e0.bs, e0.bsz, fun b _ _ => noA b,
      fun b z => absurd z (noA b), e0.funs, e0.frf⟩,
    rfl, e0.bare, Un.kept kp, ⟨_, hns, fun i y w e1 e2 e3 => ?_⟩, fun y c e => ?_, e0.hok.fresh (Nat.le_refl _), fun y c e => I.freeC y c (cm e), fun q hq => absurd (show q ∈ ([] : List (Addr × Obj)) ++ [] from hq) (by simp), e0.hok.kept kp, ?_⟩
  · have hy : scope.names.lookup y = some .cell ∨ scope.names.lookup y = some .free := hy
    rcases hy with hy | hy
    · exact absurd rfl (L.own _ (PySem.mem_of_lookup hy)).1
    · exact look hy
  · have z : false = true := z
    cases z
  · have e3 : Vis scope y := e3
    have e1 : (X.N ++ [p])[i]? = some y := e1
    by_cases hi : i < X.N.length
    · rw [List.getElem?_append_left hi] at e1
      have hm : y ∈ X.N := List.mem_of_getElem? e1
      rw [List.getElem?_append_left (by rw [I.len]; exact hi)] at e2
      rcases e3 with k | k | k
      · exact absurd ((L.own _ (PySem.mem_of_lookup k)).2 rfl) fun z => hp (z ▸ hm)
      · exact absurd rfl (L.own _ (PySem.mem_of_lookup k)).1
      · obtain ⟨m, hn, hl⟩ := I.loc
        have hvis : Vis X.env.scope y := (L.free _ (PySem.mem_of_lookup k) rfl).elim (fun k => .inr (.inl k)) (fun k => .inr (.inr k))
        obtain ⟨w', r, q⟩ := hl i y w e1 e2 hvis
        obtain ⟨c2, h2⟩ := look k
        refine ⟨w', r, .inr ⟨.inr k, c2, h2, ?_⟩⟩
        have c1 := cm h2
        rcases q with ⟨k', _⟩ | ⟨_, c3, e', z⟩
        · have k' : X.env.scope.names.lookup y = some .local := k'
          rcases L.free _ (PySem.mem_of_lookup k) rfl with k2 | k2 <;> rw [show X.env.scope.names.lookup y = _ from k2] at k' <;> cases k'
        · rw [c1] at e'
          cases e'
          exact cellK z
    · have hi2 : i = X.N.length := by
        have := (List.getElem?_eq_some_iff.mp e1).1
        simp at this
        omega
      subst hi2
      rw [List.getElem?_append_right (Nat.le_refl _)] at e1
      rw [List.getElem?_append_right (by rw [I.len]; exact Nat.le_refl _), I.len] at e2
      simp at e1 e2
      subst e1 e2
      exact ⟨u, rv, .inl ⟨L.par, by simp⟩⟩
  · obtain ⟨w', z⟩ := I.cell y c (cm e)
    exact ⟨w', cellK z⟩
  · show (σ ++ [some v]).length = (X.N ++ [p]).length
    simp [I.len]
/-- the code object that is known is none of the store's -/
theorem code_notin {G : Gm} {ρ η : List Addr} {S : Sto} {c' : Addr} {q : Str} (I : Inv X pins σ H s) (rs : RS G ρ η H S) (h : H c' = some (CodeO c' q)) : c' ∉ ρ := by
  intro hm
  obtain ⟨⟨oc, vs, t, ho, hdt, _⟩, _, _⟩ := I.hok c' _ h
  obtain ⟨n, hn⟩ := List.getElem?_of_mem hm
  have hlt : n < S.length := by
    rw [← rs.len]
    exact (List.getElem?_eq_some_iff.mp hn).1
  have q := rs.ob n c' S[n] hn (List.getElem?_eq_getElem hlt)
  cases hS : S[n] with
  | lst ds =>
    rw [hS] at q
    obtain ⟨vs, e, _⟩ := q
    rw [h] at e
    unfold CodeO at e
    cases e
  | dn ks ds =>
    rw [hS] at q
    obtain ⟨xs, vs, e, _⟩ := q
    obtain ⟨⟨o, es, ep, h1, h2, h3, h4⟩, _, _⟩ := (show dnO G c' xs s.heap ∧ _ from I.hok c' _ e)
    rw [ho] at h1
    cases h1
    rw [hdt] at h3
    cases h3
  | dl ks ds =>
    rw [hS] at q
    obtain ⟨od, xs, vs, e, _⟩ := q
    rw [h] at e
    unfold CodeO at e
    cases e
  | dk kvs =>
    rw [hS] at q
    obtain ⟨l, e, _⟩ := q
    rw [h] at e
    unfold CodeO at e
    cases e
  | ins c fs =>
    rw [hS] at q
    obtain ⟨dx, l, e, _⟩ := q
    rw [h] at e
    unfold CodeO at e
    cases e
end
/-- stores compared -/
def O.beq : O → O → Bool
  | .lst a, .lst b => D.beqs a b
  | .dn a b, .dn c d => D.beqs a c && D.beqs b d
  | .dl a b, .dl c d => D.beqs a c && D.beqs b d
  | .dk a, .dk b => decide (a.map (·.1) = b.map (·.1)) && D.beqs (a.map (·.2)) (b.map (·.2))
  | .ins c a, .ins d b => decide (c = d) && (decide (a.map (·.1) = b.map (·.1)) && D.beqs (a.map (·.2)) (b.map (·.2)))
  | _, _ => false
theorem pair_eq {α β : Type} : ∀ {a b : List (α × β)}, a.map (·.1) = b.map (·.1) → a.map (·.2) = b.map (·.2) → a = b
  | [], [], _, _ => rfl
  | [], _ :: _, h, _ => nomatch h
  | _ :: _, [], h, _ => nomatch h
  | x :: a, y :: b, h1, h2 => by
    simp only [List.map_cons, List.cons.injEq] at h1 h2
    rw [pair_eq h1.2 h2.2, Prod.ext h1.1 h2.1]
theorem O.beq_eq : ∀ {a b : O}, O.beq a b = true → a = b := by
  intro a b h
  cases a <;> cases b <;> simp only [O.beq, Bool.and_eq_true, decide_eq_true_eq, Bool.false_eq_true] at h
  · rw [D.beqs_eq h]
  · rw [D.beqs_eq h.1, D.beqs_eq h.2]
  · rw [D.beqs_eq h.1, D.beqs_eq h.2]
  · rw [pair_eq h.1 (D.beqs_eq h.2)]
  · rw [h.1, pair_eq h.2.1 (D.beqs_eq h.2.2)]
theorem O.beq_self (a : O) : O.beq a a = true := by
  cases a <;> simp [O.beq, D.beqs_self]
def stoEq : Sto → Sto → Bool
  | [], [] => true
  | a :: s, b :: t => O.beq a b && stoEq s t
  | _, _ => false
theorem stoEq_eq : ∀ {a b : Sto}, stoEq a b = true → a = b
  | [], [], _ => rfl
  | [], _ :: _, h => nomatch h
  | _ :: _, [], h => nomatch h
  | x :: a, y :: b, h => by
    rw [stoEq, Bool.and_eq_true] at h
    rw [O.beq_eq h.1, stoEq_eq h.2]
theorem stoEq_self : ∀ a : Sto, stoEq a a = true
  | [] => rfl
  | x :: a => by rw [stoEq, O.beq_self, stoEq_self a]; rfl
/-- the key of one thing -/
def keyK (fb : FE) (σ : Sl) (S : Sto) (d : D) : Option Int := match fb (σ ++ [some d]) S with
  | .ok (.int k) S' => if stoEq S' S then some k else none
  | _ => none
def keysK (fb : FE) (σ : Sl) (S : Sto) : List D → Option (List Int)
  | [] => some []
  | d :: ds => (keyK fb σ S d).bind fun k => (keysK fb σ S ds).map (k :: ·)
def fSortK (fa fb : FE) : FL := fun σ S => (fa σ S).bind fun x S1 => match dnS x S1 with
  | some p => (match keysK fb σ S1 p.2.1 with
    | some kz => .ok (byK kz p.2.1) S1
    | none => .stuck)
  | none => .stuck
theorem keysK_at {fb : FE} {σ : Sl} {S : Sto} : ∀ {ds : List D} {kz : List Int}, keysK fb σ S ds = some kz → ds.length = kz.length ∧ ∀ (i : Nat) (d : D) (k : Int), ds[i]? = some d → kz[i]? = some k → fb (σ ++ [some d]) S = .ok (.int k) S
  | [], kz, h => by
    cases h
    exact ⟨rfl, fun i d k h => by simp at h⟩
  | d :: ds, kz, h => by
    unfold keysK at h
    cases h1 : keyK fb σ S d with
    | none => rw [h1] at h; cases h
    | some k1 =>
      rw [h1] at h
      cases h2 : keysK fb σ S ds with
      | none => rw [h2] at h; cases h
      | some kz1 =>
        rw [h2] at h
        cases h
        obtain ⟨l1, l2⟩ := keysK_at h2
        refine ⟨by simp [l1], fun i d' k' e1 e2 => ?_⟩
        cases i with
        | zero =>
          simp at e1 e2
          subst e1 e2
          unfold keyK at h1
          split at h1
          · rename_i k S' hf
            split at h1
            · rename_i hS
              cases h1
              rw [hf, stoEq_eq hS]
            · cases h1
          · cases h1
        | succ i => exact l2 i d' k' (by simpa using e1) (by simpa using e2)
theorem RDs.pairedR {G : Gm} {ρ η : List Addr} {H : Hp} : ∀ {ds : List D} {as : List Addr}, RDs G ρ η H ds (as.map V.ref) → Paired (fun d a => RD G ρ η H d (V.ref a)) ds as
  | [], as, h => by
    rw [RDs] at h
    cases as with
    | nil => exact .nil
    | cons a as => cases h
  | d :: ds, as, h => by
    rw [RDs] at h
    obtain ⟨v, r, e, h1, h2⟩ := h
    cases as with
    | nil => cases e
    | cons a as =>
      rw [List.map_cons] at e
      obtain ⟨rfl, rfl⟩ := List.cons.inj e
      exact .cons h1 (RDs.pairedR h2)
theorem pairedR_rds {G : Gm} {ρ η : List Addr} {H : Hp} : ∀ {ds : List D} {as : List Addr}, Paired (fun d a => RD G ρ η H d (V.ref a)) ds as → RDs G ρ η H ds (as.map V.ref)
  | _, _, .nil => by rw [List.map_nil, RDs]
  | _, _, .cons r t => by
    rw [List.map_cons, RDs]
    exact ⟨_, _, rfl, r, pairedR_rds t⟩
theorem RSl.snoc {G : Gm} {ρ η : List Addr} {H : Hp} {σd : Sl} {σ : L2.St} {d : D} {v : V} (r : RSl G ρ η H σd σ) (h : RD G ρ η H d v) : RSl G ρ η H (σd ++ [some d]) (σ ++ [some v]) := by
  refine ⟨by simp [r.len], fun i e hi => ?_⟩
  by_cases q : i < σd.length
  · rw [List.getElem?_append_left q] at hi
    obtain ⟨w, e1, e2⟩ := r.at_ i e hi
    exact ⟨w, by rw [List.getElem?_append_left (by rw [← r.len]; exact q)]; exact e1, e2⟩
  · rw [List.getElem?_append_right (by omega)] at hi
    have e0 : i - σd.length = 0 := by
      have := (List.getElem?_eq_some_iff.mp hi).1
      simp at this
      omega
    rw [e0] at hi
    have hi2 : d = e := Option.some.inj (Option.some.inj (by simpa using hi))
    subst hi2
    refine ⟨v, ?_, h⟩
    rw [List.getElem?_append_right (by rw [← r.len]; omega), ← r.len, e0]
    rfl
section
variable {G : Gm} {X : Cx} {pins : List (Addr × Obj)} {σ : L2.St} {ρ1 η : List Addr} {H1 : Hp} {σd : Sl} {S1 : Sto} {fb : FE} {ks : List D} {as : List Addr} {kz : List Int} {f c' : Addr} {pm ctv : Value} {params : Arguments} {body : Expr} {scope : Scope} {nm : Str} {k : Nat}
abbrev lamO (X : Cx) (params : Arguments) (body : Expr) (scope : Scope) (pm : Value) (c' : Addr) (ctv : Value) : Obj := PySem.W.kla_obj "<lambda>" (X.env.qual ++ "<lambda>") params body scope (cloFrom X.env.cells scope.names []) pm c' ctv
/-- what stays while the keys are told -/
def KeyR (G : Gm) (X : Cx) (ρ1 η : List Addr) (H1 : Hp) (S1 : Sto) (c' : Addr) : Nat → Hp → Prop := fun _ H => H c' = some (CodeO c' (X.env.qual ++ "<lambda>")) ∧ ∃ ρ', Ext ρ1 H1 ρ' H ∧ RS G ρ' η H S1
theorem key_turn [F : Fits G X] (hr : Room (k + 3) X.A) (L : LamS1 X.env.scope scope nm) (hnm : nm ∉ X.N)
    (hb : ∀ (A : Around) (outer : List Env) (s : Shared) (H : Hp) (f c' : Addr), Here (lamCx1 X A outer s H scope f c' nm) W0 k → JE G (lamCx1 X A outer s H scope f c' nm) W0 body fb)
    (hbind : ∀ (q : Str) (cl : List (Str × Addr)) (pm cv ctv u : Value), bindArgs (PySem.W.kla_fn "<lambda>" q params body scope cl pm cv ctv) ⟨[u], []⟩ = pure [(nm, u)])
    (rσ : RSl G ρ1 η H1 σd σ) (rk : RDs G ρ1 η H1 ks (as.map V.ref)) (hz : keysK fb σd S1 ks = some kz) :
    KeyTurn X ((f, lamO X params body scope pm c' ctv) :: pins) σ X.A.in1.in1 (.ref f) (as.map Value.ref) kz (KeyR G X ρ1 η H1 S1 c') := by
  intro i v n hv hn own s H I ⟨hco, ρ', e, rs⟩
  obtain ⟨hl, hat⟩ := keysK_at hz
  rw [List.getElem?_map] at hv
  obtain ⟨a, ha, hv⟩ := Option.map_eq_some_iff.mp hv
  subst hv
  have hi : i < ks.length := by
    have h1 := rk.length
    rw [List.length_map] at h1
    have h2 := (List.getElem?_eq_some_iff.mp ha).1
    omega
  have hd : ks[i]? = some ks[i] := List.getElem?_eq_getElem hi
  obtain ⟨w, hw, rw'⟩ := rk.get hd
  rw [List.getElem?_map, ha] at hw
  cases hw
  have hf := hat i _ n hd hn
  have of1 := (I.pin (f, lamO X params body scope pm c' ctv) (List.mem_append_right _ (List.mem_append_right _ (.head _)))).1
  obtain ⟨⟨oc, vs, t, hoc, hdc, hvc⟩, _, _⟩ := I.hok c' _ hco
  have hr2 : Room (k + 1) X.A.in1.in1 := hr.in1.in1
  have rc : codeAny (model X.prog X.w) X.A.in1.in1 (.call (.ref f) ⟨[.ref a], []⟩) (fun r s' => match r with
      | .ok (.ret u) => ∃ t H', u = Value.int n t ∧ Inv X (own ++ (f, lamO X params body scope pm c' ctv) :: pins) σ H' s' ∧ KeyR G X ρ1 η H1 S1 c' (i + 1) H'
      | _ => False) s := by
    refine PySem.W.kla_callFunE hr2.depth of1 rfl L.co L.gen rfl ⟨c', oc, vs, t, rfl, hoc, hdc, hvc⟩ ?_
    rw [hbind]
    refine wpAny_pure (wpAny_newFunctionEnv (fun y hy => (L.own y hy).1) (fun y hy => ?_) (fun h₁ hns hsb => ⟨I.nolimit.fresh _ hsb, ?_⟩) L.kind)
    · have : y = (nm, Value.ref a) := by simpa using hy
      subst this
      exact L.par
    · show codeAny _ _ (.expr body (lamEnv X scope s.heap.objs.size f c')) _ _
      have kp : ∀ b o, s.heap.get? b = some o → h₁.get? b = some o := fun b o e => hsb.extBut b o (Nat.ne_of_lt (Heap.lt_size e)) (Heap.get?_push_of_some _ e)
      have J : Inv (lamCx1 X X.A.in1.in1 X.stack s H scope f c' nm) [] (σ ++ [some (V.ref a)]) H { s with heap := h₁, toks := s.toks + ([(nm, Value.ref a)] : List (Str × Value)).length } :=
        lam_start1 I L I.env0.in1.in1 hr2.hd hnm rfl hns kp
      refine PySem.W.kla_codeExpr (wpAny_mono ((hb _ X.stack s H f c' (here_lam1 (hr2.deeper _))).pe.run [] _ _ H (fun v H' => v = .int n ∧ KeyR G X ρ1 η H1 S1 c' (i + 1) H') J ⟨ρ', η, _, S1, (rσ.ext e).snoc (rw'.ext e), rs, ?_⟩) (fun v s' hq => ?_) fun e s' hq => hq.elim)
      · rw [hf]
        intro ρ2 H2 v2 e2 rs2 rd2
        rw [RD] at rd2
        exact ⟨rd2, (e2.st c' _ hco (code_notin I rs hco) codeO_ne).1, ρ2, e.trans e2, rs2⟩
      · obtain ⟨x, H', J', rv, rfl, kr⟩ := hq
        obtain ⟨t2, rfl⟩ := rv
        exact ⟨t2, H', rfl, I.call' (ch := []) J'.os J'.base J'.hok J'.bare (fun b hb => absurd hb (by simp)), kr⟩
  refine wpAny_call (codeAny_mono rc fun r s' hq => ?_)
  cases r with
  | error e => exact hq.elim
  | ok fl =>
    cases fl with
    | ret u => exact hq
    | next => exact False.elim hq
    | brk => exact False.elim hq
    | cont => exact False.elim hq
/-- sorted(d, key=f) -/
theorem sorted_keyed [F : Fits G X] {s : Shared} {d : Addr} {xs : List (NestedKey × Addr × Value)} {Q : VK} (I : Inv X ((f, lamO X params body scope pm c' ctv) :: pins) σ H1 s) (hc : X.calm = true) (dn : DnAt G H1 d xs) (rs : RS G ρ1 η H1 S1) (hco : H1 c' = some (CodeO c' (X.env.qual ++ "<lambda>")))
    (rk : RDs G ρ1 η H1 ks (xs.map fun x => V.ref x.2.1)) (hz : keysK fb σd S1 ks = some kz)
    (turn : KeyTurn X ((f, lamO X params body scope pm c' ctv) :: pins) σ X.A.in1.in1 (.ref f) ((xs.map fun x => x.2.1).map Value.ref) kz (KeyR G X ρ1 η H1 S1 c'))
    {ρ0 : List Addr} {H0 : Hp} (e00 : Ext ρ0 H0 ρ1 H1) (hQ : KL G η ρ0 H0 Q (byK kz ks) S1) : wpAny (model X.prog X.w) X.A (call (.builtin "sorted") [.ref d] [(Str.ofString "key", .ref f)]) (EP X pins σ Q) X.xe s := by
  obtain ⟨o, es, ep, ho, hx, hd, hes⟩ := (show dnO G d xs s.heap ∧ _ from dn.ext.ok I.hok).1
  have many : es.size = xs.length := by
    have := congrArg List.length hes
    simpa using this
  have hlz : ks.length = kz.length := (keysK_at hz).1
  have hlk : ks.length = xs.length := by rw [← rk.length, List.length_map]
  refine call_function_entry_kw kind_sorted plain_sorted entry_sorted (ksk_s1 _ _) ?_
  unfold Builtin.«sorted»
  refine wpAny_bind (m := checkCount "sorted" 1 1 _) (wpAny_pure ?_)
  refine wpAny_bind (PySem.W.kdu_collect (A := X.A.in1) (kdl_raw dn.low hx hd) (I.ok.hd hc) ho (by rw [many]; exact dn.len) fun h' tk acc kp it => ?_)
  have hacc : acc.toList = (xs.map fun x => x.2.1).map Value.ref := by
    refine List.ext_getElem? fun j => ?_
    cases hj : acc.toList[j]? with
    | none =>
      have : acc.toList.length ≤ j := List.getElem?_eq_none_iff.mp hj
      rw [Array.length_toList, it.1, many] at this
      rw [List.getElem?_eq_none_iff.mpr (by simpa using this)]
    | some v =>
      obtain ⟨en, hen, hv⟩ := it.2 j v (by rw [← Array.getElem?_toList]; exact hj)
      have h1 : es.toList[j]? = some en := by rw [Array.getElem?_toList]; exact hen
      rw [hes, List.getElem?_map] at h1
      obtain ⟨x, hx1, hx2⟩ := Option.map_eq_some_iff.mp h1
      rw [List.getElem?_map, List.getElem?_map, hx1]
      rw [hv, ← hx2]
      rfl
  have hlen : acc.toList.length = xs.length := by rw [hacc]; simp
  have hzl : acc.toList.length ≤ sizeLine := by rw [hlen]; exact dn.len
  refine wpAny_bind (wpAny_newList ?_ hzl)
  have hoL : (h'.push (seqObj "list" acc.toList.toArray 0)).get? h'.objs.size = some (seqObj "list" acc.toList.toArray 0) := Heap.get?_push_size _ rfl
  have I1 : Inv X ((f, lamO X params body scope pm c' ctv) :: pins) σ H1 { s with heap := h', toks := tk } := I.kept kp
  have I2 : Inv X ((f, lamO X params body scope pm c' ctv) :: pins) σ H1 { s with heap := h'.push (seqObj "list" acc.toList.toArray 0), toks := tk } := I1.kept (t' := tk) fun b o q => Heap.get?_push_of_some _ q
  have fD := I1.fpOk (Nat.le_refl _) (I1.hok.fresh (Nat.le_refl _))
  rw [hacc] at I2 hoL hzl
  rw [hacc]
  refine wpAny_bind (wpAny_holding (wpAny_call_entry_kw slot_list_sort ⟨_, hoL, rfl⟩ entry_list_sort ?body (ksk_l1 _ _)))
  case body =>
    show wpAny (model X.prog X.w) X.A.in1.in1 (Builtin.«list.sort» ⟨[.ref h'.objs.size], [(Str.ofString "key", .ref f)]⟩) _ _ _
    rw [ksk_t1]
    refine ksi_sort (kz := kz) I2 hoL fD (by rw [← hlz, hlk]; simp) hzl turn ⟨hco, ρ1, Ext.refl _ _, rs⟩ fun s' H' out cc J ⟨_, ρ', e', rs'⟩ nD gD ko => ⟨_, rfl, ?_⟩
    have eo := kskOut_eq ko
    rw [byK_map] at eo
    have rk2 : RDs G ρ' η H' (byK kz ks) ((byK kz (xs.map fun x => x.2.1)).map V.ref) := by
      have e0 : (xs.map fun x => V.ref x.2.1) = (xs.map fun x => x.2.1).map V.ref := by simp
      rw [e0] at rk
      exact (pairedR_rds (byK_paired kz rk.pairedR)).ext e'
    have vr : ∀ l : List Addr, Vals (l.map V.ref) (l.map Value.ref) := fun l => by
      induction l with
      | nil => exact .nil
      | cons a l ih => exact .cons rfl ih
    have hl2 : ((byK kz (xs.map fun x => x.2.1)).map V.ref).length ≤ sizeLine := by
      have h3 : (xs.map fun x => x.2.1).length ≤ kz.length := by rw [List.length_map, ← hlz, hlk]; exact Nat.le_refl _
      rw [List.length_map, (byK_perm h3).length_eq, List.length_map]
      exact dn.len
    have J2 : Inv X ((f, lamO X params body scope pm c' ctv) :: pins) σ (upd H' h'.objs.size (.lst ((byK kz (xs.map fun x => x.2.1)).map V.ref))) s' :=
      J.take (h' := s'.heap) (t' := s'.toks) (fun b ob _ q => q) ⟨nD, fD.2⟩ ⟨hl2, _, cc, vr _, by rw [← eo, Array.toArray_toList]; exact gD⟩
    exact wpAny_pure ⟨_, rfl, V.ref h'.objs.size, _, Inv.unpin1 J2, rfl, newList (fun a ha => rs'.somes a ((e00.trans e').mem ha)) (e00.trans e') rs' rk2 hl2 nD hQ⟩
end
section
variable {G : Gm} {X : Cx} {W : WX} {k j : Nat} {a : Expr} {fa fb : FE} {params : Arguments} {body : Expr} {scope : Scope} {p q lpos kpos pos : Pos} {c P : Addr} {nm : Str} {key : Option Str}
theorem jl_sortK [F : Fits G X] (h : Here X W j) (hkj : k + 3 ≤ j) (hc : X.calm = true) (hm : X.mg "sorted" = none) (ha : JE G X W a fa)
    (TB : TabB X.base X.mg c P) (hcode : X.env.code = .ref c) (hmT : (P, X.env.qual ++ "<lambda>") ∈ G.tb) (hu : ∀ p ∈ G.tb, p.1 = P → p.2 = X.env.qual ++ "<lambda>")
    (hb : ∀ (A : Around) (outer : List Env) (s : Shared) (H : Hp) (f c' : Addr), Here (lamCx1 X A outer s H scope f c' nm) W0 k → JE G (lamCx1 X A outer s H scope f c' nm) W0 body fb)
    (hbind : ∀ (q : Str) (cl : List (Str × Addr)) (pm cv ctv u : Value), bindArgs (PySem.W.kla_fn "<lambda>" q params body scope cl pm cv ctv) ⟨[u], []⟩ = pure [(nm, u)])
    (L : lamSB1 X.env.scope scope nm = true := by rfl) (hnm : (X.N.contains nm) = false) (hdef : defaultsOf params X.env = ([], []) := by rfl) (hg : Gl X "sorted" := by rfl)
    (he : backTo pos (starEach [a] X.env) = (false, eval a X.env) :: backTo pos (starEach [] X.env) := by rfl) (hpl : (backTo pos (starEach [a] X.env)).any (·.1) = false := by rfl)
    (hall : (backToKw pos (keywordEach [⟨key, .Lambda params body scope lpos, kpos⟩] X.env)).all (·.1.isSome) = true := by rfl) (hnone : (backToKw pos (keywordEach [⟨key, .Lambda params body scope lpos, kpos⟩] X.env)).any (·.1.isNone) = false := by rfl)
    (hks : (backToKw pos (keywordEach [⟨key, .Lambda params body scope lpos, kpos⟩] X.env)).filterMap (·.1) = [Str.ofString "key"] := by rfl)
    (ht : starEach [a] X.env = (false, eval a X.env) :: starEach [] X.env := by rfl) :
    JL G X W (.Call (.Name "sorted" q) [a] [⟨key, .Lambda params body scope lpos, kpos⟩] pos) (fSortK fa fb) := by
  have L1 := lamS1_by L
  have hnm : nm ∉ X.N := fun z => by rw [List.contains_iff_mem.mpr z] at hnm; cases hnm
  refine ⟨⟨fun pins s σ H Q I hh => ?_⟩⟩
  obtain ⟨ρ, η, σd, S, rσ, rs, pp⟩ := hh
  refine wpAny_Call_Name_kw (ld_blt (u := .builtin "sorted") I hg hm rfl ?_ (by decide) (by decide))
  refine callWith_kw ?_ he hpl hall hnone
  rw [hks]
  have hA := LE.of (Q' := fun u H1 => ∃ x S1 ρ1, Ext ρ H ρ1 H1 ∧ RSl G ρ1 η H1 σd σ ∧ RS G ρ1 η H1 S1 ∧ RD G ρ1 η H1 x u ∧ Post G η σ W ρ1 H1 ((match dnS x S1 with
  | some p => (match keysK fb σd S1 p.2.1 with
    | some kz => .ok (byK kz p.2.1) S1
    | none => .stuck)
  | none => .stuck : Out (List D))) (KL G η ρ H Q)) rσ rs pp fun x S1 ρ1 H1 u e1 rσ1 rs1 rx p1 => ⟨x, S1, ρ1, e1, rσ1, rs1, rx, p1⟩
  refine thn ((pa_cons ha.pe pa_nil ht).run pos pins s σ H (fun vs H1 => ∃ u, vs = [u] ∧ ∃ x S1 ρ1, Ext ρ H ρ1 H1 ∧ RSl G ρ1 η H1 σd σ ∧ RS G ρ1 η H1 S1 ∧ RD G ρ1 η H1 x u ∧ Post G η σ W ρ1 H1 ((match dnS x S1 with
  | some p => (match keysK fb σd S1 p.2.1 with
    | some kz => .ok (byK kz p.2.1) S1
    | none => .stuck)
  | none => .stuck : Out (List D))) (KL G η ρ H Q)) I ?_) fun us s1 ⟨vs, H1, I1, r1, q1⟩ => ?_
  · obtain ⟨a1, a2, a3, a4, a5, a6, a7⟩ := hA
    exact ⟨a1, a2, a3, a4, a5, a6, a7.imp fun d S' kk ρ' H' v e r rd => ⟨v, rfl, kk ρ' H' v e r rd⟩⟩
  obtain ⟨u, rfl, x, S1, ρ1, e1, rσ1, rs1, rx, p1⟩ := q1
  cases hdn : dnS x S1 with
  | none => rw [hdn] at p1; exact p1.elim
  | some pr =>
    rw [hdn] at p1
    obtain ⟨n, ks, ds⟩ := pr
    dsimp only at p1
    cases hz : keysK fb σd S1 ks with
    | none => rw [hz] at p1; exact p1.elim
    | some kz =>
      rw [hz] at p1
      obtain ⟨d, xs, ws, rfl, hn, dn, h1, h2, h3, h4⟩ := dn_at rs1 rx hdn
      obtain ⟨w1, rfl, hw1⟩ := r1.one
      obtain rfl : w1 = Value.ref d := hw1
      show wpAny _ _ (evalAll ((do let v ← eval (.Lambda params body scope lpos) X.env; standAt pos; pure v) :: [])) _ _ s1
      refine wpAny_evalAll_cons (wpAny_bind (lam_make2 (T := G.tb) I1 TB hcode hmT hu rs1.tab hdef (L1.has I.ok) fun f c' pm ctv H2 s2 I2 eN T2 hf hfn hfr hco => ?_))
      refine wpAny_bind (wpAny_standAt (wpAny_pure (wpAny_evalAll_nil ?_)))
      obtain ⟨rs2, ex⟩ := rs1.extN eN T2
      have rσ2 := rσ1.ext ex
      have h3' := h3.ext ex
      have nl : f ≠ X.env.locals := fun z => by
        obtain ⟨m, ⟨o, es, ep, ho, hd', _⟩, _⟩ := I2.loc
        rw [← z, hf] at ho
        cases ho
        cases hd'
      have nf : f ∉ X.fs := fun z => hfr (by
        rcases I2.ok.stk with e | ⟨e, he'⟩
        · rw [e]; exact z
        · rw [e]
          show f ∈ frs (X.env :: X.outer)
          unfold frs
          rw [List.filterMap_cons, he']
          exact List.mem_cons_of_mem _ z)
      have I3 : Inv X ((f, lamO X params body scope pm c' ctv) :: pins) σ H2 s2 := I2.pins_of fun pp hp => (List.mem_cons.mp hp).elim (fun z => by subst z; exact ⟨hf, hfn, nl, nf, fun v z => nomatch z⟩) fun z => I2.pin pp (List.mem_append_right _ z)
      have dn2 : DnAt G H2 d xs := ⟨dn.ext.imp (fun e => eN _ _ e (fun ps z => nomatch z)) (fun ⟨o, e⟩ => ⟨o, eN _ _ e (fun ps z => nomatch z)⟩), dn.low, dn.nd, dn.dp, dn.len, ρ1, η, ks, h1, h3'⟩
      have e0 : (xs.map fun x => V.ref x.2.1) = (xs.map fun x => x.2.1).map V.ref := by simp
      exact sorted_keyed I3 hc dn2 rs2 hco h3' hz (key_turn (h.room.mono hkj) L1 hnm hb hbind rσ2 (e0 ▸ h3') hz) (e1.trans ex) p1
end
end Fx

/-! Fx38: len of a dict by tuples; walking a dict by tuples: it is locked from then on. -/
namespace Fx
open PySem PySem.Spec L2 PyProof.Rows
def rLenDn (G : Gm) : List V → Hp → VK → Prop := fun vs H Q => ∃ d xs, vs = [.ref d] ∧ DnAt G H d xs ∧ Q (.int (xs.length : Nat)) H
theorem call_lenDn {G : Gm} {X : Cx} [F : Fits G X] : CallR X (.builtin "len") (rLenDn G) := by
  intro pins s σ H vs us Q I r h
  obtain ⟨d, xs, rfl, dn, q⟩ := h
  obtain ⟨u, rfl, ru⟩ := r.one
  cases (show u = Value.ref d from ru)
  refine call_len_dictH dn.low (dict_of I dn) (by have := dn.len; rw [sizeLine_eq] at this; omega) ?_
  exact ⟨.int (xs.length : Nat), H, I.tok _, ⟨_, rfl⟩, q⟩
def opLenDn : List D → Sto → Option D := op1 fun x S => (dnS x S).map fun p => .int (p.2.1.length : Nat)
theorem lnk_lenDn {G : Gm} : LnkA G (rLenDn G) opLenDn := lnkA1 fun ρ η H S x v d Q rs rx h k => by
  obtain ⟨⟨n, ks, ds⟩, hd, rfl⟩ := Option.map_eq_some_iff.mp h
  obtain ⟨a, xs, vs, rfl, ha, dn, h1, h2, h3, h4⟩ := dn_at rs rx hd
  have hl : xs.length = ks.length := by rw [← h3.length, List.length_map]
  exact ⟨a, xs, rfl, dn, k H _ (Same.refl H) (by rw [RD, hl])⟩
section
variable {G : Gm} {X : Cx} {W : WX} {e : Expr} {es : List Expr} {g : FL} {p pos : Pos}
theorem je_lenDn [F : Fits G X] (hm : X.mg "len" = none) (ha : JA G X W (e :: es) g) (hg : Gl X "len" := by rfl) (he : starEach (e :: es) X.env = (false, eval e X.env) :: starEach es X.env := by rfl) (hpl : (backTo pos (starEach es X.env)).any (·.1) = false := by rfl) :
    JE G X W (.Call (.Name "len" p) (e :: es) [] pos) (fBi opLenDn g) := je_bi (r := rLenDn G) call_lenDn lnk_lenDn hm boot_len ha hg (by decide) rfl he hpl
end
/-! ### for k in d -/
def Itdn (G : Gm) (d : Addr) (o : Obj) (xs : List (NestedKey × Addr × Value)) : It :=
  ⟨fun i H => H d = some (.frz o (.ext (dnO G d xs))) ∧ i < xs.length, fun i H x H' => H' = H ∧ ∃ y, xs[i]? = some y ∧ x = .ref y.2.1, fun i H => H d = some (.frz o (.ext (dnO G d xs))) ∧ xs.length ≤ i⟩
theorem frz_dn {G : Gm} {X : Cx} {pins : List (Addr × Obj)} {σ : L2.St} {H : Hp} {s : Shared} {d : Addr} {o : Obj} {xs : List (NestedKey × Addr × Value)} (I : Inv X pins σ H s) (h : H d = some (.frz o (.ext (dnO G d xs)))) :
    s.heap.get? d = some o ∧ ∃ es ep, o.ExactDict ∧ o.data = .dict es ep ∧ es.size = xs.length ∧ ∀ (i : Nat) y, xs[i]? = some y → ∃ en, es[i]? = some en ∧ en.key = .ref y.2.1 := by
  obtain ⟨h1, ⟨o', es, ep, h2, h3, h4, h5⟩, _, _⟩ := I.hok d _ h
  rw [h1] at h2
  cases h2
  refine ⟨h1, es, ep, h3, h4, ?_, fun i y hy => ?_⟩
  · have := congrArg List.length h5
    simpa using this
  · have h6 : es.toList[i]? = some (entryOfKey (nestedKind G.P G.w) y) := by rw [h5, List.getElem?_map, hy]; rfl
    rw [Array.getElem?_toList] at h6
    exact ⟨_, h6, rfl⟩
theorem turn_dn {G : Gm} {P : Program} {w : World} {K : PySem.W.Frag} {tg : Expr} {d : Addr} {o : Obj} {es : Array DictEntry} {ep : Nat} {xs : List (NestedKey × Addr × Value)} (it : Addr) (hod : o.data = .dict es ep) :
    Turn P w K tg (Itdn G d o xs) [it] it (fun i h => h.IsKeyIter it d i xs.length ep) where
  mem := by simp
  obj := fun i h st b hb => by
    have e : b = it := by simpa using hb
    subst e
    obtain ⟨oi, e, c, dd⟩ := st
    exact ⟨oi, e, fun v z => by rw [dd] at z; cases z⟩
  keep := fun i h h' st k => st.at fun oi e => k it (by simp) oi e
  item := by
    intro X hP hw hK hc i pins s σ H E I hf st hg
    subst hP hw hK
    obtain ⟨hd, hi⟩ := hg
    obtain ⟨f0, f1, f2, f3, f4, f5⟩ := hf it (by simp)
    obtain ⟨hgd, es', ep', hx, hdt, hsz, ent⟩ := frz_dn I hd
    obtain ⟨rfl, rfl⟩ := dict_ep hod hdt
    obtain ⟨y, hy⟩ : ∃ p, xs[i]? = some p := ⟨xs[i], List.getElem?_eq_getElem hi⟩
    obtain ⟨en, hen, hkey⟩ := ent i y hy
    refine next_key_item st hgd hdt hsz hen fun h' st' sb => ?_
    have I1 : Inv X pins σ H { s with heap := h' } := I.turned (t' := s.toks) (fun b ob hb e => (sb.2 b hb).trans e) f0 f1 f3 f4 f5
    obtain ⟨oi, e, c, dd⟩ := id st'
    exact ⟨en.key, rfl, go_of (s := { s with heap := h' }) e c dd (by decide) ⟨.ref y.2.1, H, I1, hkey, ⟨rfl, y, hy, rfl⟩, st', fun b hb => (hf b hb).1⟩⟩
  done := by
    intro X hP hw hK hc i pins s σ H E I hf st hg
    subst hP hw hK
    obtain ⟨hd, hi⟩ := hg
    obtain ⟨f0, f1, f2, f3, f4, f5⟩ := hf it (by simp)
    obtain ⟨hgd, es', ep', hx, hdt, hsz, ent⟩ := frz_dn I hd
    obtain ⟨rfl, rfl⟩ := dict_ep hod hdt
    exact next_key_end (I.ok.hd hc) st hgd hdt hsz hi fun h' eb => ⟨rfl, I.turned (t' := s.toks) (fun b ob hb e => eb b ob hb e) f0 f1 f3 f4 f5⟩
  self := fun A i s Q E st h => by
    refine wpAny_pyIter_slot st.typeIs F.slot_dict_keyiterator_iter (wpAny_call_entry F.slot_dict_keyiterator_iter st.typeIs F.entry_dict_keyiterator_iter ?_ (F.args_dict_keyiterator_iter_1 _))
    show wpAny _ _ (ret (.ref it)) _ _ s
    exact wpAny_pure ⟨_, rfl, "dict_keyiterator", _, st.typeIs, F.slot_dict_keyiterator_next.lookup, h⟩
/-- the dict is locked here, if it is not yet -/
def iDn (G : Gm) (td : TE) : TI := fun σ H R => td σ H fun x H1 => ∃ d xs, x = .ref d ∧ (d == sysModules) = false ∧
  ((H1 d = some (.ext (dnO G d xs)) ∧ ∀ o, R (Itdn G d o xs) (upd H1 d (.frz o (.ext (dnO G d xs))))) ∨ ∃ o, H1 d = some (.frz o (.ext (dnO G d xs))) ∧ R (Itdn G d o xs) H1)
theorem pi_dn {G : Gm} {X : Cx} {tg e : Expr} {td : TE} (he : PE X e td) : PI X tg e (iDn G td) := by
  refine ⟨fun pins s σ H R I h => ?_⟩
  refine thn (he.run pins s σ H _ I h) fun u s1 ⟨x, H1, I1, rx, d, xs, ex, hs, q⟩ => ?_
  subst ex
  obtain rfl : u = Value.ref d := rx
  have go : ∀ (o : Obj) (H2 : Hp), Inv X pins σ H2 s1 → H2 d = some (.frz o (.ext (dnO G d xs))) → R (Itdn G d o xs) H2 → wpAny (model X.prog X.w) X.A (pyIter (.ref d)) (PIE X pins σ tg R) X.xe s1 := fun o H2 I2 hd q => by
    obtain ⟨hgd, es, ep, hx, hdt, hsz, ent⟩ := frz_dn I2 hd
    refine iter_keys hs hgd hx hdt (pi_one (tk := s1.toks) I2 _ (turn_dn _ hdt) ⟨_, Heap.get?_push_size _ rfl, rfl, ?_⟩ q)
    rw [hsz] <;> rfl
  rcases q with ⟨hd, q⟩ | ⟨o, hd, q⟩
  · obtain ⟨o, I2⟩ := I1.lock hd True.intro
    exact go o _ I2 upd_same (q o)
  · exact go o _ I1 hd q
def fItDn (f : FE) : FI := fun σ S => (f σ S).bind fun d S1 => match dnS d S1 with
  | some p => .ok ⟨p.2.1, []⟩ (S1.set p.1 (.dl p.2.1 p.2.2))
  | none => .stuck
theorem items_dn {G : Gm} {η ρ1 : List Addr} {H1 : Hp} {d : Addr} {o : Obj} {xs : List (NestedKey × Addr × Value)} {ks : List D} (h : H1 d = some (.frz o (.ext (dnO G d xs)))) (hl : xs.length ≤ sizeLine) (rd : RDs G ρ1 η H1 ks (xs.map fun x => V.ref x.2.1)) :
    Items G η ρ1 H1 ⟨ks, []⟩ (Itdn G d o xs) := by
  have hk : xs.length = ks.length := by rw [← rd.length, List.length_map]
  refine ⟨by rw [← hk]; exact hl, fun ρ' η' H' S' e hη rs _ i => ⟨fun dd hd => ?_, fun hi => ⟨e.fz _ _ _ h, by rw [hk]; exact Nat.le_of_eq hi⟩⟩⟩
  obtain ⟨v, hv, r⟩ := rd.get hd
  refine ⟨⟨e.fz _ _ _ h, by rw [hk]; exact (List.getElem?_eq_some_iff.mp hd).1⟩, fun x H'' y => ?_⟩
  obtain ⟨rfl, y, hy, rfl⟩ := y
  rw [List.getElem?_map, hy] at hv
  cases hv
  exact ⟨Same.refl _, r.mono e hη⟩
theorem ji_dn {G : Gm} {X : Cx} {W : WX} [F : Fits G X] {tg e : Expr} {f : FE} (he : JE G X W e f) : JI G X W tg e (fItDn f) := by
  refine ⟨PI.weak (pi_dn (G := G) he.pe) ?_⟩
  rintro σ H R ⟨ρ, η, σd, S, rσ, rs, p⟩
  refine LE.of rσ rs p fun x S1 ρ1 H1 v e1 rσ1 rs1 rd p1 => ?_
  cases hdn : dnS x S1 with
  | none => rw [hdn] at p1; exact p1.elim
  | some pr =>
    obtain ⟨n, ks, ds⟩ := pr
    rw [hdn] at p1
    have p2 : ∀ ρ' H' J, Ext ρ H ρ' H' → RS G ρ' η H' (S1.set n (.dl ks ds)) → Items G η ρ' H' ⟨ks, []⟩ J → R J H' := p1
    unfold dnS at hdn
    split at hdn
    · rename_i n'
      split at hdn
      · rename_i ks' ds' hn
        cases hdn
        rw [RD] at rd
        obtain ⟨a, ha, rfl⟩ := rd
        obtain ⟨xs, vs, e, ⟨h1, h2, h3, h4, h5⟩, hv, rk, rdd⟩ := rs1.ob n a _ ha hn
        refine ⟨a, xs, rfl, h4, .inl ⟨e, fun o => ?_⟩⟩
        have nz : ∀ o u, H1 a ≠ some (.frz o u) := fun o u z => by rw [e] at z; cases z
        have ex : Ext ρ1 H1 ρ1 (upd H1 a (.frz o (.ext (dnO G a xs)))) := ⟨⟨[], by simp⟩, fun b w hb nb _ => ⟨by rw [upd_ne (fun (z : b = a) => nb (by rw [z]; exact List.mem_of_getElem? ha))]; exact hb, nb⟩, fun b w y q => by rw [upd_ne (fun (z : b = a) => nz w y (z ▸ q))]; exact q⟩
        have w := rs1.write (u := .frz o (.ext (dnO G a xs))) (o := .dl ks ds) ha ⟨o, xs, vs, upd_same, ⟨h1, h2, h3, h4, h5⟩, hv, rk.ext ex, rdd.ext ex⟩ nz
        exact p2 ρ1 _ _ (e1.trans ex) w.1 (items_dn upd_same h5 (rk.ext ex))
      · rename_i ks' ds' hn
        cases hdn
        rw [RD] at rd
        obtain ⟨a, ha, rfl⟩ := rd
        obtain ⟨od, xs, vs, e, ⟨h1, h2, h3, h4, h5⟩, hv, rk, rdd⟩ := rs1.ob n a _ ha hn
        refine ⟨a, xs, rfl, h4, .inr ⟨od, e, ?_⟩⟩
        have es : S1.set n (.dl ks ds) = S1 := by
          refine List.ext_getElem? fun i => ?_
          by_cases hi : i = n
          · subst hi
            rw [List.getElem?_set_self (List.getElem?_eq_some_iff.mp hn).1, hn]
          · rw [List.getElem?_set_ne (Ne.symm hi)]
        rw [es] at p2
        exact p2 ρ1 _ _ e1 rs1 (items_dn e h5 rk)
      · cases hdn
    · cases hdn
section
variable {fa fb f : FE} {σ : Sl} {S : Sto}
def kItDn (d : D) (S : Sto) : Out ItD := match dnS d S with
  | some p => .ok ⟨p.2.1, []⟩ (S.set p.1 (.dl p.2.1 p.2.2))
  | none => .stuck
@[simp] theorem xItDn : fItDn f σ S = (f σ S).bind kItDn := rfl
theorem kItDn_r {n : Nat} {ks ds : List D} (h : S[n]? = some (.dn ks ds) ∨ S[n]? = some (.dl ks ds)) : kItDn (.ref n) S = .ok ⟨ks, []⟩ (S.set n (.dl ks ds)) := by
  unfold kItDn
  rw [dnSr]
  rcases h with h | h <;> rw [h]
def kSortK (fb : FE) (σ : Sl) (x : D) (S1 : Sto) : Out (List D) := match dnS x S1 with
  | some p => (match keysK fb σ S1 p.2.1 with
    | some kz => .ok (byK kz p.2.1) S1
    | none => .stuck)
  | none => .stuck
@[simp] theorem xSortK : fSortK fa fb σ S = (fa σ S).bind (kSortK fb σ) := rfl
theorem keysK_of {ds : List D} (key : D → Int) (h : ∀ d ∈ ds, fb (σ ++ [some d]) S = .ok (.int (key d)) S) : keysK fb σ S ds = some (ds.map key) := by
  induction ds with
  | nil => rfl
  | cons d ds ih =>
    unfold keysK keyK
    rw [h d List.mem_cons_self]
    simp only [stoEq_self, if_true, Option.bind_some]
    rw [ih fun x hx => h x (List.mem_cons_of_mem _ hx)]
    rfl
theorem kSortK_r {n : Nat} {ks ds : List D} (key : D → Int) (hn : S[n]? = some (.dn ks ds) ∨ S[n]? = some (.dl ks ds)) (h : ∀ d ∈ ks, fb (σ ++ [some d]) S = .ok (.int (key d)) S) : kSortK fb σ (.ref n) S = .ok (byK (ks.map key) ks) S := by
  unfold kSortK
  rw [dnSr]
  rcases hn with hn | hn <;> rw [hn] <;> dsimp only <;> rw [keysK_of key h]
/-- ordered by a key: the same things, the keys rise -/
theorem byK_map_perm {α : Type} (key : α → Int) (xs : List α) : (byK (xs.map key) xs).Perm xs := byK_perm (by simp)
theorem insK_all {α : Type} {P : Int × α → Prop} {p : Int × α} (hp : P p) : ∀ {l : List (Int × α)}, (∀ q ∈ l, P q) → ∀ q ∈ insK p l, P q := fun {l} h q hq => by
  rcases List.mem_cons.mp ((insK_perm p l).mem_iff.mp hq) with rfl | hq
  · exact hp
  · exact h q hq
theorem zip_self {α : Type} (key : α → Int) : ∀ xs : List α, (xs.map key).zip xs = xs.map fun x => (key x, x)
  | [] => rfl
  | x :: xs => by rw [List.map_cons, List.zip_cons_cons, zip_self key xs, List.map_cons]
theorem byK_rise {α : Type} (key : α → Int) (xs : List α) : (byK (xs.map key) xs).Pairwise fun a b => key a ≤ key b := by
  unfold byK
  rw [List.pairwise_map]
  have hk : ∀ q ∈ sortK ((xs.map key).zip xs), q.1 = key q.2 := fun q hq => by
    have hq := (sortK_perm _).mem_iff.mp hq
    rw [zip_self key xs] at hq
    obtain ⟨x, _, rfl⟩ := List.mem_map.mp hq
    rfl
  refine (sortK_sorted _).imp_of_mem fun {p q} hp hq h => ?_
  rw [← hk p hp, ← hk q hq]
  exact h
end
end Fx

/-! Fx39: sorted(xs, key=lambda x: ..) of a list, the keys being data (tuples). -/
namespace Fx
open PySem PySem.Spec L2 LamX PyProof.Rows
section
variable {X : Cx} {pins : List (Addr × Obj)} {σ : L2.St} {A : Around} {E : Value → Shared → Prop} {a kS : Addr} {vs : List Value} {keys : Array Value} {e1 : Nat} {R : Nat → Hp → List V → Prop}
theorem ksd_tail {st : SortSt} {H : Hp} {s : Shared} {e : Nat} {P : PySem.Fin → Shared → Prop} {out : List Value} (I : Inv X ((kS, seqObj "list" keys e) :: (a, seqObj "list" #[] e1) :: pins) σ H s) (ok : Own1 X pins kS) (oa : Own1 X pins a) (hka : kS ≠ a)
    (hsz : keys.size ≤ sizeLine) (hol : out.length ≤ sizeLine) (hfl : failedOf st = none) (hout : (arrOf st).map (·.2) = out.toArray)
    (h : ∀ (s' : Shared) (c : Nat), Inv X pins σ H s' → H a = none → s'.heap.get? a = some (seqObj "list" out.toArray c) → P (.done (.ret .none)) s') :
    wpAny (model X.prog X.w) A (ksk_tail a false e1 (.ref kS) st) P E s := by
  have pk := I.pin (kS, seqObj "list" keys e) (List.mem_append_right _ (.head _))
  have pa := I.pin (a, seqObj "list" #[] e1) (List.mem_append_right _ (.tail _ (.head _)))
  have s1 := Heap.SameBut.update s.heap kS (Obj.mapSeq fun _ => (#[] : Array Value))
  have na1 : (s.heap.update kS (Obj.mapSeq fun _ => (#[] : Array Value))).get? a = some (seqObj "list" #[] e1) := (s1.2 a hka.symm).trans pa.1
  have s2 := Heap.SameBut.update (s.heap.update kS (Obj.mapSeq fun _ => (#[] : Array Value))) a (Obj.mapSeq fun _ => out.toArray)
  obtain ⟨c2, hc2⟩ : ∃ c2, ((s.heap.update kS (Obj.mapSeq fun _ => (#[] : Array Value))).update a (Obj.mapSeq fun _ => out.toArray)).get? a = some (seqObj "list" out.toArray c2) :=
    ⟨_, get?_update_seq na1 fun _ => out.toArray⟩
  have hz2 : out.toArray.size ≤ sizeLine + 1 := by
    rw [List.size_toArray]
    exact Nat.le_succ_of_le hol
  have I0 := Inv.unpin1 (Inv.unpin1 I)
  unfold ksk_tail
  try dsimp only
  simp only [Bool.false_eq_true, if_false]
  rw [hout]
  refine wpAny_bind (listUpdate_at pk.1 rfl ?_ hsz (Nat.zero_le _))
  refine wpAny_bind (wpAny_letGo ?_)
  refine wpAny_bind (seqEpoch_at na1 rfl ?_)
  refine wpAny_bind (listUpdate_at na1 rfl ?_ (Nat.zero_le _) hz2)
  rw [hfl]
  simp only [bne_self_eq_false, Bool.false_eq_true, if_false]
  refine wpAny_pure (h _ c2 ?_ pa.2.1 hc2)
  refine I0.turnedL (ch := [kS, a]) (fun b o hb q => ?_) fun b hb => ?_
  · have h1 : b ≠ kS := fun z => hb (by simp [z])
    have h2 : b ≠ a := fun z => hb (by simp [z])
    exact (s2.2 b h2).trans ((s1.2 b h1).trans q)
  · rcases List.mem_cons.mp hb with z | z
    · subst z; exact ⟨pk.2.1, ok⟩
    · have : b = a := by simpa using z
      subst this; exact ⟨pa.2.1, oa⟩
theorem ksd_end {H : Hp} {s : Shared} {e : Nat} {P : PySem.Fin → Shared → Prop} {κ : PyProof.Rows.KeyKind} (I : Inv X ((kS, seqObj "list" keys e) :: (a, seqObj "list" #[] e1) :: pins) σ H s) (ok : Own1 X pins kS) (oa : Own1 X pins a) (hka : kS ≠ a)
    (S : PySem.W.SortsAt X.prog X.w A s κ keys.toList) (hsz : keys.size = vs.length) (hZ : vs.length ≤ sizeLine)
    (h : ∀ (s' : Shared) (c : Nat), Inv X pins σ H s' → H a = none → s'.heap.get? a = some (seqObj "list" (PySem.W.sortVals κ false keys.toList vs).toArray c) → P (.done (.ret .none)) s') :
    wpAny (model X.prog X.w) A (ksk_end a false vs.toArray e1 (.ref kS) keys) P E s := by
  obtain ⟨kd, h1, h2⟩ := S.kind
  have hkl : keys.toList.length = vs.length := by
    rw [Array.length_toList]
    exact hsz
  have hK : PyProof.Rows.KeysOf κ (keys.zip vs.toArray) := PySem.W.keysOf_zip S.keys
  have hol : (PySem.W.sortVals κ false keys.toList vs).length = vs.length := PySem.W.sortVals_length false hkl
  have hss : (keys.zip vs.toArray).size = vs.length := by rw [Array.size_zip, hsz, List.size_toArray, Nat.min_self]
  have fin : ∀ st' : SortSt, (arrOf st').Perm (keys.zip vs.toArray) → SortedToK κ (arrOf st') (keys.zip vs.toArray).size →
      Stable κ (arrOf st') (keys.zip vs.toArray) → (arrOf st').map (·.2) = (PySem.W.sortVals κ false keys.toList vs).toArray := by
    intro st' hp hs ht
    have e := PySem.W.sort_out (rev := false) (keys := keys) (items := vs.toArray) (xs := arrOf st') (κ := κ) hK hp hs ht
    have e' := congrArg List.toArray e
    rw [Array.toArray_toList] at e'
    exact e'
  unfold ksk_end
  simp only [Bool.false_eq_true, if_false, pure_bind]
  try dsimp only
  by_cases hl2 : vs.toArray.size < 2
  · rw [if_pos hl2, if_pos hl2]
    refine wpAny_bind (wpAny_pure ?_)
    try dsimp only
    refine ksd_tail (st := SortSt.mk' general' (keys.zip vs.toArray) #[] 7 none) I ok oa hka (by rw [hsz]; exact hZ) (by rw [hol]; exact hZ) rfl (fin _ (Array.Perm.refl _) ?_ (Stable.refl _)) h
    intro i j hij hj
    rw [hss] at hj
    rw [List.size_toArray] at hl2
    have : i = j := by omega
    subst this
    exact KeyOrd.kle_refl _
  · rw [if_neg hl2, if_neg hl2]
    rw [List.size_toArray] at hl2
    refine wpAny_bind (h2 (by omega) _ ?_)
    refine wpAny_bind (wpAny_mono (PyProof.Rows.H.wpS_sortRunsSt (κ := κ) (kd := kd) (a₀ := keys.zip vs.toArray)
      (st := SortSt.mk' kd (keys.zip vs.toArray) #[] 7 none)
      (Q := fun _ st' => failedOf st' = none ∧ (arrOf st').map (·.2) = (PySem.W.sortVals κ false keys.toList vs).toArray)
      h1 hK ⟨Array.Perm.refl _, rfl, rfl⟩ rfl (Stable.refl _) (by rw [hss]; omega) fun st' a1 a2 a3 a4 => ⟨a2, fin st' a1 a3 a4⟩) ?_ fun _ _ e => e)
    rintro ⟨⟨⟩, st'⟩ s' ⟨rfl, hf, ho⟩
    try dsimp only at ho ⊢
    exact ksd_tail I ok oa hka (by rw [hsz]; exact hZ) (by rw [hol]; exact hZ) hf ho h
/-- what is wanted of the key function at each item -/
def KeyTurnD (X : Cx) (pins : List (Addr × Obj)) (σ : L2.St) (A : Around) (f : Value) (vs : List Value) (R : Nat → Hp → List V → Prop) : Prop :=
  ∀ (i : Nat) (v : Value), vs[i]? = some v → ∀ (own : List (Addr × Obj)) (s : Shared) (H : Hp) (xs : List V), Inv X (own ++ pins) σ H s → R i H xs →
    wpAny (model X.prog X.w) A (call f [v]) (fun r s' => ∃ x H', RelV x r ∧ Inv X (own ++ pins) σ H' s' ∧ R (i + 1) H' (xs ++ [x])) (fun _ _ => False) s
theorem vals_snoc {x : V} {u : Value} (h : RelV x u) : ∀ {xs : List V} {us : List Value}, Vals xs us → Vals (xs ++ [x]) (us ++ [u])
  | _, _, .nil => .cons h .nil
  | _, _, .cons r t => .cons r (vals_snoc h t)
theorem each_of_reads {h : Heap} : ∀ {ds : List PyData} {us : List Value} {as : List Addr}, ReadsAll h us ds as → PySem.W.EachIs (fun v d => ∃ as, Reads h v d as) us ds
  | [], us, as, r => by cases r; exact .nil
  | d :: ds, us, as, r => by
    cases r with
    | cons r1 r2 => exact .cons ⟨_, r1⟩ (each_of_reads r2)
theorem vals_len : ∀ {xs : List V} {us : List Value}, Vals xs us → us.length = xs.length
  | _, _, .nil => rfl
  | _, _, .cons _ t => by rw [List.length_cons, List.length_cons, vals_len t]
theorem ksd_rest {f : Value} {H : Hp} {s : Shared} {P : PySem.Fin → Shared → Prop} {kz : List PyData} (I : Inv X ((kS, seqObj "list" #[] 0) :: (a, seqObj "list" #[] e1) :: pins) σ H s) (ok : Own1 X pins kS) (oa : Own1 X pins a) (hka : kS ≠ a)
    (hlen : kz.length = vs.length) (hZ : vs.length ≤ sizeLine) (hal : PySem.W.AllAlike kz) (hsk : PySem.W.Sortable kz) (hu : ∀ d, d ∈ kz → A.units + d.depth < cLine) (turn : KeyTurnD X pins σ A f vs R) (hR : R 0 H []) (hRd : ∀ H xs, R vs.length H xs → DpAll X.K H xs kz)
    (h : ∀ (s' : Shared) (H' : Hp) (out : List Value) (xs : List V) (c : Nat), Inv X pins σ H' s' → R vs.length H' xs → H' a = none → s'.heap.get? a = some (seqObj "list" out.toArray c) → PySem.W.KeyedOut false kz vs out → P (.done (.ret .none)) s') :
    wpAny (model X.prog X.w) A (ksk_rest a f false vs.toArray e1 (.ref kS)) P E s := by
  have hZ2 := hZ
  rw [sizeLine_eq] at hZ2
  unfold ksk_rest
  refine wpAny_bind (wpAny_rule ?_)
  first
    | rw [List.forIn_toArray]
    | (rw [← Array.forIn_toList]; simp only [List.toList_toArray])
    | rw [← Array.forIn_toList]
  refine wpAny_bind (ksk_fold (fun i s' => ∃ H' xs kA e, Inv X ((kS, seqObj "list" kA e) :: (a, seqObj "list" #[] e1) :: pins) σ H' s' ∧ R i H' xs ∧ Vals xs kA.toList ∧ kA.size = i) vs 0 s
    ⟨H, [], #[], 0, I, hR, .nil, rfl⟩ ?step ?done)
  case step =>
    rintro j x s' hx ⟨H', xs, kA, e, I', hR', hv, hks⟩
    simp only [Nat.zero_add] at hks hR' ⊢
    have hj : j < vs.length := (List.getElem?_eq_some_iff.mp hx).1
    have hz : kA.size ≤ vs.length := by omega
    refine wpAny_bind (wpAny_attempt (wpAny_mono (turn j x hx [(kS, seqObj "list" kA e), (a, seqObj "list" #[] e1)] s' H' xs I' hR') (fun v s'' he => ?_) fun _ _ hF => hF.elim))
    obtain ⟨y, H2, rv, I2, hR2⟩ := he
    try dsimp only
    have I2 : Inv X ((kS, seqObj "list" kA e) :: (a, seqObj "list" #[] e1) :: pins) σ H2 s'' := I2
    have pk := I2.pin (kS, seqObj "list" kA e) (List.mem_append_right _ (.head _))
    have s1 := Heap.SameBut.update s''.heap kS (Obj.mapSeq (·.push v))
    obtain ⟨c2, hc2⟩ : ∃ c2, (s''.heap.update kS (Obj.mapSeq (·.push v))).get? kS = some (seqObj "list" (kA.push v) c2) := ⟨_, get?_update_seq pk.1 (·.push v)⟩
    have ea : (kA.push v).toList = kA.toList ++ [v] := by simp
    refine wpAny_bind (listUpdate_at pk.1 rfl ?_ (Nat.le_trans hz hZ) (Nat.le_trans (Nat.le_of_eq (Array.size_push ..)) (Nat.succ_le_succ (Nat.le_trans hz hZ))))
    have fk : FpOk X ((a, seqObj "list" #[] e1) :: pins) H2 kS := ⟨pk.2.1, own1_cons ok (Ne.symm hka)⟩
    have I3 := (Inv.unpin1 I2).turnedL (h' := s''.heap.update kS (Obj.mapSeq (·.push v))) (t' := s''.toks) (ch := [kS]) (fun b o hb q => (s1.2 b fun z => hb (by simp [z])).trans q) fun b hb => by
      have : b = kS := by simpa using hb
      subst this; exact fk
    have I4 := Inv.pin1 I3 fk hc2 (fun v z => nomatch z)
    exact wpAny_pure ⟨rfl, H2, xs ++ [y], kA.push v, c2, I4, hR2, by rw [ea]; exact vals_snoc rv hv, by rw [Array.size_push, hks]⟩
  case done =>
    rintro s' ⟨H', xs, kA, e, I', hR', hv, hks⟩
    rw [Nat.zero_add] at hR' hks
    have pk := I'.pin (kS, seqObj "list" kA e) (List.mem_append_right _ (.head _))
    obtain ⟨as, hr⟩ := Dp.readsAll I' kz xs kA.toList (hRd H' xs hR') hv
    have hea := each_of_reads hr
    try dsimp only
    refine wpAny_bind (listItems_at pk.1 rfl ?_)
    exact ksd_end I' ok oa hka (PySem.W.SortsAt.data hea hal hsk hu) hks hZ fun s3 c I3 n3 h3 => h s3 H' _ xs c I3 hR' n3 h3 ⟨_, kA.toList, hal, rfl, hea⟩
theorem ksd_sort {f : Value} {H : Hp} {s : Shared} {n : Nat} {P : PySem.Fin → Shared → Prop} {kz : List PyData} (I : Inv X pins σ H s) (ho : s.heap.get? a = some (seqObj "list" vs.toArray n)) (fa : FpOk X pins H a)
    (hlen : kz.length = vs.length) (hZ : vs.length ≤ sizeLine) (hal : PySem.W.AllAlike kz) (hsk : PySem.W.Sortable kz) (hu : ∀ d, d ∈ kz → A.units + d.depth < cLine) (turn : KeyTurnD X pins σ A f vs R) (hR : R 0 H []) (hRd : ∀ H xs, R vs.length H xs → DpAll X.K H xs kz)
    (h : ∀ (s' : Shared) (H' : Hp) (out : List Value) (xs : List V) (c : Nat), Inv X pins σ H' s' → R vs.length H' xs → H' a = none → s'.heap.get? a = some (seqObj "list" out.toArray c) → PySem.W.KeyedOut false kz vs out → P (.done (.ret .none)) s') :
    wpAny (model X.prog X.w) A (ksk_tree a f false) P E s := by
  have hZ2 := hZ
  rw [sizeLine_eq] at hZ2
  have ha : a < s.heap.objs.size := Heap.lt_size ho
  have s1 := Heap.SameBut.update s.heap a (Obj.mapSeq fun _ => (#[] : Array Value))
  obtain ⟨e1, ho1⟩ : ∃ e1, (s.heap.update a (Obj.mapSeq fun _ => (#[] : Array Value))).get? a = some (seqObj "list" #[] e1) := ⟨_, get?_update_seq ho fun _ => #[]⟩
  have I1 := I.turnedL (h' := s.heap.update a (Obj.mapSeq fun _ => (#[] : Array Value))) (t' := s.toks) (ch := [a]) (fun b o hb q => (s1.2 b fun z => hb (by simp [z])).trans q) fun b hb => by
    have : b = a := by simpa using hb
    subst this; exact fa
  have I2 := I1.kept (h' := (s.heap.update a (Obj.mapSeq fun _ => (#[] : Array Value))).push (seqObj "tuple" vs.toArray 0)) (t' := s.toks) fun b o q => Heap.get?_push_of_some _ q
  have I3 := I2.kept (h' := ((s.heap.update a (Obj.mapSeq fun _ => (#[] : Array Value))).push (seqObj "tuple" vs.toArray 0)).push (seqObj "list" #[] 0)) (t' := s.toks) fun b o q => Heap.get?_push_of_some _ q
  have nk : H ((s.heap.update a (Obj.mapSeq fun _ => (#[] : Array Value))).push (seqObj "tuple" vs.toArray 0)).objs.size = none := I2.hok.fresh (Nat.le_refl _)
  have fk := I2.fpOk (Nat.le_refl _) nk
  have hkS : ((s.heap.update a (Obj.mapSeq fun _ => (#[] : Array Value))).push (seqObj "tuple" vs.toArray 0)).objs.size = s.heap.objs.size + 1 := by rw [size_push', Heap.size_update]
  have hka : ((s.heap.update a (Obj.mapSeq fun _ => (#[] : Array Value))).push (seqObj "tuple" vs.toArray 0)).objs.size ≠ a := by rw [hkS]; exact Nat.ne_of_gt (Nat.lt_succ_of_lt ha)
  have J1 := Inv.pin1 I3 fa (Heap.get?_push_of_some _ (Heap.get?_push_of_some _ ho1)) (fun v z => nomatch z)
  have J2 := Inv.pin1 J1 ⟨nk, own1_cons fk.2 (Ne.symm hka)⟩ (Heap.get?_push_size _ rfl) (fun v z => nomatch z)
  unfold ksk_tree
  refine wpAny_bind (listItems_at ho rfl ?_)
  refine wpAny_bind (listUpdate_at ho rfl ?_ (by rw [List.size_toArray, sizeLine_eq]; omega) (Nat.zero_le _))
  refine wpAny_bind (seqEpoch_at ho1 rfl ?_)
  refine wpAny_bind (wpAny_newTuple ?_ (by show vs.length ≤ _; rw [sizeLine_eq]; omega))
  refine wpAny_bind (wpAny_newList ?_ (Nat.zero_le _))
  refine wpAny_holding ?_
  exact ksd_rest J2 fk.2 fa.2 hka hlen hZ hal hsk hu turn hR hRd h
end
end Fx
namespace Fx
open PySem PySem.Spec L2 LamX PyProof.Rows
/-! ### the lambda whose name is a name of its outer one too -/
/-- the context of the lambda's body: nothing is raised -/
def lamCx2 (N0 : List Str) (X : Cx) (A : Around) (outer : List Env) (s : Shared) (H : Hp) (scope : Scope) (f c' : Addr) (p : Str) : Cx where
  prog := X.prog
  w := X.w
  K := X.K
  mg := X.mg
  base := X.base
  A := A.deeper (lamEnv X scope s.heap.objs.size f c')
  N := N0 ++ [p]
  s_0 := s
  H_0 := H
  env := lamEnv X scope s.heap.objs.size f c'
  outer := outer
  stack := lamEnv X scope s.heap.objs.size f c' :: outer
  ex := []
  fn := fun _ => false
  calm := true
  pn := []
  xe := fun _ _ => False
instance fits_lam2 {N0 : List Str} {G : Gm} {X : Cx} [F : Fits G X] {A : Around} {outer : List Env} {s : Shared} {H : Hp} {scope : Scope} {f c' : Addr} {p : Str} : Fits G (lamCx2 N0 X A outer s H scope f c' p) := ⟨F.P, F.w, F.K⟩
theorem here_lam2 {N0 : List Str} {X : Cx} {A : Around} {outer : List Env} {s : Shared} {H : Hp} {scope : Scope} {f c' : Addr} {p : Str} {k : Nat} (hr : Room k (A.deeper (lamEnv X scope s.heap.objs.size f c'))) : Here (lamCx2 N0 X A outer s H scope f c' p) W0 k :=
  ⟨hr, L2.takes0, PassesOwn.never⟩
section
variable {X : Cx} {pins : List (Addr × Obj)} {σ : L2.St} {H : Hp} {s : Shared}
theorem lam_start2 {N0 : List Str} {A : Around} {outer : List Env} {scope : Scope} {f c' : Addr} {h₁ : Heap} {tk : Nat} {p : Str} {v : V} {u : Value} (I : Inv X pins σ H s) (L : LamS1 X.env.scope scope p) (e0 : Env0 X.prog X.w X.K X.mg X.base A outer s H) (hd : A.handled = none) (hN0 : ∀ (i : Nat) (y : Str), N0[i]? = some y → Vis scope y → X.N[i]? = some y ∧ y ≠ p) (hl0 : N0.length = X.N.length) (rv : RelV v u)
    (hns : h₁.Ns s.heap.objs.size fun y => ([(p, u)] : List (Str × Value)).reverse.lookup y) (kp : ∀ b o, s.heap.get? b = some o → h₁.get? b = some o) :
    Inv (lamCx2 N0 X A outer s H scope f c' p) [] (σ ++ [some v]) H { s with heap := h₁, toks := tk } := by
  have hfree := L.has I.ok
  have cm : ∀ {y c}, (cloFrom X.env.cells scope.names []).lookup y = some c → X.env.cells.lookup y = some c := fun {y c} e => by
    rcases cloFrom_mem (PySem.mem_of_lookup e) with hm | ⟨h1, h2⟩
    · cases hm
    · obtain ⟨c1, hc⟩ := hfree _ h1 rfl
      have hc : X.env.cells.lookup y = some c1 := hc
      have e2 : c = c1 := by
        rw [h2, hc] <;> rfl
      rw [e2]
      exact hc
  have look : ∀ {y}, scope.names.lookup y = some .free → ∃ c, (cloFrom X.env.cells scope.names []).lookup y = some c := fun {y} hl => by
    have hy : (y, NameKind.free) ∈ scope.names := PySem.mem_of_lookup hl
    exact mem_lookup (cloFrom_has (cells := X.env.cells) (acc := []) hy)
  have cellK : ∀ {c : Addr} {v : Option Value}, s.heap.IsCell c v → h₁.IsCell c v := fun {c v} ⟨o, ho, hd⟩ => ⟨o, kp _ _ ho, hd⟩
  have noA : ∀ b : Addr, b ∉ (lamCx2 N0 X A outer s H scope f c' p).ex := fun b z => absurd (show b ∈ ([] : List Addr) from z) (by simp)
  refine ⟨⟨e0.mod, L.kind, rfl, rfl, Nat.le_refl _, fun y z c e1 e2 => I.ok.inj y z c (cm e1) (cm e2), fun y hy => ?_, fun y c z _ => ?_, fun _ => hd, Around.frames_deeper e0.frames, .inr ⟨rfl, rfl⟩, fun b z => absurd z (noA b), e0.bs, e0.bsz, fun b _ _ => noA b,
      fun b z => absurd z (noA b), e0.funs, e0.frf⟩,
    rfl, e0.bare, Un.kept kp, ⟨_, hns, fun i y w e1 e2 e3 => ?_⟩, fun y c e => ?_, e0.hok.fresh (Nat.le_refl _), fun y c e => I.freeC y c (cm e), fun q hq => absurd (show q ∈ ([] : List (Addr × Obj)) ++ [] from hq) (by simp), e0.hok.kept kp, ?_⟩
  · have hy : scope.names.lookup y = some .cell ∨ scope.names.lookup y = some .free := hy
    rcases hy with hy | hy
    · exact absurd rfl (L.own _ (PySem.mem_of_lookup hy)).1
    · exact look hy
  · have z : false = true := z
    cases z
  · have e3 : Vis scope y := e3
    have e1 : (N0 ++ [p])[i]? = some y := e1
    by_cases hi : i < N0.length
    · rw [List.getElem?_append_left hi] at e1
      obtain ⟨e1, hyp⟩ := hN0 i y e1 e3
      rw [List.getElem?_append_left (by rw [I.len, ← hl0]; exact hi)] at e2
      rcases e3 with k | k | k
      · exact absurd ((L.own _ (PySem.mem_of_lookup k)).2 rfl) fun z => hyp z
      · exact absurd rfl (L.own _ (PySem.mem_of_lookup k)).1
      · obtain ⟨m, hn, hl⟩ := I.loc
        have hvis : Vis X.env.scope y := (L.free _ (PySem.mem_of_lookup k) rfl).elim (fun k => .inr (.inl k)) (fun k => .inr (.inr k))
        obtain ⟨w', r, q⟩ := hl i y w e1 e2 hvis
        obtain ⟨c2, h2⟩ := look k
        refine ⟨w', r, .inr ⟨.inr k, c2, h2, ?_⟩⟩
        have c1 := cm h2
        rcases q with ⟨k', _⟩ | ⟨_, c3, e', z⟩
        · have k' : X.env.scope.names.lookup y = some .local := k'
          rcases L.free _ (PySem.mem_of_lookup k) rfl with k2 | k2 <;> rw [show X.env.scope.names.lookup y = _ from k2] at k' <;> cases k'
        · rw [c1] at e'
          cases e'
          exact cellK z
    · have hi2 : i = N0.length := by
        have := (List.getElem?_eq_some_iff.mp e1).1
        simp at this
        omega
      subst hi2
      rw [List.getElem?_append_right (Nat.le_refl _)] at e1
      rw [List.getElem?_append_right (by rw [I.len, hl0]; exact Nat.le_refl _), I.len, hl0] at e2
      simp at e1 e2
      subst e1 e2
      exact ⟨u, rv, .inl ⟨L.par, by simp⟩⟩
  · obtain ⟨w', z⟩ := I.cell y c (cm e)
    exact ⟨w', cellK z⟩
  · show (σ ++ [some v]).length = (N0 ++ [p]).length
    simp [I.len, hl0]
end
/-! ### the mirror -/
def keyDD (fb : FE) (σ : Sl) (S : Sto) (d : D) : Option D := match fb (σ ++ [some d]) S with
  | .ok k S' => if stoEq S' S then some k else none
  | _ => none
def keysDD (fb : FE) (σ : Sl) (S : Sto) : List D → Option (List D)
  | [] => some []
  | d :: ds => (keyDD fb σ S d).bind fun k => (keysDD fb σ S ds).map (k :: ·)
def isTupP : PyData → Bool
  | .tuple (_ :: _) => true
  | _ => false
def okKeys (ps : List PyData) : Bool := (ps.all fun p => ps.all fun q => PySem.W.alike p q) && ps.all fun p => isTupP p && decide (p.depth ≤ 60)
def sortD (ps : List PyData) (xs : List D) : List D := ((ps.zip xs).mergeSort (PySem.W.dataLe false fun p : PyData × D => p.1)).map (·.2)
def fSortD (fa fb : FE) : FL := fun σ S => (fa σ S).bind fun x S1 => match seqL x S1 with
  | some xs => (match keysDD fb σ S1 xs with
    | some kds => (match pds0 kds with
      | some ps => if okKeys ps then .ok (sortD ps xs) S1 else .stuck
      | none => .stuck)
    | none => .stuck)
  | none => .stuck
theorem keysDD_at {fb : FE} {σ : Sl} {S : Sto} : ∀ {ds : List D} {kz : List D}, keysDD fb σ S ds = some kz → ds.length = kz.length ∧ ∀ (i : Nat) (d : D) (k : D), ds[i]? = some d → kz[i]? = some k → fb (σ ++ [some d]) S = .ok k S
  | [], kz, h => by
    cases h
    exact ⟨rfl, fun i d k h => by simp at h⟩
  | d :: ds, kz, h => by
    unfold keysDD at h
    cases h1 : keyDD fb σ S d with
    | none => rw [h1] at h; cases h
    | some k1 =>
      rw [h1] at h
      cases h2 : keysDD fb σ S ds with
      | none => rw [h2] at h; cases h
      | some kz1 =>
        rw [h2] at h
        cases h
        obtain ⟨l1, l2⟩ := keysDD_at h2
        refine ⟨by simp [l1], fun i d' k' e1 e2 => ?_⟩
        cases i with
        | zero =>
          simp at e1 e2
          subst e1 e2
          unfold keyDD at h1
          split at h1
          · rename_i k S' hf
            split at h1
            · rename_i hS
              cases h1
              rw [hf, stoEq_eq hS]
            · cases h1
          · cases h1
        | succ i => exact l2 i d' k' (by simpa using e1) (by simpa using e2)
theorem pds_len {r : Nat → Option PyData} : ∀ {ds : List D} {ps : List PyData}, pds r ds = some ps → ps.length = ds.length
  | [], ps, h => by rw [pds] at h; cases h; rfl
  | d :: ds, ps, h => by
    rw [pds] at h
    split at h
    · rename_i p qs e1 e2
      cases h
      rw [List.length_cons, List.length_cons, pds_len e2]
    · cases h
theorem okKeys_of {ps : List PyData} (h : okKeys ps = true) : PySem.W.AllAlike ps ∧ PySem.W.Sortable ps ∧ ∀ p ∈ ps, p.depth ≤ 60 := by
  unfold okKeys at h
  rw [Bool.and_eq_true, List.all_eq_true, List.all_eq_true] at h
  obtain ⟨h1, h2⟩ := h
  refine ⟨fun d hd d' hd' => (List.all_eq_true.mp (h1 d hd)) d' hd', .inl fun d hd => ?_, fun p hp => ?_⟩
  · have := h2 d hd
    rw [Bool.and_eq_true] at this
    unfold isTupP at this
    split at this
    · exact ⟨_, _, rfl⟩
    · exact absurd this.1 (by simp)
  · have := h2 p hp
    rw [Bool.and_eq_true] at this
    exact of_decide_eq_true this.2
theorem vals_get : ∀ {xs : List V} {us : List Value} {i : Nat} {u : Value}, Vals xs us → us[i]? = some u → ∃ x, xs[i]? = some x ∧ RelV x u
  | _, _, i, u, .nil, h => by simp at h
  | x :: xs, v :: us, 0, u, .cons r t, h => by
    simp at h
    subst h
    exact ⟨x, rfl, r⟩
  | x :: xs, v :: us, i + 1, u, .cons r t, h => by
    obtain ⟨y, h1, h2⟩ := vals_get t (by simpa using h)
    exact ⟨y, by simpa using h1, h2⟩
section
variable {G : Gm} {X : Cx} {pins : List (Addr × Obj)} {σ : L2.St} {ρ1 η : List Addr} {H1 : Hp} {σd : Sl} {S1 : Sto} {fb : FE} {ks kds : List D} {xs : List V} {vs : List Value} {f c' : Addr} {pm ctv : Value} {params : Arguments} {body : Expr} {scope : Scope} {nm : Str} {k : Nat} {N0 : List Str}
/-- what stays while the keys are told -/
def KeyRD (G : Gm) (X : Cx) (ρ1 η : List Addr) (H1 : Hp) (S1 : Sto) (c' : Addr) (kds : List D) : Nat → Hp → List V → Prop := fun i H xs => H c' = some (CodeO c' (X.env.qual ++ "<lambda>")) ∧ ∃ ρ', Ext ρ1 H1 ρ' H ∧ RS G ρ' η H S1 ∧ RDs G ρ' η H (kds.take i) xs
theorem RDs.snoc {ρ : List Addr} {H : Hp} {d : D} {v : V} {ds : List D} {vs : List V} (h : RDs G ρ η H ds vs) (r : RD G ρ η H d v) : RDs G ρ η H (ds ++ [d]) (vs ++ [v]) := RDs.append h (RDs.cons r RDs.nil)
theorem key_turnD [F : Fits G X] (hr : Room (k + 3) X.A) (L : LamS1 X.env.scope scope nm) (hN0 : ∀ (i : Nat) (y : Str), N0[i]? = some y → Vis scope y → X.N[i]? = some y ∧ y ≠ nm) (hl0 : N0.length = X.N.length)
    (hb : ∀ (A : Around) (outer : List Env) (s : Shared) (H : Hp) (f c' : Addr), Here (lamCx2 N0 X A outer s H scope f c' nm) W0 k → JE G (lamCx2 N0 X A outer s H scope f c' nm) W0 body fb)
    (hbind : ∀ (q : Str) (cl : List (Str × Addr)) (pm cv ctv u : Value), bindArgs (PySem.W.kla_fn "<lambda>" q params body scope cl pm cv ctv) ⟨[u], []⟩ = pure [(nm, u)])
    (rσ : RSl G ρ1 η H1 σd σ) (rk : RDs G ρ1 η H1 ks xs) (rv : Vals xs vs) (hz : keysDD fb σd S1 ks = some kds) :
    KeyTurnD X ((f, lamO X params body scope pm c' ctv) :: pins) σ X.A.in1.in1 (.ref f) vs (KeyRD G X ρ1 η H1 S1 c' kds) := by
  intro i v hv own s H ys I ⟨hco, ρ', e, rs, ry⟩
  obtain ⟨hl, hat⟩ := keysDD_at hz
  obtain ⟨x, hx, rxv⟩ := vals_get rv hv
  have hi : i < ks.length := by
    rw [← rk.length]
    exact (List.getElem?_eq_some_iff.mp hx).1
  have hd : ks[i]? = some ks[i] := List.getElem?_eq_getElem hi
  have hi2 : i < kds.length := by omega
  have hn : kds[i]? = some kds[i] := List.getElem?_eq_getElem hi2
  obtain ⟨w, hw, rw'⟩ := rk.get hd
  rw [hx] at hw
  cases hw
  have hf := hat i _ _ hd hn
  have et : kds.take (i + 1) = kds.take i ++ [kds[i]] := by rw [List.take_add_one, hn]; rfl
  have of1 := (I.pin (f, lamO X params body scope pm c' ctv) (List.mem_append_right _ (List.mem_append_right _ (.head _)))).1
  obtain ⟨⟨oc, vs0, t, hoc, hdc, hvc⟩, _, _⟩ := I.hok c' _ hco
  have hr2 : Room (k + 1) X.A.in1.in1 := hr.in1.in1
  have rc : codeAny (model X.prog X.w) X.A.in1.in1 (.call (.ref f) ⟨[v], []⟩) (fun r s' => match r with
      | .ok (.ret u) => ∃ y H', RelV y u ∧ Inv X (own ++ (f, lamO X params body scope pm c' ctv) :: pins) σ H' s' ∧ KeyRD G X ρ1 η H1 S1 c' kds (i + 1) H' (ys ++ [y])
      | _ => False) s := by
    refine PySem.W.kla_callFunE hr2.depth of1 rfl L.co L.gen rfl ⟨c', oc, vs0, t, rfl, hoc, hdc, hvc⟩ ?_
    rw [hbind]
    refine wpAny_pure (wpAny_newFunctionEnv (fun y hy => (L.own y hy).1) (fun y hy => ?_) (fun h₁ hns hsb => ⟨I.nolimit.fresh _ hsb, ?_⟩) L.kind)
    · have : y = (nm, v) := by simpa using hy
      subst this
      exact L.par
    · show codeAny _ _ (.expr body (lamEnv X scope s.heap.objs.size f c')) _ _
      have kp : ∀ b o, s.heap.get? b = some o → h₁.get? b = some o := fun b o e => hsb.extBut b o (Nat.ne_of_lt (Heap.lt_size e)) (Heap.get?_push_of_some _ e)
      have J : Inv (lamCx2 N0 X X.A.in1.in1 X.stack s H scope f c' nm) [] (σ ++ [some x]) H { s with heap := h₁, toks := s.toks + ([(nm, v)] : List (Str × Value)).length } :=
        lam_start2 I L I.env0.in1.in1 hr2.hd hN0 hl0 rxv hns kp
      refine PySem.W.kla_codeExpr (wpAny_mono ((hb _ X.stack s H f c' (here_lam2 (hr2.deeper _))).pe.run [] _ _ H (fun y H' => KeyRD G X ρ1 η H1 S1 c' kds (i + 1) H' (ys ++ [y])) J ⟨ρ', η, _, S1, (rσ.ext e).snoc (rw'.ext e), rs, ?_⟩) (fun v s' hq => ?_) fun e s' hq => hq.elim)
      · rw [hf]
        intro ρ2 H2 v2 e2 rs2 rd2
        refine ⟨(e2.st c' _ hco (code_notin I rs hco) codeO_ne).1, ρ2, e.trans e2, rs2, ?_⟩
        rw [et]
        exact (ry.ext e2).snoc rd2
      · obtain ⟨x, H', J', rv, kr⟩ := hq
        exact ⟨x, H', rv, I.call' (ch := []) J'.os J'.base J'.hok J'.bare (fun b hb => absurd hb (by simp)), kr⟩
  refine wpAny_call (codeAny_mono rc fun r s' hq => ?_)
  cases r with
  | error e => exact hq.elim
  | ok fl =>
    cases fl with
    | ret u => exact hq
    | next => exact False.elim hq
    | brk => exact False.elim hq
    | cont => exact False.elim hq
theorem each_zip {ρ : List Addr} {H : Hp} : ∀ {ps : List PyData} {ds : List D} {xs : List V} {vs : List Value}, ps.length = ds.length → RDs G ρ η H ds xs → Vals xs vs → PySem.W.EachIs (fun (v : Value) (b : PyData × D) => ∃ x, RelV x v ∧ RD G ρ η H b.2 x) vs (ps.zip ds)
  | [], [], xs, vs, _, h, r => by
    rw [RDs] at h
    subst h
    cases r
    exact .nil
  | [], _ :: _, _, _, h, _, _ => by cases h
  | _ :: _, [], _, _, h, _, _ => by cases h
  | p :: ps, d :: ds, xs, vs, hl, h, r => by
    rw [RDs] at h
    obtain ⟨v, vs', rfl, h1, h2⟩ := h
    cases r with
    | cons r1 r2 => exact .cons ⟨v, r1, h1⟩ (each_zip (by simpa using hl) h2 r2)
theorem zip_each {ρ : List Addr} {H : Hp} : ∀ {bs : List (PyData × D)} {vs : List Value}, PySem.W.EachIs (fun (v : Value) (b : PyData × D) => ∃ x, RelV x v ∧ RD G ρ η H b.2 x) vs bs → ∃ xs, Vals xs vs ∧ RDs G ρ η H (bs.map (·.2)) xs
  | _, _, .nil => ⟨[], .nil, by rw [List.map_nil, RDs]⟩
  | _, _, .cons ⟨x, h1, h2⟩ t => by
    obtain ⟨xs, h3, h4⟩ := zip_each t
    refine ⟨x :: xs, .cons h1 h3, ?_⟩
    rw [List.map_cons, RDs]
    exact ⟨x, xs, rfl, h2, h4⟩
theorem map_fst_zip' {α β : Type} : ∀ {a : List α} {b : List β}, a.length = b.length → (a.zip b).map (·.1) = a
  | [], _, _ => rfl
  | _ :: _, [], h => by cases h
  | x :: a, y :: b, h => by rw [List.zip_cons_cons, List.map_cons, map_fst_zip' (by simpa using h)]
/-- sorted(xs, key=f) of a list -/
theorem sorted_keyedD [F : Fits G X] {s : Shared} {l : Addr} {ps : List PyData} {Q : VK} (hu : X.A.units + 64 < cLine) (I : Inv X ((f, lamO X params body scope pm c' ctv) :: pins) σ H1 s) (hl : SqL G.K H1 l xs) (hlen : xs.length ≤ sizeLine) (rs : RS G ρ1 η H1 S1) (hco : H1 c' = some (CodeO c' (X.env.qual ++ "<lambda>")))
    (rk : RDs G ρ1 η H1 ks xs) (hz : keysDD fb σd S1 ks = some kds) (hp : pds0 kds = some ps) (hok : okKeys ps = true)
    (turn : ∀ vs, Vals xs vs → KeyTurnD X ((f, lamO X params body scope pm c' ctv) :: pins) σ X.A.in1.in1 (.ref f) vs (KeyRD G X ρ1 η H1 S1 c' kds))
    {ρ0 : List Addr} {H0 : Hp} (e00 : Ext ρ0 H0 ρ1 H1) (hQ : KL G η ρ0 H0 Q (sortD ps ks) S1) : wpAny (model X.prog X.w) X.A (call (.builtin "sorted") [.ref l] [(Str.ofString "key", .ref f)]) (EP X pins σ Q) X.xe s := by
  obtain ⟨vs, rv, ⟨o, n, ho, hcl, _, hdt⟩, _⟩ := I.list (show SqL X.K H1 l xs from F.K ▸ hl)
  obtain ⟨hal, hsk, hdp⟩ := okKeys_of hok
  have hvl : vs.length = xs.length := vals_len rv
  have hkl : kds.length = ks.length := (keysDD_at hz).1.symm
  have hpl : ps.length = kds.length := pds_len hp
  have hxl : xs.length = ks.length := rk.length
  refine PySem.W.sorted_of_sort (vs := vs) ⟨o, ho, hcl, n, hdt⟩ (by rw [hvl]; exact hlen) (ksk_s1 _ _) (fun _ => ksk_l1 _ _) fun E' => ?_
  rw [ksk_t1]
  have I1 : Inv X ((f, lamO X params body scope pm c' ctv) :: pins) σ H1 { s with heap := PySem.W.copyHeap s.heap vs } := I.kept (t' := s.toks) fun b o q => PySem.W.copyHeap_old q
  have nD : H1 (s.heap.objs.size + 1) = none := I.hok.fresh (Nat.le_succ _)
  have fD := I.fpOk (Nat.le_succ s.heap.objs.size) nD
  refine ksd_sort (kz := ps) I1 (PySem.W.copyHeap_at s.heap vs) fD (by omega) (by rw [hvl]; exact hlen) hal hsk (fun d hd => by
      have := hdp d hd
      show X.A.units + 1 + 1 + d.depth < cLine
      omega) (turn vs rv) ⟨hco, ρ1, Ext.refl _ _, rs, by rw [List.take_zero, RDs]⟩ (fun H ys ⟨_, ρ', e', rs', ry⟩ => ?_) fun s' H' out ys cc J ⟨_, ρ', e', rs', ry⟩ nA gA ko => ⟨rfl, ?_⟩
  · rw [List.take_of_length_le (by omega)] at ry
    have := dps_of (G := G) (fun n a p ha hp => by cases hp) ry hp
    exact F.K ▸ this
  · have hb : (ps.zip ks).map (fun p : PyData × D => p.1) = ps := map_fst_zip' (by omega)
    rw [← hb] at ko
    have ei := PySem.W.keyedOut_each (fun p : PyData × D => p.1) ko (each_zip (by omega) (rk.ext e') rv)
    obtain ⟨zs, vz, rz⟩ := zip_each ei
    have hzl : zs.length ≤ sizeLine := by
      have h1 : zs.length = (sortD ps ks).length := rz.length
      have h2 : (sortD ps ks).length = ks.length := by
        unfold sortD
        rw [List.length_map, List.length_mergeSort, List.length_zip]
        omega
      omega
    have J2 : Inv X ((f, lamO X params body scope pm c' ctv) :: pins) σ (upd H' (s.heap.objs.size + 1) (.lst zs)) s' :=
      J.take (h' := s'.heap) (t' := s'.toks) (fun b ob _ q => q) ⟨nA, fD.2⟩ ⟨hzl, _, cc, vz, by rw [gA]⟩
    exact ⟨V.ref (s.heap.objs.size + 1), _, Inv.unpin1 J2, rfl, newList (fun a ha => rs'.somes a ((e00.trans e').mem ha)) (e00.trans e') rs' rz hzl nA hQ⟩
end
end Fx
namespace Fx
open PySem PySem.Spec L2 LamX PyProof.Rows
section
variable {G : Gm} {X : Cx} {W : WX} {k j : Nat} {a : Expr} {fa fb : FE} {params : Arguments} {body : Expr} {scope : Scope} {p q lpos kpos pos : Pos} {c P : Addr} {nm : Str} {key : Option Str} {N0 : List Str}
def outSortD (fb : FE) (σd : Sl) (x : D) (S1 : Sto) : Out (List D) := match seqL x S1 with
  | some xs => (match keysDD fb σd S1 xs with
    | some kds => (match pds0 kds with
      | some ps => if okKeys ps then .ok (sortD ps xs) S1 else .stuck
      | none => .stuck)
    | none => .stuck)
  | none => .stuck
theorem jl_sortD [F : Fits G X] (h : Here X W j) (hkj : k + 3 ≤ j) (hc : X.calm = true) (hm : X.mg "sorted" = none) (ha : JE G X W a fa)
    (TB : TabB X.base X.mg c P) (hcode : X.env.code = .ref c) (hmT : (P, X.env.qual ++ "<lambda>") ∈ G.tb) (hu : ∀ p ∈ G.tb, p.1 = P → p.2 = X.env.qual ++ "<lambda>")
    (hb : ∀ (A : Around) (outer : List Env) (s : Shared) (H : Hp) (f c' : Addr), Here (lamCx2 N0 X A outer s H scope f c' nm) W0 k → JE G (lamCx2 N0 X A outer s H scope f c' nm) W0 body fb)
    (hbind : ∀ (q : Str) (cl : List (Str × Addr)) (pm cv ctv u : Value), bindArgs (PySem.W.kla_fn "<lambda>" q params body scope cl pm cv ctv) ⟨[u], []⟩ = pure [(nm, u)])
    (i0 : Nat) (hN0 : N0 = X.N.set i0 "" := by rfl) (L : lamSB1 X.env.scope scope nm = true := by rfl) (hnm : (N0.contains nm) = false := by rfl) (hv0 : scope.names.lookup ("" : Str) = none := by rfl) (hdef : defaultsOf params X.env = ([], []) := by rfl) (hg : Gl X "sorted" := by rfl)
    (he : backTo pos (starEach [a] X.env) = (false, eval a X.env) :: backTo pos (starEach [] X.env) := by rfl) (hpl : (backTo pos (starEach [a] X.env)).any (·.1) = false := by rfl)
    (hall : (backToKw pos (keywordEach [⟨key, .Lambda params body scope lpos, kpos⟩] X.env)).all (·.1.isSome) = true := by rfl) (hnone : (backToKw pos (keywordEach [⟨key, .Lambda params body scope lpos, kpos⟩] X.env)).any (·.1.isNone) = false := by rfl)
    (hks : (backToKw pos (keywordEach [⟨key, .Lambda params body scope lpos, kpos⟩] X.env)).filterMap (·.1) = [Str.ofString "key"] := by rfl)
    (ht : starEach [a] X.env = (false, eval a X.env) :: starEach [] X.env := by rfl) :
    JL G X W (.Call (.Name "sorted" q) [a] [⟨key, .Lambda params body scope lpos, kpos⟩] pos) (fSortD fa fb) := by
  have L1 := lamS1_by L
  have hl0 : N0.length = X.N.length := by rw [hN0, List.length_set]
  have hr0 : ∀ (i : Nat) (y : Str), N0[i]? = some y → Vis scope y → X.N[i]? = some y ∧ y ≠ nm := fun i y e v => by
    have hne : y ≠ nm := fun z => by
      have := List.mem_of_getElem? e
      rw [z] at this
      rw [List.contains_iff_mem.mpr this] at hnm
      cases hnm
    refine ⟨?_, hne⟩
    rw [hN0, List.getElem?_set] at e
    split at e
    · split at e
      · cases e
        unfold Vis at v
        rw [hv0] at v
        rcases v with v | v | v <;> cases v
      · cases e
    · exact e
  refine ⟨⟨fun pins s σ H Q I hh => ?_⟩⟩
  obtain ⟨ρ, η, σd, S, rσ, rs, pp⟩ := hh
  refine wpAny_Call_Name_kw (ld_blt (u := .builtin "sorted") I hg hm rfl ?_ (by decide) (by decide))
  refine callWith_kw ?_ he hpl hall hnone
  rw [hks]
  have hA := LE.of (Q' := fun u H1 => ∃ x S1 ρ1, Ext ρ H ρ1 H1 ∧ RSl G ρ1 η H1 σd σ ∧ RS G ρ1 η H1 S1 ∧ RD G ρ1 η H1 x u ∧ Post G η σ W ρ1 H1 (outSortD fb σd x S1) (KL G η ρ H Q)) rσ rs pp fun x S1 ρ1 H1 u e1 rσ1 rs1 rx p1 => ⟨x, S1, ρ1, e1, rσ1, rs1, rx, p1⟩
  refine thn ((pa_cons ha.pe pa_nil ht).run pos pins s σ H (fun vs H1 => ∃ u, vs = [u] ∧ ∃ x S1 ρ1, Ext ρ H ρ1 H1 ∧ RSl G ρ1 η H1 σd σ ∧ RS G ρ1 η H1 S1 ∧ RD G ρ1 η H1 x u ∧ Post G η σ W ρ1 H1 (outSortD fb σd x S1) (KL G η ρ H Q)) I ?_) fun us s1 ⟨vs, H1, I1, r1, q1⟩ => ?_
  · obtain ⟨a1, a2, a3, a4, a5, a6, a7⟩ := hA
    exact ⟨a1, a2, a3, a4, a5, a6, a7.imp fun d S' kk ρ' H' v e r rd => ⟨v, rfl, kk ρ' H' v e r rd⟩⟩
  obtain ⟨u, rfl, x, S1, ρ1, e1, rσ1, rs1, rx, p1⟩ := q1
  unfold outSortD at p1
  cases hdn : seqL x S1 with
  | none => rw [hdn] at p1; exact p1.elim
  | some ks =>
    rw [hdn] at p1
    dsimp only at p1
    cases hz : keysDD fb σd S1 ks with
    | none => rw [hz] at p1; exact p1.elim
    | some kds =>
      rw [hz] at p1
      dsimp only at p1
      cases hps : pds0 kds with
      | none => rw [hps] at p1; exact p1.elim
      | some ps =>
        rw [hps] at p1
        dsimp only at p1
        by_cases hok : okKeys ps = true
        · rw [if_pos hok] at p1
          obtain ⟨l, xs, rfl, hs, hl2, rk⟩ := seqL_at rs1 rx hdn
          obtain ⟨w1, rfl, hw1⟩ := r1.one
          obtain rfl : w1 = Value.ref l := hw1
          show wpAny _ _ (evalAll ((do let v ← eval (.Lambda params body scope lpos) X.env; standAt pos; pure v) :: [])) _ _ s1
          refine wpAny_evalAll_cons (wpAny_bind (lam_make2 (T := G.tb) I1 TB hcode hmT hu rs1.tab hdef (L1.has I.ok) fun f c' pm ctv H2 s2 I2 eN T2 hf hfn hfr hco => ?_))
          refine wpAny_bind (wpAny_standAt (wpAny_pure (wpAny_evalAll_nil ?_)))
          obtain ⟨rs2, ex⟩ := rs1.extN eN T2
          have rσ2 := rσ1.ext ex
          have rk2 := rk.ext ex
          have hs2 : SqL G.K H2 l xs := hs.imp (fun r => r.imp (fun e => eN _ _ e (fun ps z => nomatch z)) (fun ⟨o, e⟩ => ⟨o, eN _ _ e (fun ps z => nomatch z)⟩)) (fun z => z)
          have nl : f ≠ X.env.locals := fun z => by
            obtain ⟨m, ⟨o, es, ep, ho, hd', _⟩, _⟩ := I2.loc
            rw [← z, hf] at ho
            cases ho
            cases hd'
          have nf : f ∉ X.fs := fun z => hfr (by
            rcases I2.ok.stk with e | ⟨e, he'⟩
            · rw [e]; exact z
            · rw [e]
              show f ∈ frs (X.env :: X.outer)
              unfold frs
              rw [List.filterMap_cons, he']
              exact List.mem_cons_of_mem _ z)
          have I3 : Inv X ((f, lamO X params body scope pm c' ctv) :: pins) σ H2 s2 := I2.pins_of fun pp hp => (List.mem_cons.mp hp).elim (fun z => by subst z; exact ⟨hf, hfn, nl, nf, fun v z => nomatch z⟩) fun z => I2.pin pp (List.mem_append_right _ z)
          exact sorted_keyedD (here_hu h) I3 hs2 hl2 rs2 hco rk2 hz hps hok (fun vs rv => key_turnD (h.room.mono hkj) L1 hr0 hl0 hb hbind rσ2 rk2 rv hz) (e1.trans ex) p1
        · rw [if_neg hok] at p1
          exact p1.elim
end
/-! ### equations -/
section
variable {fa fb : FE} {σ : Sl} {S : Sto}
def kSortD (fb : FE) (σ : Sl) : D → Sto → Out (List D) := outSortD fb σ
@[simp] theorem xSortD : fSortD fa fb σ S = (fa σ S).bind (kSortD fb σ) := rfl
end
end Fx

namespace K07
open PySem PySem.Spec L2 Fx
def top (i : Nat) : Stmt := PySem.Challenge.pw_crowdstairs_k07_landings_that_are_wanted.main.body.getD i (.Pass ⟨0, 0, 0, 0⟩)
abbrev s__wall : Stmt := top 0
abbrev s_BadPlan___init__ : Stmt := inClass (top 3) 0
abbrev s_BadState___init__ : Stmt := inClass (top 4) 0
abbrev s_BadDay___init__ : Stmt := inClass (top 5) 0
abbrev s_BadText___init__ : Stmt := inClass (top 6) 0
abbrev s_is_number : Stmt := top 22
abbrev s_need_places : Stmt := top 23
abbrev s_is_walker : Stmt := top 24
abbrev s_need_plan : Stmt := top 25
abbrev s_room : Stmt := top 26
abbrev s_way_of : Stmt := top 27
abbrev s_begin_of : Stmt := top 28
abbrev s_next_of : Stmt := top 29
abbrev s_has_room : Stmt := top 30
abbrev s_may_go : Stmt := top 31
abbrev s_gone_on : Stmt := top 32
abbrev s_left_of : Stmt := top 35
abbrev s_need_few : Stmt := top 36
abbrev s_Seeker___init__ : Stmt := inClass (top 37) 0
abbrev s_Seeker_later : Stmt := inClass (top 37) 1
abbrev s_Seeker_can : Stmt := inClass (top 37) 2
abbrev s_Seeker_reach : Stmt := inClass (top 37) 3
abbrev s_chosen : Stmt := top 38
abbrev s_with_landings : Stmt := top 39
abbrev s_widened : Stmt := top 40
abbrev s__law_begun : Stmt := top 42
abbrev s__law_take : Stmt := top 43
abbrev s__law_alike : Stmt := top 44
abbrev s__law_told : Stmt := top 45
abbrev s__law_places : Stmt := top 46
abbrev s__law_plan : Stmt := top 47
abbrev s__law_next : Stmt := top 48
abbrev s__law_may : Stmt := top 49
abbrev s__law_gone : Stmt := top 50
abbrev s__law_state : Stmt := top 51
abbrev s__law_reach : Stmt := top 52
abbrev s__law_good : Stmt := top 53
abbrev s__law_left : Stmt := top 54
abbrev s__law_lists : Stmt := top 55
abbrev s__law_widened : Stmt := top 56
abbrev s_law : Stmt := top 57
def t_ROOM : List (PySem.Str × Int) := [("s", 1), ("l", 2)]
def fl_number : List (Nat × Bool) := [(1, true), (2, true), (3, true), (4, true), (5, true), (6, true), (7, true), (8, true), (9, true), (10, true), (11, true), (12, true)]
def fl_part : List (Nat × Bool) := [(1, true), (2, true), (3, true), (4, true), (5, true), (6, true), (7, true), (8, true), (9, true), (10, true), (11, true), (12, true)]
def fl_row : List (Nat × Bool) := [(1, true), (2, true), (3, true), (4, true), (5, true), (6, true), (7, true), (8, true), (9, true), (10, true), (11, true), (12, true)]
def ht_StairError : List (Nat × Bool) := [(1, true), (2, true), (3, true), (4, true), (5, true), (6, true), (7, true), (8, true), (9, true), (10, true), (11, true), (12, true)]
def kt_BadCount : List (Nat × Bool) := [(1, false), (2, false), (3, false), (4, false), (5, false), (6, false), (7, true), (8, false), (9, false), (10, false), (11, false), (12, false)]
def kt_BadDay : List (Nat × Bool) := [(1, false), (2, false), (3, false), (4, true), (5, false), (6, false), (7, false), (8, false), (9, false), (10, false), (11, false), (12, false)]
def kt_BadPlan : List (Nat × Bool) := [(1, false), (2, true), (3, false), (4, false), (5, false), (6, false), (7, false), (8, false), (9, false), (10, false), (11, false), (12, false)]
def kt_BadRule : List (Nat × Bool) := [(1, false), (2, false), (3, false), (4, false), (5, false), (6, true), (7, false), (8, false), (9, false), (10, false), (11, false), (12, false)]
def kt_BadState : List (Nat × Bool) := [(1, false), (2, false), (3, true), (4, false), (5, false), (6, false), (7, false), (8, false), (9, false), (10, false), (11, false), (12, false)]
def kt_BadText : List (Nat × Bool) := [(1, false), (2, false), (3, false), (4, false), (5, true), (6, false), (7, false), (8, false), (9, false), (10, false), (11, false), (12, false)]
def kt_BadWalk : List (Nat × Bool) := [(1, false), (2, false), (3, false), (4, false), (5, false), (6, false), (7, false), (8, true), (9, false), (10, false), (11, false), (12, false)]
def kt_NoRoom : List (Nat × Bool) := [(1, false), (2, false), (3, false), (4, false), (5, false), (6, false), (7, false), (8, false), (9, true), (10, false), (11, false), (12, false)]
def kt_NoWalker : List (Nat × Bool) := [(1, false), (2, false), (3, false), (4, false), (5, false), (6, false), (7, false), (8, false), (9, false), (10, true), (11, false), (12, false)]
def kt_NoWay : List (Nat × Bool) := [(1, false), (2, false), (3, false), (4, false), (5, false), (6, false), (7, false), (8, false), (9, false), (10, false), (11, true), (12, false)]
def kt_TooMany : List (Nat × Bool) := [(1, false), (2, false), (3, false), (4, false), (5, false), (6, false), (7, false), (8, false), (9, false), (10, false), (11, false), (12, true)]
def kv_ValueError : List (Nat × Bool) := [(1, true), (2, true), (3, true), (4, true), (5, true), (6, true), (7, true), (8, true), (9, true), (10, true), (11, true), (12, true)]
abbrev X_StairError : Nat := 1
abbrev X_BadPlan : Nat := 2
abbrev X_BadState : Nat := 3
abbrev X_BadDay : Nat := 4
abbrev X_BadText : Nat := 5
abbrev X_BadRule : Nat := 6
abbrev X_BadCount : Nat := 7
abbrev X_BadWalk : Nat := 8
abbrev X_NoRoom : Nat := 9
abbrev X_NoWalker : Nat := 10
abbrev X_NoWay : Nat := 11
abbrev X_TooMany : Nat := 12

section
set_option maxHeartbeats 0
def dd__law_alike : He.DefD := ⟨("_law_alike", none), "_law_alike", "_law_alike", defArgs s__law_alike, defBody s__law_alike, defScope s__law_alike, [], []⟩
def dd__law_begun : He.DefD := ⟨("_law_begun", none), "_law_begun", "_law_begun", defArgs s__law_begun, defBody s__law_begun, defScope s__law_begun, [], []⟩
def dd__law_take : He.DefD := ⟨("_law_take", none), "_law_take", "_law_take", defArgs s__law_take, defBody s__law_take, defScope s__law_take, [], []⟩
def dd__law_places : He.DefD := ⟨("_law_places", none), "_law_places", "_law_places", defArgs s__law_places, defBody s__law_places, defScope s__law_places, [], []⟩
def dd__law_plan : He.DefD := ⟨("_law_plan", none), "_law_plan", "_law_plan", defArgs s__law_plan, defBody s__law_plan, defScope s__law_plan, [], []⟩
def dd__law_told : He.DefD := ⟨("_law_told", none), "_law_told", "_law_told", defArgs s__law_told, defBody s__law_told, defScope s__law_told, [], []⟩
def dd__law_left : He.DefD := ⟨("_law_left", none), "_law_left", "_law_left", defArgs s__law_left, defBody s__law_left, defScope s__law_left, [], []⟩
def dd__law_next : He.DefD := ⟨("_law_next", none), "_law_next", "_law_next", defArgs s__law_next, defBody s__law_next, defScope s__law_next, [], []⟩
def dd__law_gone : He.DefD := ⟨("_law_gone", none), "_law_gone", "_law_gone", defArgs s__law_gone, defBody s__law_gone, defScope s__law_gone, [], []⟩
def dd__law_may : He.DefD := ⟨("_law_may", none), "_law_may", "_law_may", defArgs s__law_may, defBody s__law_may, defScope s__law_may, [], []⟩
def dd__law_reach : He.DefD := ⟨("_law_reach", none), "_law_reach", "_law_reach", defArgs s__law_reach, defBody s__law_reach, defScope s__law_reach, [], []⟩
def dd__law_good : He.DefD := ⟨("_law_good", none), "_law_good", "_law_good", defArgs s__law_good, defBody s__law_good, defScope s__law_good, [], []⟩
def dd__law_lists : He.DefD := ⟨("_law_lists", none), "_law_lists", "_law_lists", defArgs s__law_lists, defBody s__law_lists, defScope s__law_lists, [], []⟩
def dd__law_widened : He.DefD := ⟨("_law_widened", none), "_law_widened", "_law_widened", defArgs s__law_widened, defBody s__law_widened, defScope s__law_widened, [], []⟩
def dd_Seeker___init__ : He.DefD := ⟨("Seeker", some "__init__"), "__init__", "Seeker.__init__", defArgs s_Seeker___init__, defBody s_Seeker___init__, defScope s_Seeker___init__, [], []⟩
def dd_way_of : He.DefD := ⟨("way_of", none), "way_of", "way_of", defArgs s_way_of, defBody s_way_of, defScope s_way_of, [], []⟩
def dd_next_of : He.DefD := ⟨("next_of", none), "next_of", "next_of", defArgs s_next_of, defBody s_next_of, defScope s_next_of, [], []⟩
def dd_gone_on : He.DefD := ⟨("gone_on", none), "gone_on", "gone_on", defArgs s_gone_on, defBody s_gone_on, defScope s_gone_on, [], []⟩
def dd_room : He.DefD := ⟨("room", none), "room", "room", defArgs s_room, defBody s_room, defScope s_room, [], []⟩
def dd_has_room : He.DefD := ⟨("has_room", none), "has_room", "has_room", defArgs s_has_room, defBody s_has_room, defScope s_has_room, [], []⟩
def dd_may_go : He.DefD := ⟨("may_go", none), "may_go", "may_go", defArgs s_may_go, defBody s_may_go, defScope s_may_go, [], []⟩
def dd_Seeker_later : He.DefD := ⟨("Seeker", some "later"), "later", "Seeker.later", defArgs s_Seeker_later, defBody s_Seeker_later, defScope s_Seeker_later, [], []⟩
def dd_Seeker_can : He.DefD := ⟨("Seeker", some "can"), "can", "Seeker.can", defArgs s_Seeker_can, defBody s_Seeker_can, defScope s_Seeker_can, [], []⟩
def dd_begin_of : He.DefD := ⟨("begin_of", none), "begin_of", "begin_of", defArgs s_begin_of, defBody s_begin_of, defScope s_begin_of, [], []⟩
def dd_chosen : He.DefD := ⟨("chosen", none), "chosen", "chosen", defArgs s_chosen, defBody s_chosen, defScope s_chosen, [], []⟩
def dd_left_of : He.DefD := ⟨("left_of", none), "left_of", "left_of", defArgs s_left_of, defBody s_left_of, defScope s_left_of, [], []⟩
def dd_need_few : He.DefD := ⟨("need_few", none), "need_few", "need_few", defArgs s_need_few, defBody s_need_few, defScope s_need_few, [], []⟩
def dd_BadPlan___init__ : He.DefD := ⟨("BadPlan", some "__init__"), "__init__", "BadPlan.__init__", defArgs s_BadPlan___init__, defBody s_BadPlan___init__, defScope s_BadPlan___init__, [], []⟩
def dd_is_number : He.DefD := ⟨("is_number", none), "is_number", "is_number", defArgs s_is_number, defBody s_is_number, defScope s_is_number, [], []⟩
def dd_is_walker : He.DefD := ⟨("is_walker", none), "is_walker", "is_walker", defArgs s_is_walker, defBody s_is_walker, defScope s_is_walker, [], []⟩
def dd_need_places : He.DefD := ⟨("need_places", none), "need_places", "need_places", defArgs s_need_places, defBody s_need_places, defScope s_need_places, [], []⟩
def dd_need_plan : He.DefD := ⟨("need_plan", none), "need_plan", "need_plan", defArgs s_need_plan, defBody s_need_plan, defScope s_need_plan, [], []⟩
def dd_with_landings : He.DefD := ⟨("with_landings", none), "with_landings", "with_landings", defArgs s_with_landings, defBody s_with_landings, defScope s_with_landings, [], []⟩
def dd_widened : He.DefD := ⟨("widened", none), "widened", "widened", defArgs s_widened, defBody s_widened, defScope s_widened, [], []⟩
def dd_law : He.DefD := ⟨("law", none), "law", "law", defArgs s_law, defBody s_law, defScope s_law, [], []⟩
def clsOf (K : PySem.W.Frag) : Nat → Addr := fun n => match n with | 0 => He.ga K "Seeker" | 1 => He.ga K "StairError" | 2 => He.ga K "BadPlan" | 3 => He.ga K "BadState" | 4 => He.ga K "BadDay" | 5 => He.ga K "BadText" | 6 => He.ga K "BadRule" | 7 => He.ga K "BadCount" | 8 => He.ga K "BadWalk" | 9 => He.ga K "NoRoom" | 10 => He.ga K "NoWalker" | 11 => He.ga K "NoWay" | 12 => He.ga K "TooMany" | _ => 0
def tf : List He.Defn := [("_law_good", none), ("_law_lists", none), ("law", none)]
def ctOf (K : PySem.W.Frag) : Nat → Addr × Addr := fun n => match n with | 0 => He.cT K ("_law_good", none) | 1 => He.cT K ("_law_lists", none) | 2 => He.cT K ("law", none) | _ => (0, 0)
def tbOf (K : PySem.W.Frag) : List (Addr × PySem.Str) := [((ctOf K 0).2, ("_law_good" ++ ".<locals>." ++ "<lambda>" : PySem.Str)), ((ctOf K 1).2, ("_law_lists" ++ ".<locals>." ++ "<lambda>" : PySem.Str)), ((ctOf K 2).2, ("law" ++ ".<locals>." ++ "<lambda>" : PySem.Str))]
def fn : List He.DefD := [dd__law_alike, dd__law_begun, dd__law_take, dd__law_places, dd__law_plan, dd__law_told, dd__law_left, dd__law_next, dd__law_gone, dd__law_may, dd__law_reach, dd__law_good, dd__law_lists, dd__law_widened, dd_Seeker___init__, dd_way_of, dd_next_of, dd_gone_on, dd_room, dd_has_room, dd_may_go, dd_Seeker_later, dd_Seeker_can, dd_begin_of, dd_chosen, dd_left_of, dd_need_few, dd_BadPlan___init__, dd_is_number, dd_is_walker, dd_need_places, dd_need_plan, dd_with_landings, dd_widened, dd_law]
def fa : List He.Fa := [.free "ValueError", .free "abs", .free "all", .free "any", .free "bool", .free "enumerate", .free "int", .free "isinstance", .free "len", .free "list", .free "range", .free "sorted", .free "str", .free "tuple", .free "zip", .int "LEAST_PLACES" (2), .int "MOST_LOAD" (3), .int "MOST_PLACES" (12), .int "MOST_STATES" (20000), .int "MOST_WALKERS" (5), .str "LANDING" "l", .str "STEP" "s", .glo "_law_alike", .glo "_law_begun", .glo "_law_take", .glo "_law_places", .glo "_law_plan", .glo "_law_told", .glo "_law_left", .glo "_law_next", .glo "_law_gone", .glo "_law_may", .glo "_law_reach", .glo "_law_good", .glo "_law_lists", .glo "_law_widened", .glo "way_of", .glo "next_of", .glo "gone_on", .glo "room", .glo "has_room", .glo "may_go", .glo "begin_of", .glo "chosen", .glo "left_of", .glo "need_few", .glo "is_number", .glo "is_walker", .glo "need_places", .glo "need_plan", .glo "with_landings", .glo "widened", .glo "law", .glo "ROOM", .glo "Seeker", .glo "StairError", .glo "BadPlan", .glo "BadState", .glo "BadDay", .glo "BadText", .glo "BadRule", .glo "BadCount", .glo "BadWalk", .glo "NoRoom", .glo "NoWalker", .glo "NoWay", .glo "TooMany", .cls "Seeker", .noat "Seeker" "known", .noat "Seeker" "plan", .mkr "Seeker", .meth "Seeker" "later", .meth "Seeker" "can", .meth "BadPlan" "__init__", .noat "BadPlan" "number", .noat "BadPlan" "part", .exc "NoWay", .exc "TooMany"]
def ts : List He.Tab := [(fun K => He.ga K "ROOM", ["s", "l"])]
def ex (K : PySem.W.Frag) : Bool := (tabB K "ROOM" t_ROOM && (fldB K (clsOf K) fl_number "number" && (fldB K (clsOf K) fl_part "part" && (fldB K (clsOf K) fl_row "row" && (hitB K (clsOf K) ht_StairError 1 && (iniB K (clsOf K 1) && (kitB K (clsOf K) kt_BadCount 7 && (kitB K (clsOf K) kt_BadDay 4 && (kitB K (clsOf K) kt_BadPlan 2 && (kitB K (clsOf K) kt_BadRule 6 && (kitB K (clsOf K) kt_BadState 3 && (kitB K (clsOf K) kt_BadText 5 && (kitB K (clsOf K) kt_BadWalk 8 && (kitB K (clsOf K) kt_NoRoom 9 && (kitB K (clsOf K) kt_NoWalker 10 && (kitB K (clsOf K) kt_NoWay 11 && (kitB K (clsOf K) kt_TooMany 12 && (kitVB K (clsOf K) kv_ValueError "ValueError" && (oexB K (clsOf K 2) && (tbB (tbOf K) (ctOf K 0).2 ("_law_good" ++ ".<locals>." ++ "<lambda>" : PySem.Str) && (tbB (tbOf K) (ctOf K 1).2 ("_law_lists" ++ ".<locals>." ++ "<lambda>" : PySem.Str) && (tbB (tbOf K) (ctOf K 2).2 ("law" ++ ".<locals>." ++ "<lambda>" : PySem.Str) && true))))))))))))))))))))))
def loose0 : List PySem.Str := ["_wall", "StairError", "BadPlan", "BadState", "BadDay", "BadText", "BadRule", "BadCount", "BadWalk", "NoRoom", "NoWalker", "NoWay", "TooMany", "STEP", "LANDING", "ROOM", "LEAST_PLACES", "MOST_PLACES", "MOST_WALKERS", "MOST_LOAD", "is_number", "need_places", "is_walker", "need_plan", "room", "way_of", "begin_of", "next_of", "has_room", "may_go"]
def loose1 : List PySem.Str := ["gone_on", "MOST_STATES", "left_of", "need_few", "Seeker", "chosen", "with_landings", "widened", "_law_begun", "_law_take", "_law_alike", "_law_told", "_law_places", "_law_plan", "_law_next", "_law_may", "_law_gone", "_law_state", "_law_reach", "_law_good", "_law_left", "_law_lists", "_law_widened"]
def loose : List PySem.Str := loose0 ++ loose1
abbrev R : PySem.W.OpenRow := PySem.W.OpenLaw.row PySem.Challenge.rw_crowdstairs_k07_landings_that_are_wanted
abbrev hk : PySem.W.Hook := Fx.hookY 5 fa fn ts tf ex
def ob (s : PySem.W.SharedT) : He.AlX := Fx.obsY 5 fa fn ts tf ex (HandSHeadRun.getT s)
theorem ob_eq (s : PySem.W.SharedT) : ob s = hk.obs s.abs := Fx.obsY_eq (HandSHeadRun.getT_eq s)
theorem run_f (w : World) : HandSHeadRun.RunEq R (PySem.W.view R.prog [57]) hk ob 40000 loose (w.withFollow "special-get-raises" false) := by intro os; kernel_rfl
theorem run_t (w : World) : HandSHeadRun.RunEq R (PySem.W.view R.prog [57]) hk ob 40000 loose (w.withFollow "special-get-raises" true) := by intro os; kernel_rfl
theorem run (w : World) : HandSHeadRun.RunEq R (PySem.W.view R.prog [57]) hk ob 40000 loose w :=
  PySem.W.byRow2 "special-get-raises" (P := fun w => HandSHeadRun.RunEq R (PySem.W.view R.prog [57]) hk ob 40000 loose w) run_f run_t w
end
structure Fc (P : Program) (w : World) (K : PySem.W.Frag) (mg : PySem.Str → Option Value) (cl : Nat → Addr) (tb : List (Addr × PySem.Str)) (base : Heap) (ct : Nat → Addr × Addr) : Prop where
  tab0 : LamX.TabB base mg (ct 0).1 (ct 0).2
  tbm0 : ((ct 0).2, ("_law_good" ++ ".<locals>." ++ "<lambda>" : PySem.Str)) ∈ tb
  tbu0 : ∀ p ∈ tb, p.1 = (ct 0).2 → p.2 = ("_law_good" ++ ".<locals>." ++ "<lambda>" : PySem.Str)
  tab1 : LamX.TabB base mg (ct 1).1 (ct 1).2
  tbm1 : ((ct 1).2, ("_law_lists" ++ ".<locals>." ++ "<lambda>" : PySem.Str)) ∈ tb
  tbu1 : ∀ p ∈ tb, p.1 = (ct 1).2 → p.2 = ("_law_lists" ++ ".<locals>." ++ "<lambda>" : PySem.Str)
  tab2 : LamX.TabB base mg (ct 2).1 (ct 2).2
  tbm2 : ((ct 2).2, ("law" ++ ".<locals>." ++ "<lambda>" : PySem.Str)) ∈ tb
  tbu2 : ∀ p ∈ tb, p.1 = (ct 2).2 → p.2 = ("law" ++ ".<locals>." ++ "<lambda>" : PySem.Str)
  fl_number : ∀ c b, fl_number.lookup c = some b → FldX ⟨P, w, K, cl, tb⟩ c "number"
  fl_part : ∀ c b, fl_part.lookup c = some b → FldX ⟨P, w, K, cl, tb⟩ c "part"
  fl_row : ∀ c b, fl_row.lookup c = some b → FldX ⟨P, w, K, cl, tb⟩ c "row"
  fr_ValueError : mg "ValueError" = none
  fr_abs : mg "abs" = none
  fr_all : mg "all" = none
  fr_any : mg "any" = none
  fr_bool : mg "bool" = none
  fr_enumerate : mg "enumerate" = none
  fr_int : mg "int" = none
  fr_isinstance : mg "isinstance" = none
  fr_len : mg "len" = none
  fr_list : mg "list" = none
  fr_range : mg "range" = none
  fr_sorted : mg "sorted" = none
  fr_str : mg "str" = none
  fr_tuple : mg "tuple" = none
  fr_zip : mg "zip" = none
  ht_StairError : ∀ c b, ht_StairError.lookup c = some b → PySem.W.exmOne K (.ref (cl c)) (.ref (cl 1)) = some b
  B_StairError : IniB K (cl 1)
  i_LEAST_PLACES : ∃ t, mg "LEAST_PLACES" = some (.int (2) t)
  i_MOST_LOAD : ∃ t, mg "MOST_LOAD" = some (.int (3) t)
  i_MOST_PLACES : ∃ t, mg "MOST_PLACES" = some (.int (12) t)
  i_MOST_STATES : ∃ t, mg "MOST_STATES" = some (.int (20000) t)
  i_MOST_WALKERS : ∃ t, mg "MOST_WALKERS" = some (.int (5) t)
  kt_BadCount : ∀ c b, kt_BadCount.lookup c = some b → KitF ⟨P, w, K, cl, tb⟩ c 7 b
  kt_BadDay : ∀ c b, kt_BadDay.lookup c = some b → KitF ⟨P, w, K, cl, tb⟩ c 4 b
  kt_BadPlan : ∀ c b, kt_BadPlan.lookup c = some b → KitF ⟨P, w, K, cl, tb⟩ c 2 b
  kt_BadRule : ∀ c b, kt_BadRule.lookup c = some b → KitF ⟨P, w, K, cl, tb⟩ c 6 b
  kt_BadState : ∀ c b, kt_BadState.lookup c = some b → KitF ⟨P, w, K, cl, tb⟩ c 3 b
  kt_BadText : ∀ c b, kt_BadText.lookup c = some b → KitF ⟨P, w, K, cl, tb⟩ c 5 b
  kt_BadWalk : ∀ c b, kt_BadWalk.lookup c = some b → KitF ⟨P, w, K, cl, tb⟩ c 8 b
  kt_NoRoom : ∀ c b, kt_NoRoom.lookup c = some b → KitF ⟨P, w, K, cl, tb⟩ c 9 b
  kt_NoWalker : ∀ c b, kt_NoWalker.lookup c = some b → KitF ⟨P, w, K, cl, tb⟩ c 10 b
  kt_NoWay : ∀ c b, kt_NoWay.lookup c = some b → KitF ⟨P, w, K, cl, tb⟩ c 11 b
  kt_TooMany : ∀ c b, kt_TooMany.lookup c = some b → KitF ⟨P, w, K, cl, tb⟩ c 12 b
  kv_ValueError : ∀ c b, kv_ValueError.lookup c = some b → KitV ⟨P, w, K, cl, tb⟩ c "ValueError" b
  m_BadCount : mg "BadCount" = some (.ref (cl 7))
  m_BadDay : mg "BadDay" = some (.ref (cl 4))
  m_BadPlan : mg "BadPlan" = some (.ref (cl 2))
  m_BadRule : mg "BadRule" = some (.ref (cl 6))
  m_BadState : mg "BadState" = some (.ref (cl 3))
  m_BadText : mg "BadText" = some (.ref (cl 5))
  m_BadWalk : mg "BadWalk" = some (.ref (cl 8))
  m_NoRoom : mg "NoRoom" = some (.ref (cl 9))
  m_NoWalker : mg "NoWalker" = some (.ref (cl 10))
  m_NoWay : mg "NoWay" = some (.ref (cl 11))
  m_StairError : mg "StairError" = some (.ref (cl 1))
  m_TooMany : mg "TooMany" = some (.ref (cl 12))
  n_BadPlan_number : PySem.W.findIn K (.ref (cl 2)) "number" = some none
  n_BadPlan_part : PySem.W.findIn K (.ref (cl 2)) "part" = some none
  T_BadPlan : OexC K (cl 2)
  s_LANDING : ∃ t, mg "LANDING" = some (.str "l" t)
  s_STEP : ∃ t, mg "STEP" = some (.str "s" t)
  t_ROOM : TabAt ⟨P, w, K, cl, tb⟩ mg "ROOM" t_ROOM
  x0_NoWay : Ex0 ⟨P, w, K, cl, tb⟩ mg 11 "NoWay"
  x0_TooMany : Ex0 ⟨P, w, K, cl, tb⟩ mg 12 "TooMany"
  a_known : FldF ⟨P, w, K, cl, tb⟩ 1 "known"
  a_plan : FldF ⟨P, w, K, cl, tb⟩ 1 "plan"
  d__law_alike : ∃ f fd, FunD K "_law_alike" "_law_alike" (defArgs s__law_alike) (defBody s__law_alike) (defScope s__law_alike) [] [] f fd ∧ mg "_law_alike" = some (.ref f)
  d__law_begun : ∃ f fd, FunD K "_law_begun" "_law_begun" (defArgs s__law_begun) (defBody s__law_begun) (defScope s__law_begun) [] [] f fd ∧ mg "_law_begun" = some (.ref f)
  d__law_take : ∃ f fd, FunD K "_law_take" "_law_take" (defArgs s__law_take) (defBody s__law_take) (defScope s__law_take) [] [] f fd ∧ mg "_law_take" = some (.ref f)
  d__law_places : ∃ f fd, FunD K "_law_places" "_law_places" (defArgs s__law_places) (defBody s__law_places) (defScope s__law_places) [] [] f fd ∧ mg "_law_places" = some (.ref f)
  d__law_plan : ∃ f fd, FunD K "_law_plan" "_law_plan" (defArgs s__law_plan) (defBody s__law_plan) (defScope s__law_plan) [] [] f fd ∧ mg "_law_plan" = some (.ref f)
  d__law_told : ∃ f fd, FunD K "_law_told" "_law_told" (defArgs s__law_told) (defBody s__law_told) (defScope s__law_told) [] [] f fd ∧ mg "_law_told" = some (.ref f)
  d__law_left : ∃ f fd, FunD K "_law_left" "_law_left" (defArgs s__law_left) (defBody s__law_left) (defScope s__law_left) [] [] f fd ∧ mg "_law_left" = some (.ref f)
  d__law_next : ∃ f fd, FunD K "_law_next" "_law_next" (defArgs s__law_next) (defBody s__law_next) (defScope s__law_next) [] [] f fd ∧ mg "_law_next" = some (.ref f)
  d__law_gone : ∃ f fd, FunD K "_law_gone" "_law_gone" (defArgs s__law_gone) (defBody s__law_gone) (defScope s__law_gone) [] [] f fd ∧ mg "_law_gone" = some (.ref f)
  d__law_may : ∃ f fd, FunD K "_law_may" "_law_may" (defArgs s__law_may) (defBody s__law_may) (defScope s__law_may) [] [] f fd ∧ mg "_law_may" = some (.ref f)
  d__law_reach : ∃ f fd, FunD K "_law_reach" "_law_reach" (defArgs s__law_reach) (defBody s__law_reach) (defScope s__law_reach) [] [] f fd ∧ mg "_law_reach" = some (.ref f)
  d__law_good : ∃ f fd, FunD K "_law_good" "_law_good" (defArgs s__law_good) (defBody s__law_good) (defScope s__law_good) [] [] f fd ∧ mg "_law_good" = some (.ref f) ∧ fd.code = .ref (ct 0).1
  d__law_lists : ∃ f fd, FunD K "_law_lists" "_law_lists" (defArgs s__law_lists) (defBody s__law_lists) (defScope s__law_lists) [] [] f fd ∧ mg "_law_lists" = some (.ref f) ∧ fd.code = .ref (ct 1).1
  d__law_widened : ∃ f fd, FunD K "_law_widened" "_law_widened" (defArgs s__law_widened) (defBody s__law_widened) (defScope s__law_widened) [] [] f fd ∧ mg "_law_widened" = some (.ref f)
  d_Seeker___init__ : ∃ f fd, FunD K "__init__" "Seeker.__init__" (defArgs s_Seeker___init__) (defBody s_Seeker___init__) (defScope s_Seeker___init__) [] [] f fd ∧ Mk K (cl 0) f ∧ mg "Seeker" = some (.ref (cl 0))
  d_way_of : ∃ f fd, FunD K "way_of" "way_of" (defArgs s_way_of) (defBody s_way_of) (defScope s_way_of) [] [] f fd ∧ mg "way_of" = some (.ref f)
  d_next_of : ∃ f fd, FunD K "next_of" "next_of" (defArgs s_next_of) (defBody s_next_of) (defScope s_next_of) [] [] f fd ∧ mg "next_of" = some (.ref f)
  d_gone_on : ∃ f fd, FunD K "gone_on" "gone_on" (defArgs s_gone_on) (defBody s_gone_on) (defScope s_gone_on) [] [] f fd ∧ mg "gone_on" = some (.ref f)
  d_room : ∃ f fd, FunD K "room" "room" (defArgs s_room) (defBody s_room) (defScope s_room) [] [] f fd ∧ mg "room" = some (.ref f)
  d_has_room : ∃ f fd, FunD K "has_room" "has_room" (defArgs s_has_room) (defBody s_has_room) (defScope s_has_room) [] [] f fd ∧ mg "has_room" = some (.ref f)
  d_may_go : ∃ f fd, FunD K "may_go" "may_go" (defArgs s_may_go) (defBody s_may_go) (defScope s_may_go) [] [] f fd ∧ mg "may_go" = some (.ref f)
  d_Seeker_later : ∃ f fd, FunD K "later" "Seeker.later" (defArgs s_Seeker_later) (defBody s_Seeker_later) (defScope s_Seeker_later) [] [] f fd ∧ Meth K (cl 0) "later" f ∧ Cls K (cl 0)
  d_Seeker_can : ∃ f fd, FunD K "can" "Seeker.can" (defArgs s_Seeker_can) (defBody s_Seeker_can) (defScope s_Seeker_can) [] [] f fd ∧ Meth K (cl 0) "can" f ∧ Cls K (cl 0)
  d_begin_of : ∃ f fd, FunD K "begin_of" "begin_of" (defArgs s_begin_of) (defBody s_begin_of) (defScope s_begin_of) [] [] f fd ∧ mg "begin_of" = some (.ref f)
  d_chosen : ∃ f fd, FunD K "chosen" "chosen" (defArgs s_chosen) (defBody s_chosen) (defScope s_chosen) [] [] f fd ∧ mg "chosen" = some (.ref f)
  d_left_of : ∃ f fd, FunD K "left_of" "left_of" (defArgs s_left_of) (defBody s_left_of) (defScope s_left_of) [] [] f fd ∧ mg "left_of" = some (.ref f)
  d_need_few : ∃ f fd, FunD K "need_few" "need_few" (defArgs s_need_few) (defBody s_need_few) (defScope s_need_few) [] [] f fd ∧ mg "need_few" = some (.ref f)
  d_BadPlan___init__ : ∃ f fd, FunD K "__init__" "BadPlan.__init__" (defArgs s_BadPlan___init__) (defBody s_BadPlan___init__) (defScope s_BadPlan___init__) [] [] f fd ∧ Meth K (cl 2) "__init__" f
  d_is_number : ∃ f fd, FunD K "is_number" "is_number" (defArgs s_is_number) (defBody s_is_number) (defScope s_is_number) [] [] f fd ∧ mg "is_number" = some (.ref f)
  d_is_walker : ∃ f fd, FunD K "is_walker" "is_walker" (defArgs s_is_walker) (defBody s_is_walker) (defScope s_is_walker) [] [] f fd ∧ mg "is_walker" = some (.ref f)
  d_need_places : ∃ f fd, FunD K "need_places" "need_places" (defArgs s_need_places) (defBody s_need_places) (defScope s_need_places) [] [] f fd ∧ mg "need_places" = some (.ref f)
  d_need_plan : ∃ f fd, FunD K "need_plan" "need_plan" (defArgs s_need_plan) (defBody s_need_plan) (defScope s_need_plan) [] [] f fd ∧ mg "need_plan" = some (.ref f)
  d_with_landings : ∃ f fd, FunD K "with_landings" "with_landings" (defArgs s_with_landings) (defBody s_with_landings) (defScope s_with_landings) [] [] f fd ∧ mg "with_landings" = some (.ref f)
  d_widened : ∃ f fd, FunD K "widened" "widened" (defArgs s_widened) (defBody s_widened) (defScope s_widened) [] [] f fd ∧ mg "widened" = some (.ref f)
  d_law : ∃ f fd, FunD K "law" "law" (defArgs s_law) (defBody s_law) (defScope s_law) [] [] f fd ∧ mg "law" = some (.ref f) ∧ fd.code = .ref (ct 2).1
variable {P : Program} {w : World} {K : PySem.W.Frag} {mg : PySem.Str → Option Value} {base : Heap} {cl : Nat → Addr} {tb : List (Addr × PySem.Str)} {ct : Nat → Addr × Addr}
def N__law_alike : List PySem.Str := ["_law_found", "_law_due", "_law_k"]
theorem S__law_alike : FnScope N__law_alike ["_law_found", "_law_due"] (defScope s__law_alike) := ⟨rfl, rfl, rfl, by decide +kernel, rfl, by decide +kernel, by decide +kernel⟩
def L__law_alike_1 (rec : FF) : FS := (sIf (fNotT (fTest (fCall (arity 2 rec) (fCons (fBin opIx (fVar 0) (fVar 2)) (fCons (fBin opIx (fVar 1) (fVar 2)) fNil))))) (sRet (fC (.bl false))) sNil)
def g__law_alike (rec : FF) : FS :=
  (sSeq (sIf (fTest (fBin opIsN (fVar 1) (fC .non))) (sRet (fBin opIsN (fVar 0) (fC .non))) sNil)
  (sSeq (sIf (fTest (fIsi .bl (fVar 1))) (sRet (fAnd (fIsi .bl (fVar 0)) (fBin opEq (fVar 0) (fVar 1)))) sNil)
  (sSeq (sIf (fTest (fIsi .int (fVar 1))) (sRet (fAnd (fIsi .int (fVar 0)) (fAnd (fNot (fIsi .bl (fVar 0))) (fBin opEq (fVar 0) (fVar 1))))) sNil)
  (sSeq (sIf (fTest (fIsi .str (fVar 1))) (sRet (fAnd (fIsi .str (fVar 0)) (fBin opEq (fVar 0) (fVar 1)))) sNil)
  (sSeq (sIf (fOrT (fTest (fBin opNe (fIsi .tup (fVar 1)) (fIsi .tup (fVar 0)))) (fTest (fBin opNe (fIsi .lst (fVar 1)) (fIsi .lst (fVar 0))))) (sRet (fC (.bl false))) sNil)
  (sSeq (sIf (fTest (fBin opNe (fBi opLen (fCons (fVar 0) fNil)) (fBi opLen (fCons (fVar 1) fNil)))) (sRet (fC (.bl false))) sNil)
  (sSeq (sFor (fRng1 (fCons (fBi opLen (fCons (fVar 1) fNil)) fNil)) (gNm 2) (L__law_alike_1 rec))
  (sRet (fC (.bl true))))))))))
def f__law_alike : Nat → FF
  | 0 => fDef 3 sNever
  | n + 1 => fDef 3 (g__law_alike (f__law_alike n))
theorem c__law_alike (fc : Fc P w K mg cl tb base ct) : ∀ m : Nat, Callee ⟨P, w, K, cl, tb⟩ mg base "_law_alike" ["_law_found", "_law_due"] 2 (1 + m) (f__law_alike m)
  | 0 => callee_of fc.d__law_alike S__law_alike (fun _ _ _ _ _ _ us hl => match us, hl with | [_, _], _ => rfl) rfl fun f cdv A outer s H E h => jss_never
  | m + 1 => callee_of fc.d__law_alike S__law_alike (fun _ _ _ _ _ _ us hl => match us, hl with | [_, _], _ => rfl) rfl fun f cdv A outer s H E h =>
  have hrec := c__law_alike fc m
  (jss_cons (js_if (jt_c1 o_is (je_var 1) je_non) (jss_one (js_ret (je_c1 o_is (je_var 0) je_non))) jss_nil)
  (jss_cons (js_if (jt_val (je_isi .bl fc.fr_isinstance fc.fr_bool (je_var 1))) (jss_one (js_ret (je_and (je_isi .bl fc.fr_isinstance fc.fr_bool (je_var 0)) (je_one (je_c1 (o_eq h) (je_var 0) (je_var 1)))))) jss_nil)
  (jss_cons (js_if (jt_val (je_isi .int fc.fr_isinstance fc.fr_int (je_var 1))) (jss_one (js_ret (je_and (je_isi .int fc.fr_isinstance fc.fr_int (je_var 0)) (je_and (je_not (je_isi .bl fc.fr_isinstance fc.fr_bool (je_var 0))) (je_one (je_c1 (o_eq h) (je_var 0) (je_var 1))))))) jss_nil)
  (jss_cons (js_if (jt_val (je_isi .str fc.fr_isinstance fc.fr_str (je_var 1))) (jss_one (js_ret (je_and (je_isi .str fc.fr_isinstance fc.fr_str (je_var 0)) (je_one (je_c1 (o_eq h) (je_var 0) (je_var 1)))))) jss_nil)
  (jss_cons (js_if (jt_w (jw_or (jt_c1 (o_ne h) (je_isi .tup fc.fr_isinstance fc.fr_tuple (je_var 1)) (je_isi .tup fc.fr_isinstance fc.fr_tuple (je_var 0))) (jw_or1 (jt_c1 (o_ne h) (je_isi .lst fc.fr_isinstance fc.fr_list (je_var 1)) (je_isi .lst fc.fr_isinstance fc.fr_list (je_var 0)))))) (jss_one (js_ret je_bl)) jss_nil)
  (jss_cons (js_if (jt_c1 (o_ne h) (je_len fc.fr_len (ja_cons (je_var 0) ja_nil)) (je_len fc.fr_len (ja_cons (je_var 1) ja_nil))) (jss_one (js_ret je_bl)) jss_nil)
  (jss_cons (js_for h.own rfl (ji_range1 fc.fr_range (ja_cons (je_len fc.fr_len (ja_cons (je_var 1) ja_nil)) ja_nil)) (jg_name 2 S__law_alike.nd) (jss_one (js_if (jt_not (jt_val (je_call hrec h (Nat.le_refl _) (ja_cons (je_ix (je_var 0) (je_var 2)) (ja_cons (je_ix (je_var 1) (je_var 2)) ja_nil))))) (jss_one (js_ret je_bl)) jss_nil)))
  (jss_one (js_ret je_bl)))))))))
def N__law_begun : List PySem.Str := ["_law_script", "_law_stirred", "_law_cell"]
theorem S__law_begun : FnScope N__law_begun ["_law_script"] (defScope s__law_begun) := ⟨rfl, rfl, rfl, by decide +kernel, rfl, by decide +kernel, by decide +kernel⟩
def L__law_begun_1 : FS := (sAsg (gNm 1) (fBin opMod (fBin opAdd (fBin opAdd (fBin opMul (fVar 1) (fC (.int 48271))) (fBin opMul (fVar 2) (fC (.int 69621)))) (fC (.int 11))) (fC (.int 2147483647))))
def g__law_begun : FS :=
  (sSeq (sAsg (gNm 1) (fC (.int 0)))
  (sSeq (sFor (fIt (fVar 0)) (gNm 2) L__law_begun_1)
  (sRet (fNew (fDisp (fCons (fNew (fBiL opList (fCons (fVar 0) fNil))) (fCons (fBin opMul (fVar 1) (fBi opInt (fCons (fBin opGt (fBi opLen (fCons (fVar 0) fNil)) (fC (.int 2))) fNil))) fNil)))))))
def f__law_begun : FF := fDef 3 g__law_begun
theorem c__law_begun (fc : Fc P w K mg cl tb base ct) : Callee ⟨P, w, K, cl, tb⟩ mg base "_law_begun" ["_law_script"] 1 1 f__law_begun := callee_of fc.d__law_begun S__law_begun (fun _ _ _ _ _ _ us hl => match us, hl with | [_], _ => rfl) rfl fun f cdv A outer s H E h =>
  (jss_cons (js_set 1 S__law_begun.nd je_int)
  (jss_cons (js_for h.own rfl (ji_seq (je_var 0)) (jg_name 2 S__law_begun.nd) (jss_one (js_set 1 S__law_begun.nd (je_b o_mod (je_b o_add (je_b o_add (je_b o_mul (je_var 1) je_int) (je_b o_mul (je_var 2) je_int)) je_int) je_int))))
  (jss_one (js_ret (je_new (jl_lst (ja_cons (je_new (jl_list fc.fr_list (ja_cons (je_var 0) ja_nil))) (ja_cons (je_b o_mul (je_var 1) (je_int1 fc.fr_int (ja_cons (je_c1 o_gt (je_len fc.fr_len (ja_cons (je_var 0) ja_nil)) je_int) ja_nil))) ja_nil))))))))
def N__law_take : List PySem.Str := ["_law_box", "_law_many", "_law_figure"]
theorem S__law_take : FnScope N__law_take ["_law_box", "_law_many"] (defScope s__law_take) := ⟨rfl, rfl, rfl, by decide +kernel, rfl, by decide +kernel, by decide +kernel⟩
def g__law_take : FS :=
  (sSeq (sIf (fTest (fBin opEq (fBin opIx (fVar 0) (fC (.int 0))) (fLst (fDisp fNil)))) (sSeq (sAsg (gSub opSetL (fVar 0) (fC (.int 1))) (fBin opMod (fBin opMul (fBin opIx (fVar 0) (fC (.int 1))) (fC (.int 48271))) (fC (.int 2147483647))))
  (sRet (fBin opMod (fBin opDiv (fBin opIx (fVar 0) (fC (.int 1))) (fC (.int 7))) (fVar 1)))) sNil)
  (sSeq (sAsg (gNm 2) (fBin opIx (fBin opIx (fVar 0) (fC (.int 0))) (fC (.int 0))))
  (sSeq (sAsg (gSub opSetL (fBin opIx (fVar 0) (fC (.int 0))) (fC (.int 0))) (fBin opDiv (fVar 2) (fVar 1)))
  (sSeq (sIf (fOrT (fTest (fBin opEq (fBin opIx (fBin opIx (fVar 0) (fC (.int 0))) (fC (.int 0))) (fC (.int 0)))) (fTest (fBin opEq (fBin opIx (fBin opIx (fVar 0) (fC (.int 0))) (fC (.int 0))) (fUn opNeg (fC (.int 1)))))) (sExpr (fMt isLs opPopAt (fBin opIx (fVar 0) (fC (.int 0))) (fCons (fC (.int 0)) fNil))) sNil)
  (sRet (fBin opMod (fVar 2) (fVar 1)))))))
def f__law_take : FF := fDef 3 g__law_take
theorem c__law_take (fc : Fc P w K mg cl tb base ct) : Callee ⟨P, w, K, cl, tb⟩ mg base "_law_take" ["_law_box", "_law_many"] 2 1 f__law_take := callee_of fc.d__law_take S__law_take (fun _ _ _ _ _ _ us hl => match us, hl with | [_, _], _ => rfl) rfl fun f cdv A outer s H E h =>
  (jss_cons (js_if (jt_c1 (o_eq h) (je_ix (je_var 0) je_int) (je_frz (jl_lst ja_nil))) (jss_cons (js_asg (je_b o_mod (je_b o_mul (je_ix (je_var 0) je_int) je_int) je_int) (jg_setL (W := fun cls d _ H => E cls d H) (je_var 0) je_int))
  (jss_one (js_ret (je_b o_mod (je_b o_div (je_ix (je_var 0) je_int) je_int) (je_var 1))))) jss_nil)
  (jss_cons (js_set 2 S__law_take.nd (je_ix (je_ix (je_var 0) je_int) je_int))
  (jss_cons (js_asg (je_b o_div (je_var 2) (je_var 1)) (jg_setL (W := fun cls d _ H => E cls d H) (je_ix (je_var 0) je_int) je_int))
  (jss_cons (js_if (jt_w (jw_or (jt_c1 (o_eq h) (je_ix (je_ix (je_var 0) je_int) je_int) je_int) (jw_or1 (jt_c1 (o_eq h) (je_ix (je_ix (je_var 0) je_int) je_int) (je_neg je_int))))) (jss_one (js_expr (je_popAt (je_ix (je_var 0) je_int) (ja_cons je_int ja_nil)))) jss_nil)
  (jss_one (js_ret (je_b o_mod (je_var 2) (je_var 1))))))))
def N__law_places : List PySem.Str := ["_law_box", "_law_limit", "_law_many", "_law_k"]
theorem S__law_places : FnScope N__law_places ["_law_box", "_law_limit"] (defScope s__law_places) := ⟨rfl, rfl, rfl, by decide +kernel, rfl, by decide +kernel, by decide +kernel⟩
def Le__law_places_1 : FE := (fBin opIx (fLst (fDisp (fCons (fC (.str "s")) (fCons (fC (.str "s")) (fCons (fC (.str "l")) fNil))))) (fCall (arity 2 f__law_take) (fCons (fVar 0) (fCons (fC (.int 3)) fNil))))
def g__law_places : FS :=
  (sSeq (sAsg (gNm 2) (fCall (arity 2 f__law_take) (fCons (fVar 0) (fCons (fBin opSub (fVar 1) (fC (.int 1))) fNil))))
  (sRet (fBin opAdd (fBin opAdd (fC (.str "l")) (fMt isSt opJoin (fC (.str "")) (fCons (fLst (fLc [3] (fRng1 (fCons (fVar 2) fNil)) (gNm 3) fYes Le__law_places_1)) fNil))) (fC (.str "l")))))
def f__law_places : FF := fDef 4 g__law_places
theorem c__law_places (fc : Fc P w K mg cl tb base ct) : Callee ⟨P, w, K, cl, tb⟩ mg base "_law_places" ["_law_box", "_law_limit"] 2 2 f__law_places := callee_of fc.d__law_places S__law_places (fun _ _ _ _ _ _ us hl => match us, hl with | [_, _], _ => rfl) rfl fun f cdv A outer s H E h =>
  (jss_cons (js_set 2 S__law_places.nd (je_call (c__law_take fc) h (by decide) (ja_cons (je_var 0) (ja_cons (je_b o_sub (je_var 1) je_int) ja_nil))))
  (jss_one (js_ret (je_b o_add (je_b o_add je_str (je_join je_str (ja_cons (je_frz (jl_lcN [("_law_k", 3)] 3 rfl S__law_places.nd (ji_range1 fc.fr_range (ja_cons (je_var 2) ja_nil)) (fun _ _ _ _ _ => jts_nil) (fun _ _ _ _ _ => (je_ix (je_frz (jl_lst (ja_cons je_str (ja_cons je_str (ja_cons je_str ja_nil))))) (je_call (c__law_take fc) (here_blk h _ _ _ _ _) (by decide) (ja_cons (je_var 0) (ja_cons je_int ja_nil))))))) ja_nil))) je_str))))
def N__law_plan : List PySem.Str := ["_law_box", "_law_limit", "_law_crew", "_law_load", "_law_turn", "_law_places_here", "_law_found", "_law_begins", "_law_free", "_law_begin", "_law_others", "_law_goal", "_law_k"]
theorem S__law_plan : FnScope N__law_plan ["_law_box", "_law_limit", "_law_crew", "_law_load"] (defScope s__law_plan) := ⟨rfl, rfl, rfl, by decide +kernel, rfl, by decide +kernel, by decide +kernel⟩
def Lt__law_plan_1 : FT := (fTest (fBin opLt (fMt isLs opCntL (fVar 7) (fCons (fVar 12) fNil)) (fBin opAdd (fC (.int 1)) (fBi opInt (fCons (fBin opEq (fBin opIx (fVar 5) (fVar 12)) (fC (.str "l"))) fNil)))))
def Le__law_plan_2 : FE := (fVar 12)
def Lt__law_plan_3 : FT := (fTest (fBin opNe (fVar 12) (fVar 9)))
def Le__law_plan_4 : FE := (fVar 12)
def L__law_plan_5 : FS := (sSeq (sAsg (gNm 8) (fLst (fLc [12] (fRng1 (fCons (fBi opLen (fCons (fVar 5) fNil)) fNil)) (gNm 12) Lt__law_plan_1 Le__law_plan_2)))
  (sSeq (sAsg (gNm 9) (fBin opIx (fVar 8) (fCall (arity 2 f__law_take) (fCons (fVar 0) (fCons (fBi opLen (fCons (fVar 8) fNil)) fNil)))))
  (sSeq (sAsg (gNm 10) (fLst (fLc [12] (fRng1 (fCons (fBi opLen (fCons (fVar 5) fNil)) fNil)) (gNm 12) Lt__law_plan_3 Le__law_plan_4)))
  (sSeq (sAsg (gNm 11) (fBin opIx (fLst (fDisp (fCons (fC (.int 0)) (fCons (fBin opSub (fBi opLen (fCons (fVar 5) fNil)) (fC (.int 1))) (fCons (fBin opIx (fVar 10) (fCall (arity 2 f__law_take) (fCons (fVar 0) (fCons (fBi opLen (fCons (fVar 10) fNil)) fNil)))) fNil))))) (fCall (arity 2 f__law_take) (fCons (fVar 0) (fCons (fC (.int 3)) fNil)))))
  (sSeq (sAsg (gNm 11) (fIf (fTest (fBin opEq (fVar 11) (fVar 9))) (fBin opIx (fVar 10) (fUn opNeg (fC (.int 1)))) (fVar 11)))
  (sSeq (sExpr (fMt isLs opAppend (fVar 6) (fCons (fTup (fCons (fVar 9) (fCons (fVar 11) (fCons (fCall (arity 2 f__law_take) (fCons (fVar 0) (fCons (fBin opAdd (fVar 3) (fC (.int 1))) fNil))) fNil)))) fNil)))
  (sSeq (sExpr (fMt isLs opAppend (fVar 7) (fCons (fVar 9) fNil)))
  (sIf (fAndT (fTest (fBin opEq (fBi opLen (fCons (fVar 8) fNil)) (fC (.int 1)))) (fTest (fBin opGt (fMt isLs opCntL (fVar 7) (fCons (fVar 9) fNil)) (fBi opInt (fCons (fBin opEq (fBin opIx (fVar 5) (fVar 9)) (fC (.str "l"))) fNil))))) sBreak sNil))))))))
def g__law_plan : FS :=
  (sSeq (sAsg (gTp 3 (gsCons (gNm 5) (gsCons (gNm 6) (gsCons (gNm 7) gsNil)))) (fTup (fCons (fCall (arity 2 f__law_places) (fCons (fVar 0) (fCons (fVar 1) fNil))) (fCons (fNew (fDisp fNil)) (fCons (fNew (fDisp fNil)) fNil)))))
  (sSeq (sFor (fRng1 (fCons (fBin opAdd (fC (.int 1)) (fCall (arity 2 f__law_take) (fCons (fVar 0) (fCons (fVar 2) fNil)))) fNil)) (gNm 4) L__law_plan_5)
  (sRet (fTup (fCons (fVar 5) (fCons (fBi opTuple (fCons (fVar 6) fNil)) fNil))))))
def f__law_plan : FF := fDef 13 g__law_plan
theorem c__law_plan (fc : Fc P w K mg cl tb base ct) : Callee ⟨P, w, K, cl, tb⟩ mg base "_law_plan" ["_law_box", "_law_limit", "_law_crew", "_law_load"] 4 3 f__law_plan := callee_of fc.d__law_plan S__law_plan (fun _ _ _ _ _ _ us hl => match us, hl with | [_, _, _, _], _ => rfl) rfl fun f cdv A outer s H E h =>
  (jss_cons (js_asg (je_tup (ja_cons (je_call (c__law_places fc) h (by decide) (ja_cons (je_var 0) (ja_cons (je_var 1) ja_nil))) (ja_cons (je_new (jl_lst ja_nil)) (ja_cons (je_new (jl_lst ja_nil)) ja_nil)))) (jg_tup rfl (jgs_cons (jg_name 5 S__law_plan.nd) (jgs_cons (jg_name 6 S__law_plan.nd) (jgs_cons (jg_name 7 S__law_plan.nd) jgs_nil)))))
  (jss_cons (js_for h.own rfl (ji_range1 fc.fr_range (ja_cons (je_b o_add je_int (je_call (c__law_take fc) h (by decide) (ja_cons (je_var 0) (ja_cons (je_var 2) ja_nil)))) ja_nil)) (jg_name 4 S__law_plan.nd) (jss_cons (js_setLcN [("_law_k", 12)] 12 8 frz_sem rfl S__law_plan.nd (ji_range1 fc.fr_range (ja_cons (je_len fc.fr_len (ja_cons (je_var 5) ja_nil)) ja_nil)) (fun _ _ _ _ _ => (jts_one (jt_c1 o_lt (je_countL (je_var 7) (ja_cons (je_var 12) ja_nil)) (je_b o_add je_int (je_int1 fc.fr_int (ja_cons (je_c1 (o_eq (here_blk h _ _ _ _ _)) (je_ix (je_var 5) (je_var 12)) je_str) ja_nil)))))) (fun _ _ _ _ _ => (je_var 12)))
  (jss_cons (js_set 9 S__law_plan.nd (je_ix (je_var 8) (je_call (c__law_take fc) h (by decide) (ja_cons (je_var 0) (ja_cons (je_len fc.fr_len (ja_cons (je_var 8) ja_nil)) ja_nil)))))
  (jss_cons (js_setLcN [("_law_k", 12)] 12 10 frz_sem rfl S__law_plan.nd (ji_range1 fc.fr_range (ja_cons (je_len fc.fr_len (ja_cons (je_var 5) ja_nil)) ja_nil)) (fun _ _ _ _ _ => (jts_one (jt_c1 (o_ne (here_blk h _ _ _ _ _)) (je_var 12) (je_var 9)))) (fun _ _ _ _ _ => (je_var 12)))
  (jss_cons (js_set 11 S__law_plan.nd (je_ix (je_frz (jl_lst (ja_cons je_int (ja_cons (je_b o_sub (je_len fc.fr_len (ja_cons (je_var 5) ja_nil)) je_int) (ja_cons (je_ix (je_var 10) (je_call (c__law_take fc) h (by decide) (ja_cons (je_var 0) (ja_cons (je_len fc.fr_len (ja_cons (je_var 10) ja_nil)) ja_nil)))) ja_nil))))) (je_call (c__law_take fc) h (by decide) (ja_cons (je_var 0) (ja_cons je_int ja_nil)))))
  (jss_cons (js_set 11 S__law_plan.nd (je_if (jt_c1 (o_eq h) (je_var 11) (je_var 9)) (je_ix (je_var 10) (je_neg je_int)) (je_var 11)))
  (jss_cons (js_expr (je_append (je_var 6) (ja_cons (je_tup (ja_cons (je_var 9) (ja_cons (je_var 11) (ja_cons (je_call (c__law_take fc) h (by decide) (ja_cons (je_var 0) (ja_cons (je_b o_add (je_var 3) je_int) ja_nil))) ja_nil)))) ja_nil)))
  (jss_cons (js_expr (je_append (je_var 7) (ja_cons (je_var 9) ja_nil)))
  (jss_one (js_if (jt_w (jw_and (jt_c1 (o_eq h) (je_len fc.fr_len (ja_cons (je_var 8) ja_nil)) je_int) (jw_and1 (jt_c1 o_gt (je_countL (je_var 7) (ja_cons (je_var 9) ja_nil)) (je_int1 fc.fr_int (ja_cons (je_c1 (o_eq h) (je_ix (je_var 5) (je_var 9)) je_str) ja_nil)))))) (jss_one js_break) jss_nil))))))))))
  (jss_one (js_ret (je_tup (ja_cons (je_var 5) (ja_cons (je_tuple fc.fr_tuple (ja_cons (je_var 6) ja_nil)) ja_nil)))))))
def N__law_told : List PySem.Str := ["_law_work", "e", "_law_kinds", "_law_words", "_law_word"]
theorem S__law_told : FnScope N__law_told ["_law_work"] (defScope s__law_told) := ⟨rfl, rfl, rfl, by decide +kernel, rfl, by decide +kernel, by decide +kernel⟩
def U__law_told (x : D) : FS := (sSeq (sAsg (gNm 2) (fLst (fDisp (fCons (fIsE x 1 (kt_BadCount.lookup (exC x))) (fCons (fIsE x 1 (kt_BadDay.lookup (exC x))) (fCons (fIsE x 1 (kt_BadPlan.lookup (exC x))) (fCons (fIsE x 1 (kt_BadRule.lookup (exC x))) fNil)))))))
  (sSeq (sAsg (gNm 2) (fLst (fBinL opCat (fVar 2) (fLst (fDisp (fCons (fIsE x 1 (kt_BadState.lookup (exC x))) (fCons (fIsE x 1 (kt_BadText.lookup (exC x))) (fCons (fIsE x 1 (kt_BadWalk.lookup (exC x))) (fCons (fIsE x 1 (kt_NoRoom.lookup (exC x))) fNil)))))))))
  (sSeq (sAsg (gNm 2) (fLst (fBinL opCat (fVar 2) (fLst (fDisp (fCons (fIsE x 1 (kt_NoWalker.lookup (exC x))) (fCons (fIsE x 1 (kt_NoWay.lookup (exC x))) (fCons (fIsE x 1 (kt_TooMany.lookup (exC x))) fNil))))))))
  (sSeq (sIf (fOrT (fTest (fBin opNe (fMt isLs opCntL (fVar 2) (fCons (fC (.bl true)) fNil)) (fC (.int 1)))) (fNotT (fTest (fIsE x 1 (kv_ValueError.lookup (exC x)))))) (sRet (fTup (fCons (fC (.str "other")) (fCons (fC (.int 0)) fNil)))) sNil)
  (sSeq (sAsg (gNm 3) (fLst (fDisp (fCons (fC (.str "BadCount")) (fCons (fC (.str "BadDay")) (fCons (fC (.str "BadPlan")) (fCons (fC (.str "BadRule")) (fCons (fC (.str "BadState")) (fCons (fC (.str "BadText")) (fCons (fC (.str "BadWalk")) (fCons (fC (.str "NoRoom")) (fCons (fC (.str "NoWalker")) fNil))))))))))))
  (sSeq (sAsg (gNm 4) (fBin opIx (fLst (fBinL opCat (fVar 3) (fLst (fDisp (fCons (fC (.str "NoWay")) (fCons (fC (.str "TooMany")) fNil)))))) (fMt isLs opIndex (fVar 2) (fCons (fC (.bl true)) fNil))))
  (sSeq (sIf (fTest (fBin opEq (fVar 4) (fC (.str "BadPlan")))) (sRet (fTup (fCons (fVar 4) (fCons (fXf x 1 "part" (fl_part.lookup (exC x))) (fCons (fXf x 1 "number" (fl_number.lookup (exC x))) fNil))))) sNil)
  (sSeq (sIf (fTest (fBin opIn (fVar 4) (fTup (fCons (fC (.str "BadDay")) (fCons (fC (.str "BadState")) fNil))))) (sRet (fTup (fCons (fVar 4) (fCons (fXf x 1 "number" (fl_number.lookup (exC x))) fNil)))) sNil)
  (sRet (fTup (fCons (fVar 4) (fCons (fIf (fTest (fBin opEq (fVar 4) (fC (.str "BadText")))) (fXf x 1 "row" (fl_row.lookup (exC x))) (fC (.int 0))) fNil))))))))))))
def R__law_told (c : Nat) (fs : List (PySem.Str × Int)) : Option D := match c with
  | 2 => (fs.lookup ("part" : PySem.Str)).bind fun p => (fs.lookup ("number" : PySem.Str)).map fun n => .tup [.str "BadPlan", .int p, .int n]
  | 3 => (fs.lookup ("number" : PySem.Str)).map fun n => .tup [.str "BadState", .int n]
  | 4 => (fs.lookup ("number" : PySem.Str)).map fun n => .tup [.str "BadDay", .int n]
  | 5 => (fs.lookup ("row" : PySem.Str)).map fun n => .tup [.str "BadText", .int n]
  | 6 => some (.tup [.str "BadRule", .int 0])
  | 7 => some (.tup [.str "BadCount", .int 0])
  | 8 => some (.tup [.str "BadWalk", .int 0])
  | 9 => some (.tup [.str "NoRoom", .int 0])
  | 10 => some (.tup [.str "NoWalker", .int 0])
  | 11 => some (.tup [.str "NoWay", .int 0])
  | 12 => some (.tup [.str "TooMany", .int 0])
  | _ => none
theorem H__law_told_2 (a : Addr) (d : Option Addr) (fs : List (PySem.Str × Int)) (S : Sto) (x0 x1 x2 x3 x4 : Option D) (p : Int) (hp : fs.lookup ("part" : PySem.Str) = some p) (n : Int) (hn : fs.lookup ("number" : PySem.Str) = some n) : U__law_told (.exn a d 2 fs) ([x0, x1, x2, x3, x4].set 1 (some (.exn a d 2 fs))) S = .rt (.tup [.str "BadPlan", .int p, .int n]) S := by
  have q0 : ¬ (("BadPlan" : PySem.Str) = "BadDay") := by decide +kernel
  have q1 : ¬ (("BadPlan" : PySem.Str) = "BadState") := by decide +kernel
  have q2 : ¬ (("BadPlan" : PySem.Str) = "BadText") := by decide +kernel
  unfold U__law_told
  rw [xf_at (f := "part") (l := fl_part) hp rfl, xf_at (f := "number") (l := fl_number) hn rfl]
  simp [U__law_told, fIsE, fXi, exC, List.lookup, kt_BadCount, kt_BadDay, kt_BadPlan, kt_BadRule, kt_BadState, kt_BadText, kt_BadWalk, kt_NoRoom, kt_NoWalker, kt_NoWay, kt_TooMany, kv_ValueError, opCntL, cntD, opIndex, opCat, tooMany, L2.atI, L2.ixN, eqFb, eqFs, flatD, List.findIdx?_cons, oInS2, q0, q1, q2]
theorem H__law_told_3 (a : Addr) (d : Option Addr) (fs : List (PySem.Str × Int)) (S : Sto) (x0 x1 x2 x3 x4 : Option D) (n : Int) (hn : fs.lookup ("number" : PySem.Str) = some n) : U__law_told (.exn a d 3 fs) ([x0, x1, x2, x3, x4].set 1 (some (.exn a d 3 fs))) S = .rt (.tup [.str "BadState", .int n]) S := by
  have q0 : ¬ (("BadState" : PySem.Str) = "BadPlan") := by decide +kernel
  have q1 : ¬ (("BadState" : PySem.Str) = "BadDay") := by decide +kernel
  have q2 : ¬ (("BadState" : PySem.Str) = "BadText") := by decide +kernel
  unfold U__law_told
  rw [xf_at (f := "number") (l := fl_number) hn rfl]
  simp [U__law_told, fIsE, fXi, exC, List.lookup, kt_BadCount, kt_BadDay, kt_BadPlan, kt_BadRule, kt_BadState, kt_BadText, kt_BadWalk, kt_NoRoom, kt_NoWalker, kt_NoWay, kt_TooMany, kv_ValueError, opCntL, cntD, opIndex, opCat, tooMany, L2.atI, L2.ixN, eqFb, eqFs, flatD, List.findIdx?_cons, oInS2, q0, q1, q2]
theorem H__law_told_4 (a : Addr) (d : Option Addr) (fs : List (PySem.Str × Int)) (S : Sto) (x0 x1 x2 x3 x4 : Option D) (n : Int) (hn : fs.lookup ("number" : PySem.Str) = some n) : U__law_told (.exn a d 4 fs) ([x0, x1, x2, x3, x4].set 1 (some (.exn a d 4 fs))) S = .rt (.tup [.str "BadDay", .int n]) S := by
  have q0 : ¬ (("BadDay" : PySem.Str) = "BadPlan") := by decide +kernel
  have q1 : ¬ (("BadDay" : PySem.Str) = "BadState") := by decide +kernel
  have q2 : ¬ (("BadDay" : PySem.Str) = "BadText") := by decide +kernel
  unfold U__law_told
  rw [xf_at (f := "number") (l := fl_number) hn rfl]
  simp [U__law_told, fIsE, fXi, exC, List.lookup, kt_BadCount, kt_BadDay, kt_BadPlan, kt_BadRule, kt_BadState, kt_BadText, kt_BadWalk, kt_NoRoom, kt_NoWalker, kt_NoWay, kt_TooMany, kv_ValueError, opCntL, cntD, opIndex, opCat, tooMany, L2.atI, L2.ixN, eqFb, eqFs, flatD, List.findIdx?_cons, oInS2, q0, q1, q2]
theorem H__law_told_5 (a : Addr) (d : Option Addr) (fs : List (PySem.Str × Int)) (S : Sto) (x0 x1 x2 x3 x4 : Option D) (n : Int) (hn : fs.lookup ("row" : PySem.Str) = some n) : U__law_told (.exn a d 5 fs) ([x0, x1, x2, x3, x4].set 1 (some (.exn a d 5 fs))) S = .rt (.tup [.str "BadText", .int n]) S := by
  have q0 : ¬ (("BadText" : PySem.Str) = "BadPlan") := by decide +kernel
  have q1 : ¬ (("BadText" : PySem.Str) = "BadDay") := by decide +kernel
  have q2 : ¬ (("BadText" : PySem.Str) = "BadState") := by decide +kernel
  unfold U__law_told
  rw [xf_at (f := "row") (l := fl_row) hn rfl]
  simp [U__law_told, fIsE, fXi, exC, List.lookup, kt_BadCount, kt_BadDay, kt_BadPlan, kt_BadRule, kt_BadState, kt_BadText, kt_BadWalk, kt_NoRoom, kt_NoWalker, kt_NoWay, kt_TooMany, kv_ValueError, opCntL, cntD, opIndex, opCat, tooMany, L2.atI, L2.ixN, eqFb, eqFs, flatD, List.findIdx?_cons, oInS2, q0, q1, q2]
theorem H__law_told_6 (a : Addr) (d : Option Addr) (fs : List (PySem.Str × Int)) (S : Sto) (x0 x1 x2 x3 x4 : Option D)  : U__law_told (.exn a d 6 fs) ([x0, x1, x2, x3, x4].set 1 (some (.exn a d 6 fs))) S = .rt (.tup [.str "BadRule", .int 0]) S := by
  have q0 : ¬ (("BadRule" : PySem.Str) = "BadPlan") := by decide +kernel
  have q1 : ¬ (("BadRule" : PySem.Str) = "BadDay") := by decide +kernel
  have q2 : ¬ (("BadRule" : PySem.Str) = "BadState") := by decide +kernel
  have q3 : ¬ (("BadRule" : PySem.Str) = "BadText") := by decide +kernel
  simp [U__law_told, fIsE, fXi, exC, List.lookup, kt_BadCount, kt_BadDay, kt_BadPlan, kt_BadRule, kt_BadState, kt_BadText, kt_BadWalk, kt_NoRoom, kt_NoWalker, kt_NoWay, kt_TooMany, kv_ValueError, opCntL, cntD, opIndex, opCat, tooMany, L2.atI, L2.ixN, eqFb, eqFs, flatD, List.findIdx?_cons, oInS2, q0, q1, q2, q3]
theorem H__law_told_7 (a : Addr) (d : Option Addr) (fs : List (PySem.Str × Int)) (S : Sto) (x0 x1 x2 x3 x4 : Option D)  : U__law_told (.exn a d 7 fs) ([x0, x1, x2, x3, x4].set 1 (some (.exn a d 7 fs))) S = .rt (.tup [.str "BadCount", .int 0]) S := by
  have q0 : ¬ (("BadCount" : PySem.Str) = "BadPlan") := by decide +kernel
  have q1 : ¬ (("BadCount" : PySem.Str) = "BadDay") := by decide +kernel
  have q2 : ¬ (("BadCount" : PySem.Str) = "BadState") := by decide +kernel
  have q3 : ¬ (("BadCount" : PySem.Str) = "BadText") := by decide +kernel
  simp [U__law_told, fIsE, fXi, exC, List.lookup, kt_BadCount, kt_BadDay, kt_BadPlan, kt_BadRule, kt_BadState, kt_BadText, kt_BadWalk, kt_NoRoom, kt_NoWalker, kt_NoWay, kt_TooMany, kv_ValueError, opCntL, cntD, opIndex, opCat, tooMany, L2.atI, L2.ixN, eqFb, eqFs, flatD, List.findIdx?_cons, oInS2, q0, q1, q2, q3]
theorem H__law_told_8 (a : Addr) (d : Option Addr) (fs : List (PySem.Str × Int)) (S : Sto) (x0 x1 x2 x3 x4 : Option D)  : U__law_told (.exn a d 8 fs) ([x0, x1, x2, x3, x4].set 1 (some (.exn a d 8 fs))) S = .rt (.tup [.str "BadWalk", .int 0]) S := by
  have q0 : ¬ (("BadWalk" : PySem.Str) = "BadPlan") := by decide +kernel
  have q1 : ¬ (("BadWalk" : PySem.Str) = "BadDay") := by decide +kernel
  have q2 : ¬ (("BadWalk" : PySem.Str) = "BadState") := by decide +kernel
  have q3 : ¬ (("BadWalk" : PySem.Str) = "BadText") := by decide +kernel
  simp [U__law_told, fIsE, fXi, exC, List.lookup, kt_BadCount, kt_BadDay, kt_BadPlan, kt_BadRule, kt_BadState, kt_BadText, kt_BadWalk, kt_NoRoom, kt_NoWalker, kt_NoWay, kt_TooMany, kv_ValueError, opCntL, cntD, opIndex, opCat, tooMany, L2.atI, L2.ixN, eqFb, eqFs, flatD, List.findIdx?_cons, oInS2, q0, q1, q2, q3]
theorem H__law_told_9 (a : Addr) (d : Option Addr) (fs : List (PySem.Str × Int)) (S : Sto) (x0 x1 x2 x3 x4 : Option D)  : U__law_told (.exn a d 9 fs) ([x0, x1, x2, x3, x4].set 1 (some (.exn a d 9 fs))) S = .rt (.tup [.str "NoRoom", .int 0]) S := by
  have q0 : ¬ (("NoRoom" : PySem.Str) = "BadPlan") := by decide +kernel
  have q1 : ¬ (("NoRoom" : PySem.Str) = "BadDay") := by decide +kernel
  have q2 : ¬ (("NoRoom" : PySem.Str) = "BadState") := by decide +kernel
  have q3 : ¬ (("NoRoom" : PySem.Str) = "BadText") := by decide +kernel
  simp [U__law_told, fIsE, fXi, exC, List.lookup, kt_BadCount, kt_BadDay, kt_BadPlan, kt_BadRule, kt_BadState, kt_BadText, kt_BadWalk, kt_NoRoom, kt_NoWalker, kt_NoWay, kt_TooMany, kv_ValueError, opCntL, cntD, opIndex, opCat, tooMany, L2.atI, L2.ixN, eqFb, eqFs, flatD, List.findIdx?_cons, oInS2, q0, q1, q2, q3]
theorem H__law_told_10 (a : Addr) (d : Option Addr) (fs : List (PySem.Str × Int)) (S : Sto) (x0 x1 x2 x3 x4 : Option D)  : U__law_told (.exn a d 10 fs) ([x0, x1, x2, x3, x4].set 1 (some (.exn a d 10 fs))) S = .rt (.tup [.str "NoWalker", .int 0]) S := by
  have q0 : ¬ (("NoWalker" : PySem.Str) = "BadPlan") := by decide +kernel
  have q1 : ¬ (("NoWalker" : PySem.Str) = "BadDay") := by decide +kernel
  have q2 : ¬ (("NoWalker" : PySem.Str) = "BadState") := by decide +kernel
  have q3 : ¬ (("NoWalker" : PySem.Str) = "BadText") := by decide +kernel
  simp [U__law_told, fIsE, fXi, exC, List.lookup, kt_BadCount, kt_BadDay, kt_BadPlan, kt_BadRule, kt_BadState, kt_BadText, kt_BadWalk, kt_NoRoom, kt_NoWalker, kt_NoWay, kt_TooMany, kv_ValueError, opCntL, cntD, opIndex, opCat, tooMany, L2.atI, L2.ixN, eqFb, eqFs, flatD, List.findIdx?_cons, oInS2, q0, q1, q2, q3]
theorem H__law_told_11 (a : Addr) (d : Option Addr) (fs : List (PySem.Str × Int)) (S : Sto) (x0 x1 x2 x3 x4 : Option D)  : U__law_told (.exn a d 11 fs) ([x0, x1, x2, x3, x4].set 1 (some (.exn a d 11 fs))) S = .rt (.tup [.str "NoWay", .int 0]) S := by
  have q0 : ¬ (("NoWay" : PySem.Str) = "BadPlan") := by decide +kernel
  have q1 : ¬ (("NoWay" : PySem.Str) = "BadDay") := by decide +kernel
  have q2 : ¬ (("NoWay" : PySem.Str) = "BadState") := by decide +kernel
  have q3 : ¬ (("NoWay" : PySem.Str) = "BadText") := by decide +kernel
  simp [U__law_told, fIsE, fXi, exC, List.lookup, kt_BadCount, kt_BadDay, kt_BadPlan, kt_BadRule, kt_BadState, kt_BadText, kt_BadWalk, kt_NoRoom, kt_NoWalker, kt_NoWay, kt_TooMany, kv_ValueError, opCntL, cntD, opIndex, opCat, tooMany, L2.atI, L2.ixN, eqFb, eqFs, flatD, List.findIdx?_cons, oInS2, q0, q1, q2, q3]
theorem H__law_told_12 (a : Addr) (d : Option Addr) (fs : List (PySem.Str × Int)) (S : Sto) (x0 x1 x2 x3 x4 : Option D)  : U__law_told (.exn a d 12 fs) ([x0, x1, x2, x3, x4].set 1 (some (.exn a d 12 fs))) S = .rt (.tup [.str "TooMany", .int 0]) S := by
  have q0 : ¬ (("TooMany" : PySem.Str) = "BadPlan") := by decide +kernel
  have q1 : ¬ (("TooMany" : PySem.Str) = "BadDay") := by decide +kernel
  have q2 : ¬ (("TooMany" : PySem.Str) = "BadState") := by decide +kernel
  have q3 : ¬ (("TooMany" : PySem.Str) = "BadText") := by decide +kernel
  simp [U__law_told, fIsE, fXi, exC, List.lookup, kt_BadCount, kt_BadDay, kt_BadPlan, kt_BadRule, kt_BadState, kt_BadText, kt_BadWalk, kt_NoRoom, kt_NoWalker, kt_NoWay, kt_TooMany, kv_ValueError, opCntL, cntD, opIndex, opCat, tooMany, L2.atI, L2.ixN, eqFb, eqFs, flatD, List.findIdx?_cons, oInS2, q0, q1, q2, q3]
theorem H__law_told : ∀ (a : Addr) (d : Option Addr) (c : Nat) (fs : List (PySem.Str × Int)) (v : D) (σ : Sl) (S : Sto), R__law_told c fs = some v → σ.length = N__law_told.length → U__law_told (.exn a d c fs) (σ.set 1 (some (.exn a d c fs))) S = .rt v S := by
  intro a d c fs v σ S h hl
  match σ, hl with
  | [x0, x1, x2, x3, x4], _ =>
    unfold R__law_told at h
    split at h
    all_goals first
      | (cases h; done)
      | (obtain ⟨p, h1, h2⟩ := Option.bind_eq_some_iff.mp h; obtain ⟨n, h3, rfl⟩ := Option.map_eq_some_iff.mp h2; exact H__law_told_2 _ _ _ _ _ _ _ _ _ p h1 n h3)
      | (obtain ⟨n, h1, rfl⟩ := Option.map_eq_some_iff.mp h; exact H__law_told_3 _ _ _ _ _ _ _ _ _ n h1)
      | (obtain ⟨n, h1, rfl⟩ := Option.map_eq_some_iff.mp h; exact H__law_told_4 _ _ _ _ _ _ _ _ _ n h1)
      | (obtain ⟨n, h1, rfl⟩ := Option.map_eq_some_iff.mp h; exact H__law_told_5 _ _ _ _ _ _ _ _ _ n h1)
      | (cases h; exact H__law_told_6 _ _ _ _ _ _ _ _ _)
      | (cases h; exact H__law_told_7 _ _ _ _ _ _ _ _ _)
      | (cases h; exact H__law_told_8 _ _ _ _ _ _ _ _ _)
      | (cases h; exact H__law_told_9 _ _ _ _ _ _ _ _ _)
      | (cases h; exact H__law_told_10 _ _ _ _ _ _ _ _ _)
      | (cases h; exact H__law_told_11 _ _ _ _ _ _ _ _ _)
      | (cases h; exact H__law_told_12 _ _ _ _ _ _ _ _ _)
theorem c__law_told (fc : Fc P w K mg cl tb base ct) : ToldD ⟨P, w, K, cl, tb⟩ mg "_law_told" "_law_work" (defBody s__law_told) (defScope s__law_told) N__law_told := toldD_of fc.d__law_told S__law_told (fun _ _ _ _ _ _ us hl => match us, hl with | [_], _ => rfl)
theorem su__law_told (fc : Fc P w K mg cl tb base ct) {A0 : Around} {stk : List Env} (g2 : Addr) (cdg2 : Value) (s2 : Shared) (H2 : Hp) (a2 : Addr) (oe2 : Obj) (d2 : Option Addr) (pn3 : List (Addr × Obj)) (c2 : Nat) (fs2 : List (PySem.Str × Int)) (hz2 : Zc (.ref (cl c2)) d2 oe2) (hf2 : ∃ vs, oe2.data = .fields vs)
    (hu2 : (cxOf C8.CX0 P w K mg base N__law_told "_law_told" (defScope s__law_told) g2 cdg2 A0 stk s2 H2 C8.E0).A.units + 64 < cLine) :
    JSs ⟨P, w, K, cl, tb⟩ ((cxOf C8.CX0 P w K mg base N__law_told "_law_told" (defScope s__law_told) g2 cdg2 A0 stk s2 H2 C8.E0).nox.suite a2 ((a2, oe2) :: pn3)) W0 (toldSuite (defBody s__law_told)) (U__law_told (.exn a2 d2 c2 fs2)) :=
  (jss_cons (js_set 2 S__law_told.nd (je_frz (jl_lst (ja_cons (je_isX (fun b hb => fc.kt_BadCount _ b hb) hz2 hf2 fc.fr_isinstance fc.m_BadCount) (ja_cons (je_isX (fun b hb => fc.kt_BadDay _ b hb) hz2 hf2 fc.fr_isinstance fc.m_BadDay) (ja_cons (je_isX (fun b hb => fc.kt_BadPlan _ b hb) hz2 hf2 fc.fr_isinstance fc.m_BadPlan) (ja_cons (je_isX (fun b hb => fc.kt_BadRule _ b hb) hz2 hf2 fc.fr_isinstance fc.m_BadRule) ja_nil)))))))
  (jss_cons (js_set 2 S__law_told.nd (je_frz (jl_cat (je_var 2) (je_frz (jl_lst (ja_cons (je_isX (fun b hb => fc.kt_BadState _ b hb) hz2 hf2 fc.fr_isinstance fc.m_BadState) (ja_cons (je_isX (fun b hb => fc.kt_BadText _ b hb) hz2 hf2 fc.fr_isinstance fc.m_BadText) (ja_cons (je_isX (fun b hb => fc.kt_BadWalk _ b hb) hz2 hf2 fc.fr_isinstance fc.m_BadWalk) (ja_cons (je_isX (fun b hb => fc.kt_NoRoom _ b hb) hz2 hf2 fc.fr_isinstance fc.m_NoRoom) ja_nil)))))))))
  (jss_cons (js_set 2 S__law_told.nd (je_frz (jl_cat (je_var 2) (je_frz (jl_lst (ja_cons (je_isX (fun b hb => fc.kt_NoWalker _ b hb) hz2 hf2 fc.fr_isinstance fc.m_NoWalker) (ja_cons (je_isX (fun b hb => fc.kt_NoWay _ b hb) hz2 hf2 fc.fr_isinstance fc.m_NoWay) (ja_cons (je_isX (fun b hb => fc.kt_TooMany _ b hb) hz2 hf2 fc.fr_isinstance fc.m_TooMany) ja_nil))))))))
  (jss_cons (js_if (jt_w (jw_or (jt_c1 (o_neU hu2) (je_countL (je_var 2) (ja_cons je_bl ja_nil)) je_int) (jw_or1 (jt_not (jt_val (je_isV (T := "ValueError") (fun b hb => fc.kv_ValueError _ b hb) hz2 hf2 fc.fr_isinstance fc.fr_ValueError)))))) (jss_one (js_ret (je_tup (ja_cons je_str (ja_cons je_int ja_nil))))) jss_nil)
  (jss_cons (js_set 3 S__law_told.nd (je_frz (jl_lst (ja_cons je_str (ja_cons je_str (ja_cons je_str (ja_cons je_str (ja_cons je_str (ja_cons je_str (ja_cons je_str (ja_cons je_str (ja_cons je_str ja_nil))))))))))))
  (jss_cons (js_set 4 S__law_told.nd (je_ix (je_frz (jl_cat (je_var 3) (je_frz (jl_lst (ja_cons je_str (ja_cons je_str ja_nil)))))) (je_index (je_var 2) (ja_cons je_bl ja_nil))))
  (jss_cons (js_if (jt_c1 (o_eqU hu2) (je_var 4) je_str) (jss_one (js_ret (je_tup (ja_cons (je_var 4) (ja_cons (je_xf (fun hb => fc.fl_part _ _ hb) hz2 hf2) (ja_cons (je_xf (fun hb => fc.fl_number _ _ hb) hz2 hf2) ja_nil)))))) jss_nil)
  (jss_cons (js_if (jt_c1 o_in (je_var 4) (je_tup (ja_cons je_str (ja_cons je_str ja_nil)))) (jss_one (js_ret (je_tup (ja_cons (je_var 4) (ja_cons (je_xf (fun hb => fc.fl_number _ _ hb) hz2 hf2) ja_nil))))) jss_nil)
  (jss_one (js_ret (je_tup (ja_cons (je_var 4) (ja_cons (je_if (jt_c1 (o_eqU hu2) (je_var 4) je_str) (je_xf (fun hb => fc.fl_row _ _ hb) hz2 hf2) je_int) ja_nil)))))))))))))
def N__law_left : List PySem.Str := ["_law_plan_here", "_law_spots", "_law_many", "_law_k"]
theorem S__law_left : FnScope N__law_left ["_law_plan_here", "_law_spots"] (defScope s__law_left) := ⟨rfl, rfl, rfl, by decide +kernel, rfl, by decide +kernel, by decide +kernel⟩
def L__law_left_1 : FS := (sIf (fTest (fBin opNotN (fBin opIx (fVar 1) (fVar 3)) (fC .non))) (sAsg (gNm 2) (fBin opAdd (fVar 2) (fBi opAbs (fCons (fBin opSub (fBin opIx (fBin opIx (fBin opIx (fVar 0) (fC (.int 1))) (fVar 3)) (fC (.int 1))) (fBin opIx (fVar 1) (fVar 3))) fNil)))) sNil)
def g__law_left : FS :=
  (sSeq (sAsg (gNm 2) (fC (.int 0)))
  (sSeq (sFor (fRng1 (fCons (fBi opLen (fCons (fVar 1) fNil)) fNil)) (gNm 3) L__law_left_1)
  (sRet (fVar 2))))
def f__law_left : FF := fDef 4 g__law_left
theorem c__law_left (fc : Fc P w K mg cl tb base ct) : Callee ⟨P, w, K, cl, tb⟩ mg base "_law_left" ["_law_plan_here", "_law_spots"] 2 1 f__law_left := callee_of fc.d__law_left S__law_left (fun _ _ _ _ _ _ us hl => match us, hl with | [_, _], _ => rfl) rfl fun f cdv A outer s H E h =>
  (jss_cons (js_set 2 S__law_left.nd je_int)
  (jss_cons (js_for h.own rfl (ji_range1 fc.fr_range (ja_cons (je_len fc.fr_len (ja_cons (je_var 1) ja_nil)) ja_nil)) (jg_name 3 S__law_left.nd) (jss_one (js_if (jt_c1 o_isNot (je_ix (je_var 1) (je_var 3)) je_non) (jss_one (js_set 2 S__law_left.nd (je_b o_add (je_var 2) (je_abs fc.fr_abs (ja_cons (je_b o_sub (je_ix (je_ix (je_ix (je_var 0) je_int) (je_var 3)) je_int) (je_ix (je_var 1) (je_var 3))) ja_nil))))) jss_nil)))
  (jss_one (js_ret (je_var 2)))))
def N__law_next : List PySem.Str := ["_law_plan_here", "_law_spots", "_law_k", "_law_begin", "_law_goal"]
theorem S__law_next : FnScope N__law_next ["_law_plan_here", "_law_spots", "_law_k"] (defScope s__law_next) := ⟨rfl, rfl, rfl, by decide +kernel, rfl, by decide +kernel, by decide +kernel⟩
def g__law_next : FS :=
  (sSeq (sAsg (gTp 2 (gsCons (gNm 3) (gsCons (gNm 4) gsNil))) (fSl (fBin opIx (fBin opIx (fVar 0) (fC (.int 1))) (fVar 2)) fNoPart (fPart (fC (.int 2)))))
  (sRet (fIf (fTest (fBin opIsN (fBin opIx (fVar 1) (fVar 2)) (fC .non))) (fC .non) (fBin opAdd (fBin opIx (fVar 1) (fVar 2)) (fIf (fTest (fBin opGt (fVar 4) (fVar 3))) (fC (.int 1)) (fUn opNeg (fC (.int 1))))))))
def f__law_next : FF := fDef 5 g__law_next
theorem c__law_next (fc : Fc P w K mg cl tb base ct) : Callee ⟨P, w, K, cl, tb⟩ mg base "_law_next" ["_law_plan_here", "_law_spots", "_law_k"] 3 1 f__law_next := callee_of fc.d__law_next S__law_next (fun _ _ _ _ _ _ us hl => match us, hl with | [_, _, _], _ => rfl) rfl fun f cdv A outer s H E h =>
  (jss_cons (js_asg (je_sl (je_ix (je_ix (je_var 0) je_int) (je_var 2)) jo_none (jo_some je_int)) (jg_tup rfl (jgs_cons (jg_name 3 S__law_next.nd) (jgs_cons (jg_name 4 S__law_next.nd) jgs_nil))))
  (jss_one (js_ret (je_if (jt_c1 o_is (je_ix (je_var 1) (je_var 2)) je_non) je_non (je_b o_add (je_ix (je_var 1) (je_var 2)) (je_if (jt_c1 o_gt (je_var 4) (je_var 3)) je_int (je_neg je_int)))))))
def N__law_gone : List PySem.Str := ["_law_plan_here", "_law_spots", "_law_k", "_law_found", "_law_place"]
theorem S__law_gone : FnScope N__law_gone ["_law_plan_here", "_law_spots", "_law_k"] (defScope s__law_gone) := ⟨rfl, rfl, rfl, by decide +kernel, rfl, by decide +kernel, by decide +kernel⟩
def g__law_gone : FS :=
  (sSeq (sPar2 3 4 (fCons (fNew (fBiL opList (fCons (fVar 1) fNil))) (fCons (fCall (arity 3 f__law_next) (fCons (fVar 0) (fCons (fVar 1) (fCons (fVar 2) fNil)))) fNil)))
  (sSeq (sAsg (gSub opSetL (fVar 3) (fVar 2)) (fIf (fTest (fBin opEq (fVar 4) (fBin opIx (fBin opIx (fBin opIx (fVar 0) (fC (.int 1))) (fVar 2)) (fC (.int 1))))) (fC .non) (fVar 4)))
  (sRet (fBi opTuple (fCons (fVar 3) fNil)))))
def f__law_gone : FF := fDef 5 g__law_gone
theorem c__law_gone (fc : Fc P w K mg cl tb base ct) : Callee ⟨P, w, K, cl, tb⟩ mg base "_law_gone" ["_law_plan_here", "_law_spots", "_law_k"] 3 2 f__law_gone := callee_of fc.d__law_gone S__law_gone (fun _ _ _ _ _ _ us hl => match us, hl with | [_, _, _], _ => rfl) rfl fun f cdv A outer s H E h =>
  (jss_cons (js_par2 3 4 rfl S__law_gone.nd (by decide) (ja_cons (je_new (jl_list fc.fr_list (ja_cons (je_var 1) ja_nil))) (ja_cons (je_call (c__law_next fc) h (by decide) (ja_cons (je_var 0) (ja_cons (je_var 1) (ja_cons (je_var 2) ja_nil)))) ja_nil)))
  (jss_cons (js_asg (je_if (jt_c1 (o_eq h) (je_var 4) (je_ix (je_ix (je_ix (je_var 0) je_int) (je_var 2)) je_int)) je_non (je_var 4)) (jg_setL (W := fun cls d _ H => E cls d H) (je_var 3) (je_var 2)))
  (jss_one (js_ret (je_tuple fc.fr_tuple (ja_cons (je_var 3) ja_nil))))))
def N__law_may : List PySem.Str := ["_law_plan_here", "_law_spots", "_law_k", "_law_place"]
theorem S__law_may : FnScope N__law_may ["_law_plan_here", "_law_spots", "_law_k"] (defScope s__law_may) := ⟨rfl, rfl, rfl, by decide +kernel, rfl, by decide +kernel, by decide +kernel⟩
def g__law_may : FS :=
  (sSeq (sAsg (gNm 3) (fCall (arity 3 f__law_next) (fCons (fVar 0) (fCons (fVar 1) (fCons (fVar 2) fNil)))))
  (sRet (fAnd (fBin opNotN (fVar 3) (fC .non)) (fBin opLt (fMt isLs opCntL (fLst (fBiL opList (fCons (fVar 1) fNil))) (fCons (fVar 3) fNil)) (fBin opAdd (fC (.int 1)) (fBi opInt (fCons (fBin opEq (fBin opIx (fBin opIx (fVar 0) (fC (.int 0))) (fVar 3)) (fC (.str "l"))) fNil)))))))
def f__law_may : FF := fDef 4 g__law_may
theorem c__law_may (fc : Fc P w K mg cl tb base ct) : Callee ⟨P, w, K, cl, tb⟩ mg base "_law_may" ["_law_plan_here", "_law_spots", "_law_k"] 3 2 f__law_may := callee_of fc.d__law_may S__law_may (fun _ _ _ _ _ _ us hl => match us, hl with | [_, _, _], _ => rfl) rfl fun f cdv A outer s H E h =>
  (jss_cons (js_set 3 S__law_may.nd (je_call (c__law_next fc) h (by decide) (ja_cons (je_var 0) (ja_cons (je_var 1) (ja_cons (je_var 2) ja_nil)))))
  (jss_one (js_ret (je_and (je_c1 o_isNot (je_var 3) je_non) (je_one (je_c1 o_lt (je_countL (je_frz (jl_list fc.fr_list (ja_cons (je_var 1) ja_nil))) (ja_cons (je_var 3) ja_nil)) (je_b o_add je_int (je_int1 fc.fr_int (ja_cons (je_c1 (o_eq h) (je_ix (je_ix (je_var 0) je_int) (je_var 3)) je_str) ja_nil)))))))))
def N__law_reach : List PySem.Str := ["_law_plan_here", "_law_spots", "_law_found", "_law_left_here", "_law_one", "_law_some", "_law_k"]
theorem S__law_reach : FnScope N__law_reach ["_law_plan_here", "_law_spots"] (defScope s__law_reach) := ⟨rfl, rfl, rfl, by decide +kernel, rfl, by decide +kernel, by decide +kernel⟩
def Lt__law_reach_1 : FT := (fTest (fCall (arity 3 f__law_may) (fCons (fVar 0) (fCons (fVar 4) (fCons (fVar 6) fNil)))))
def Le__law_reach_2 : FE := (fVar 6)
def Le__law_reach_3 : FE := (fCall (arity 3 f__law_gone) (fCons (fVar 0) (fCons (fVar 4) (fCons (fVar 6) fNil))))
def L__law_reach_4 : FS := (sSeq (sAsg (gNm 4) (fMt0 isLs opPop (fVar 3)))
  (sIf (fTest (fBin (opInDn true) (fVar 4) (fVar 2))) (sSeq (sAsg (gNm 5) (fLst (fLc [6] (fRng1 (fCons (fBi opLen (fCons (fVar 4) fNil)) fNil)) (gNm 6) Lt__law_reach_1 Le__law_reach_2)))
  (sSeq (sAsg (gSub opSetDn (fVar 2) (fVar 4)) (fLst (fLc [6] (fIt (fVar 5)) (gNm 6) fYes Le__law_reach_3)))
  (sExpr (fMt isLs opExtend (fVar 3) (fCons (fBin opIxDn (fVar 2) (fVar 4)) fNil))))) sNil))
def Lw__law_reach_5 : FT := (fTest (fBin opNe (fVar 3) (fLst (fDisp fNil))))
def g__law_reach : FS :=
  (sSeq (sPar2 2 3 (fCons fDn (fCons (fNew (fDisp (fCons (fVar 1) fNil))) fNil)))
  (sSeq (sWhile Lw__law_reach_5 L__law_reach_4 100000)
  (sRet (fVar 2))))
def f__law_reach : FF := fDef 7 g__law_reach
theorem c__law_reach (fc : Fc P w K mg cl tb base ct) : Callee ⟨P, w, K, cl, tb⟩ mg base "_law_reach" ["_law_plan_here", "_law_spots"] 2 3 f__law_reach := callee_of fc.d__law_reach S__law_reach (fun _ _ _ _ _ _ us hl => match us, hl with | [_, _], _ => rfl) rfl fun f cdv A outer s H E h =>
  (jss_cons (js_par2 2 3 rfl S__law_reach.nd (by decide) (ja_cons je_dn (ja_cons (je_new (jl_lst (ja_cons (je_var 1) ja_nil))) ja_nil)))
  (jss_cons (js_while 100000 h.own (jt_c1 (o_ne h) (je_var 3) (je_frz (jl_lst ja_nil))) (jss_cons (js_set 4 S__law_reach.nd (je_pop (je_var 3)))
  (jss_one (js_if (jt_c1 (o_notInDn h) (je_var 4) (je_var 2)) (jss_cons (js_setLcN [("_law_k", 6)] 6 5 frz_sem rfl S__law_reach.nd (ji_range1 fc.fr_range (ja_cons (je_len fc.fr_len (ja_cons (je_var 4) ja_nil)) ja_nil)) (fun _ _ _ _ _ => (jts_one (jt_val (je_call (c__law_may fc) (here_blk h _ _ _ _ _) (by decide) (ja_cons (je_var 0) (ja_cons (je_var 4) (ja_cons (je_var 6) ja_nil))))))) (fun _ _ _ _ _ => (je_var 6)))
  (jss_cons (js_asg (je_frz (jl_lcN [("_law_k", 6)] 6 rfl S__law_reach.nd (ji_seq (je_var 5)) (fun _ _ _ _ _ => jts_nil) (fun _ _ _ _ _ => (je_call (c__law_gone fc) (here_blk h _ _ _ _ _) (by decide) (ja_cons (je_var 0) (ja_cons (je_var 4) (ja_cons (je_var 6) ja_nil))))))) (jg_setDn h (je_var 2) (je_var 4)))
  (jss_one (js_expr (je_extend (je_var 3) (ja_cons (je_ixDn h (je_var 2) (je_var 4)) ja_nil)))))) jss_nil))))
  (jss_one (js_ret (je_var 2)))))
def N__law_good : List PySem.Str := ["_law_plan_here", "_law_spots", "_law_one", "_law_table", "_law_good_here", "_law_later", "_law_other"]
theorem S__law_good : FnScope N__law_good ["_law_plan_here", "_law_spots"] (defScope s__law_good) := ⟨rfl, rfl, rfl, by decide +kernel, rfl, by decide +kernel, by decide +kernel⟩
def Lk__law_good_1 : FE := (fCall (arity 2 f__law_left) (fCons (fVar 0) (fCons (fVar 7) fNil)))
def Lt__law_good_2 : FT := (fTest (fBin opIxDn (fVar 4) (fVar 6)))
def Le__law_good_3 : FE := (fVar 6)
def L__law_good_4 : FS := (sSeq (sAsg (gNm 5) (fLst (fLc [6] (fIt (fBin opIxDn (fVar 3) (fVar 2))) (gNm 6) Lt__law_good_2 Le__law_good_3)))
  (sAsg (gSub opSetDn (fVar 4) (fVar 2)) (fOr (fBin opEq (fCall (arity 2 f__law_left) (fCons (fVar 0) (fCons (fVar 2) fNil))) (fC (.int 0))) (fBin opNe (fVar 5) (fLst (fDisp fNil))))))
def g__law_good : FS :=
  (sSeq (sAsg (gTp 2 (gsCons (gNm 3) (gsCons (gNm 4) gsNil))) (fTup (fCons (fCall (arity 2 f__law_reach) (fCons (fVar 0) (fCons (fVar 1) fNil))) (fCons fDn fNil))))
  (sSeq (sFor (fIt (fLst (fSortK (fVar 3) Lk__law_good_1))) (gNm 2) L__law_good_4)
  (sRet (fVar 4))))
def f__law_good : FF := fDef 7 g__law_good
theorem c__law_good (fc : Fc P w K mg cl tb base ct) : Callee ⟨P, w, K, cl, tb⟩ mg base "_law_good" ["_law_plan_here", "_law_spots"] 2 7 f__law_good := callee_ofC fc.d__law_good S__law_good (fun _ _ _ _ _ _ us hl => match us, hl with | [_, _], _ => rfl) rfl fun f A outer s H E h =>
  (jss_cons (js_asg (je_tup (ja_cons (je_call (c__law_reach fc) h (by decide) (ja_cons (je_var 0) (ja_cons (je_var 1) ja_nil))) (ja_cons je_dn ja_nil))) (jg_tup rfl (jgs_cons (jg_name 3 S__law_good.nd) (jgs_cons (jg_name 4 S__law_good.nd) jgs_nil))))
  (jss_cons (js_for h.own rfl (ji_seq (je_frz (jl_sortK (k := 3) (nm := "_law_row") h (by decide) rfl fc.fr_sorted (je_var 3) fc.tab0 rfl fc.tbm0 fc.tbu0 (fun A2 o2 s2 H2 f2 c2 hl2 => (je_call (c__law_left fc) hl2 (by decide) (ja_cons (je_var 0) (ja_cons (je_var 7) ja_nil)))) (fun _ _ _ _ _ _ => rfl) (hnm := by rfl)))) (jg_name 2 S__law_good.nd) (jss_cons (js_setLcN [("_law_other", 6)] 6 5 frz_sem rfl S__law_good.nd (ji_seq (je_ixDn h (je_var 3) (je_var 2))) (fun _ _ _ _ _ => (jts_one (jt_val (je_ixDn (here_blk h _ _ _ _ _) (je_var 4) (je_var 6))))) (fun _ _ _ _ _ => (je_var 6)))
  (jss_one (js_asg (je_or (je_c1 (o_eq h) (je_call (c__law_left fc) h (by decide) (ja_cons (je_var 0) (ja_cons (je_var 2) ja_nil))) je_int) (je_one (je_c1 (o_ne h) (je_var 5) (je_frz (jl_lst ja_nil))))) (jg_setDn h (je_var 4) (je_var 2))))))
  (jss_one (js_ret (je_var 4)))))
def N__law_lists : List PySem.Str := ["_law_steps", "_law_found", "_law_step", "_law_one"]
theorem S__law_lists : FnScope N__law_lists ["_law_steps"] (defScope s__law_lists) := ⟨rfl, rfl, rfl, by decide +kernel, rfl, by decide +kernel, by decide +kernel⟩
def Le__law_lists_1 : FE := (fLst (fBinL opCat (fVar 3) (fLst (fDisp (fCons (fVar 2) fNil)))))
def L__law_lists_2 : FS := (sAsg (gNm 1) (fLst (fBinL opCat (fVar 1) (fLst (fLc [3] (fIt (fVar 1)) (gNm 3) fYes Le__law_lists_1)))))
def Lk__law_lists_3 : FE := (fTup (fCons (fBi opLen (fCons (fVar 4) fNil)) (fCons (fVar 4) fNil)))
def g__law_lists : FS :=
  (sSeq (sAsg (gNm 1) (fLst (fDisp (fCons (fLst (fDisp fNil)) fNil))))
  (sSeq (sFor (fIt (fVar 0)) (gNm 2) L__law_lists_2)
  (sRet (fLst (fSortD (fVar 1) Lk__law_lists_3)))))
def f__law_lists : FF := fDef 4 g__law_lists
theorem c__law_lists (fc : Fc P w K mg cl tb base ct) : Callee ⟨P, w, K, cl, tb⟩ mg base "_law_lists" ["_law_steps"] 1 4 f__law_lists := callee_ofC fc.d__law_lists S__law_lists (fun _ _ _ _ _ _ us hl => match us, hl with | [_], _ => rfl) rfl fun f A outer s H E h =>
  (jss_cons (js_set 1 S__law_lists.nd (je_frz (jl_lst (ja_cons (je_frz (jl_lst ja_nil)) ja_nil))))
  (jss_cons (js_for h.own rfl (ji_seq (je_var 0)) (jg_name 2 S__law_lists.nd) (jss_one (js_set 1 S__law_lists.nd (je_frz (jl_cat (je_var 1) (je_frz (jl_lcN [("_law_one", 3)] 3 rfl S__law_lists.nd (ji_seq (je_var 1)) (fun _ _ _ _ _ => jts_nil) (fun _ _ _ _ _ => (je_frz (jl_cat (je_var 3) (je_frz (jl_lst (ja_cons (je_var 2) ja_nil)))))))))))))
  (jss_one (js_ret (je_frz (jl_sortD (k := 0) (nm := "_law_one") (N0 := ["_law_steps", "_law_found", "_law_step", ""]) h (by decide) rfl fc.fr_sorted (je_var 1) fc.tab1 rfl fc.tbm1 fc.tbu1 (fun A2 o2 s2 H2 f2 c2 hl2 => (je_tup (ja_cons (je_len fc.fr_len (ja_cons (je_var 4) ja_nil)) (ja_cons (je_var 4) ja_nil)))) (fun _ _ _ _ _ _ => rfl) 3))))))
def N__law_widened : List PySem.Str := ["_law_plan_here", "_law_begins", "_law_some", "_law_wide", "_law_walker", "_law_k"]
theorem S__law_widened : FnScope N__law_widened ["_law_plan_here"] (defScope s__law_widened) := ⟨rfl, rfl, rfl, by decide +kernel, rfl, by decide +kernel, by decide +kernel⟩
def Le__law_widened_1 : FE := (fBin opIx (fVar 4) (fC (.int 0)))
def Lt__law_widened_2 : FT := (fTest (fBin opEq (fBin opIx (fBin opIx (fVar 0) (fC (.int 0))) (fVar 5)) (fC (.str "s"))))
def Le__law_widened_3 : FE := (fVar 5)
def Le__law_widened_4 : FE := (fIf (fTest (fBin opIn (fVar 5) (fVar 2))) (fC (.str "l")) (fBin opIx (fBin opIx (fVar 0) (fC (.int 0))) (fVar 5)))
def L__law_widened_5 : FS := (sSeq (sAsg (gNm 3) (fTup (fCons (fMt isSt opJoin (fC (.str "")) (fCons (fLst (fLc [5] (fRng1 (fCons (fBi opLen (fCons (fBin opIx (fVar 0) (fC (.int 0))) fNil)) fNil)) (gNm 5) fYes Le__law_widened_4)) fNil)) (fCons (fBin opIx (fVar 0) (fC (.int 1))) fNil))))
  (sIf (fTest (fBin opIxDn (fCall (arity 2 f__law_good) (fCons (fVar 3) (fCons (fVar 1) fNil))) (fVar 1))) (sRet (fVar 2)) sNil))
def g__law_widened : FS :=
  (sSeq (sAsg (gNm 1) (fBi opTuple (fCons (fLst (fLc [4] (fIt (fBin opIx (fVar 0) (fC (.int 1)))) (gNm 4) fYes Le__law_widened_1)) fNil)))
  (sSeq (sFor (fIt (fCall (arity 1 f__law_lists) (fCons (fLst (fLc [5] (fRng1 (fCons (fBi opLen (fCons (fBin opIx (fVar 0) (fC (.int 0))) fNil)) fNil)) (gNm 5) Lt__law_widened_2 Le__law_widened_3)) fNil))) (gNm 2) L__law_widened_5)
  (sRet (fC .non))))
def f__law_widened : FF := fDef 6 g__law_widened
theorem c__law_widened (fc : Fc P w K mg cl tb base ct) : Callee ⟨P, w, K, cl, tb⟩ mg base "_law_widened" ["_law_plan_here"] 1 8 f__law_widened := callee_of fc.d__law_widened S__law_widened (fun _ _ _ _ _ _ us hl => match us, hl with | [_], _ => rfl) rfl fun f cdv A outer s H E h =>
  (jss_cons (js_set 1 S__law_widened.nd (je_tuple fc.fr_tuple (ja_cons (je_frz (jl_lcN [("_law_walker", 4)] 4 rfl S__law_widened.nd (ji_seq (je_ix (je_var 0) je_int)) (fun _ _ _ _ _ => jts_nil) (fun _ _ _ _ _ => (je_ix (je_var 4) je_int)))) ja_nil)))
  (jss_cons (js_for h.own rfl (ji_seq (je_call (c__law_lists fc) h (by decide) (ja_cons (je_frz (jl_lcN [("_law_k", 5)] 5 rfl S__law_widened.nd (ji_range1 fc.fr_range (ja_cons (je_len fc.fr_len (ja_cons (je_ix (je_var 0) je_int) ja_nil)) ja_nil)) (fun _ _ _ _ _ => (jts_one (jt_c1 (o_eq (here_blk h _ _ _ _ _)) (je_ix (je_ix (je_var 0) je_int) (je_var 5)) je_str))) (fun _ _ _ _ _ => (je_var 5)))) ja_nil))) (jg_name 2 S__law_widened.nd) (jss_cons (js_set 3 S__law_widened.nd (je_tup (ja_cons (je_join je_str (ja_cons (je_frz (jl_lcN [("_law_k", 5)] 5 rfl S__law_widened.nd (ji_range1 fc.fr_range (ja_cons (je_len fc.fr_len (ja_cons (je_ix (je_var 0) je_int) ja_nil)) ja_nil)) (fun _ _ _ _ _ => jts_nil) (fun _ _ _ _ _ => (je_if (jt_c1 o_in (je_var 5) (je_var 2)) je_str (je_ix (je_ix (je_var 0) je_int) (je_var 5)))))) ja_nil)) (ja_cons (je_ix (je_var 0) je_int) ja_nil))))
  (jss_one (js_if (jt_val (je_ixDn h (je_call (c__law_good fc) h (by decide) (ja_cons (je_var 3) (ja_cons (je_var 1) ja_nil))) (je_var 1))) (jss_one (js_ret (je_var 2))) jss_nil))))
  (jss_one (js_ret je_non))))
def N_Seeker___init__ : List PySem.Str := ["self", "plan"]
theorem S_Seeker___init__ : FnScope N_Seeker___init__ ["self", "plan"] (defScope s_Seeker___init__) := ⟨rfl, rfl, rfl, by decide +kernel, rfl, by decide +kernel, by decide +kernel⟩
def g_Seeker___init__ : FS :=
  (sSeq (sFs 1 "plan" (fVar 1) (fVar 0))
  (sFs 1 "known" fDn (fVar 0)))
def f_Seeker___init__ : FF := fDef 2 g_Seeker___init__
theorem c_Seeker___init__ (fc : Fc P w K mg cl tb base ct) : Make' ⟨P, w, K, cl, tb⟩ mg base 0 "Seeker" ["self", "plan"] 2 1 f_Seeker___init__ := make_of fc.d_Seeker___init__ S_Seeker___init__ (fun _ _ _ _ _ _ us hl => match us, hl with | [_, _], _ => rfl) rfl fun f cdv A outer s H E h =>
  (jss_cons (js_fld fc.a_plan (je_var 0) (je_var 1))
  (jss_one (js_fld fc.a_known (je_var 0) je_dn)))
def N_way_of : List PySem.Str := ["walker"]
theorem S_way_of : FnScope N_way_of ["walker"] (defScope s_way_of) := ⟨rfl, rfl, rfl, by decide +kernel, rfl, by decide +kernel, by decide +kernel⟩
def g_way_of : FS :=
  (sRet (fIf (fTest (fBin opGt (fBin opIx (fVar 0) (fC (.int 1))) (fBin opIx (fVar 0) (fC (.int 0))))) (fC (.int 1)) (fUn opNeg (fC (.int 1)))))
def f_way_of : FF := fDef 1 g_way_of
theorem c_way_of (fc : Fc P w K mg cl tb base ct) : Callee ⟨P, w, K, cl, tb⟩ mg base "way_of" ["walker"] 1 1 f_way_of := callee_of fc.d_way_of S_way_of (fun _ _ _ _ _ _ us hl => match us, hl with | [_], _ => rfl) rfl fun f cdv A outer s H E h =>
  (jss_one (js_ret (je_if (jt_c1 o_gt (je_ix (je_var 0) je_int) (je_ix (je_var 0) je_int)) je_int (je_neg je_int))))
def N_next_of : List PySem.Str := ["plan", "state", "number"]
theorem S_next_of : FnScope N_next_of ["plan", "state", "number"] (defScope s_next_of) := ⟨rfl, rfl, rfl, by decide +kernel, rfl, by decide +kernel, by decide +kernel⟩
def g_next_of : FS :=
  (sRet (fIf (fTest (fBin opIsN (fBin opIx (fVar 1) (fVar 2)) (fC .non))) (fC .non) (fBin opAdd (fBin opIx (fVar 1) (fVar 2)) (fCall (arity 1 f_way_of) (fCons (fBin opIx (fBin opIx (fVar 0) (fC (.int 1))) (fVar 2)) fNil)))))
def f_next_of : FF := fDef 3 g_next_of
theorem c_next_of (fc : Fc P w K mg cl tb base ct) : Callee ⟨P, w, K, cl, tb⟩ mg base "next_of" ["plan", "state", "number"] 3 2 f_next_of := callee_of fc.d_next_of S_next_of (fun _ _ _ _ _ _ us hl => match us, hl with | [_, _, _], _ => rfl) rfl fun f cdv A outer s H E h =>
  (jss_one (js_ret (je_if (jt_c1 o_is (je_ix (je_var 1) (je_var 2)) je_non) je_non (je_b o_add (je_ix (je_var 1) (je_var 2)) (je_call (c_way_of fc) h (by decide) (ja_cons (je_ix (je_ix (je_var 0) je_int) (je_var 2)) ja_nil))))))
def N_gone_on : List PySem.Str := ["plan", "state", "number", "place", "found"]
theorem S_gone_on : FnScope N_gone_on ["plan", "state", "number"] (defScope s_gone_on) := ⟨rfl, rfl, rfl, by decide +kernel, rfl, by decide +kernel, by decide +kernel⟩
def g_gone_on : FS :=
  (sSeq (sAsg (gNm 3) (fCall (arity 3 f_next_of) (fCons (fVar 0) (fCons (fVar 1) (fCons (fVar 2) fNil)))))
  (sSeq (sAsg (gNm 4) (fIf (fTest (fBin opEq (fVar 3) (fBin opIx (fBin opIx (fBin opIx (fVar 0) (fC (.int 1))) (fVar 2)) (fC (.int 1))))) (fC .non) (fVar 3)))
  (sRet (fBin opAdd (fBin opAdd (fSl (fVar 1) fNoPart (fPart (fVar 2))) (fTup (fCons (fVar 4) fNil))) (fSl (fVar 1) (fPart (fBin opAdd (fVar 2) (fC (.int 1)))) fNoPart)))))
def f_gone_on : FF := fDef 5 g_gone_on
theorem c_gone_on (fc : Fc P w K mg cl tb base ct) : Callee ⟨P, w, K, cl, tb⟩ mg base "gone_on" ["plan", "state", "number"] 3 3 f_gone_on := callee_of fc.d_gone_on S_gone_on (fun _ _ _ _ _ _ us hl => match us, hl with | [_, _, _], _ => rfl) rfl fun f cdv A outer s H E h =>
  (jss_cons (js_set 3 S_gone_on.nd (je_call (c_next_of fc) h (by decide) (ja_cons (je_var 0) (ja_cons (je_var 1) (ja_cons (je_var 2) ja_nil)))))
  (jss_cons (js_set 4 S_gone_on.nd (je_if (jt_c1 (o_eq h) (je_var 3) (je_ix (je_ix (je_ix (je_var 0) je_int) (je_var 2)) je_int)) je_non (je_var 3)))
  (jss_one (js_ret (je_b o_add (je_b o_add (je_sl (je_var 1) jo_none (jo_some (je_var 2))) (je_tup (ja_cons (je_var 4) ja_nil))) (je_sl (je_var 1) (jo_some (je_b o_add (je_var 2) je_int)) jo_none))))))
def N_room : List PySem.Str := ["places", "place"]
theorem S_room : FnScope N_room ["places", "place"] (defScope s_room) := ⟨rfl, rfl, rfl, by decide +kernel, rfl, by decide +kernel, by decide +kernel⟩
def g_room : FS :=
  (sRet (fTabIx t_ROOM (fBin opIx (fVar 0) (fVar 1))))
def f_room : FF := fDef 2 g_room
theorem c_room (fc : Fc P w K mg cl tb base ct) : Callee ⟨P, w, K, cl, tb⟩ mg base "room" ["places", "place"] 2 1 f_room := callee_of fc.d_room S_room (fun _ _ _ _ _ _ us hl => match us, hl with | [_, _], _ => rfl) rfl fun f cdv A outer s H E h =>
  (jss_one (js_ret (je_tabIx fc.t_ROOM (je_ix (je_var 0) (je_var 1)))))
def N_has_room : List PySem.Str := ["plan", "state", "place"]
theorem S_has_room : FnScope N_has_room ["plan", "state", "place"] (defScope s_has_room) := ⟨rfl, rfl, rfl, by decide +kernel, rfl, by decide +kernel, by decide +kernel⟩
def g_has_room : FS :=
  (sRet (fBin opLt (fMt isTp opCntT (fVar 1) (fCons (fVar 2) fNil)) (fCall (arity 2 f_room) (fCons (fBin opIx (fVar 0) (fC (.int 0))) (fCons (fVar 2) fNil)))))
def f_has_room : FF := fDef 3 g_has_room
theorem c_has_room (fc : Fc P w K mg cl tb base ct) : Callee ⟨P, w, K, cl, tb⟩ mg base "has_room" ["plan", "state", "place"] 3 2 f_has_room := callee_of fc.d_has_room S_has_room (fun _ _ _ _ _ _ us hl => match us, hl with | [_, _, _], _ => rfl) rfl fun f cdv A outer s H E h =>
  (jss_one (js_ret (je_c1 o_lt (je_countT (je_var 1) (ja_cons (je_var 2) ja_nil)) (je_call (c_room fc) h (by decide) (ja_cons (je_ix (je_var 0) je_int) (ja_cons (je_var 2) ja_nil))))))
def N_may_go : List PySem.Str := ["plan", "state", "number", "place"]
theorem S_may_go : FnScope N_may_go ["plan", "state", "number"] (defScope s_may_go) := ⟨rfl, rfl, rfl, by decide +kernel, rfl, by decide +kernel, by decide +kernel⟩
def g_may_go : FS :=
  (sSeq (sAsg (gNm 3) (fCall (arity 3 f_next_of) (fCons (fVar 0) (fCons (fVar 1) (fCons (fVar 2) fNil)))))
  (sRet (fAnd (fBin opNotN (fVar 3) (fC .non)) (fCall (arity 3 f_has_room) (fCons (fVar 0) (fCons (fVar 1) (fCons (fVar 3) fNil)))))))
def f_may_go : FF := fDef 4 g_may_go
theorem c_may_go (fc : Fc P w K mg cl tb base ct) : Callee ⟨P, w, K, cl, tb⟩ mg base "may_go" ["plan", "state", "number"] 3 3 f_may_go := callee_of fc.d_may_go S_may_go (fun _ _ _ _ _ _ us hl => match us, hl with | [_, _, _], _ => rfl) rfl fun f cdv A outer s H E h =>
  (jss_cons (js_set 3 S_may_go.nd (je_call (c_next_of fc) h (by decide) (ja_cons (je_var 0) (ja_cons (je_var 1) (ja_cons (je_var 2) ja_nil)))))
  (jss_one (js_ret (je_and (je_c1 o_isNot (je_var 3) je_non) (je_one (je_call (c_has_room fc) h (by decide) (ja_cons (je_var 0) (ja_cons (je_var 1) (ja_cons (je_var 3) ja_nil)))))))))
def N_Seeker_later : List PySem.Str := ["self", "state", "numbers", "number"]
theorem S_Seeker_later : FnScope N_Seeker_later ["self", "state"] (defScope s_Seeker_later) := ⟨rfl, rfl, rfl, by decide +kernel, rfl, by decide +kernel, by decide +kernel⟩
def Lt_Seeker_later_1 : FT := (fTest (fCall (arity 3 f_may_go) (fCons (fFld 1 "plan" (fVar 0)) (fCons (fVar 1) (fCons (fVar 3) fNil)))))
def Le_Seeker_later_2 : FE := (fVar 3)
def Le_Seeker_later_3 : FE := (fCall (arity 3 f_gone_on) (fCons (fFld 1 "plan" (fVar 0)) (fCons (fVar 1) (fCons (fVar 3) fNil))))
def g_Seeker_later : FS :=
  (sSeq (sAsg (gNm 2) (fLst (fLc [3] (fRng1 (fCons (fBi opLen (fCons (fVar 1) fNil)) fNil)) (gNm 3) Lt_Seeker_later_1 Le_Seeker_later_2)))
  (sRet (fLst (fLc [3] (fIt (fVar 2)) (gNm 3) fYes Le_Seeker_later_3))))
def f_Seeker_later : FF := fDef 4 g_Seeker_later
theorem c_Seeker_later (fc : Fc P w K mg cl tb base ct) : Meth' ⟨P, w, K, cl, tb⟩ mg base 0 "later" ["self", "state"] 2 4 f_Seeker_later := meth_of fc.d_Seeker_later S_Seeker_later (fun _ _ _ _ _ _ us hl => match us, hl with | [_, _], _ => rfl) rfl fun f cdv A outer s H E h =>
  (jss_cons (js_setLcN [("number", 3)] 3 2 frz_sem rfl S_Seeker_later.nd (ji_range1 fc.fr_range (ja_cons (je_len fc.fr_len (ja_cons (je_var 1) ja_nil)) ja_nil)) (fun _ _ _ _ _ => (jts_one (jt_val (je_call (c_may_go fc) (here_blk h _ _ _ _ _) (by decide) (ja_cons (je_fld fc.a_plan (je_var 0)) (ja_cons (je_var 1) (ja_cons (je_var 3) ja_nil))))))) (fun _ _ _ _ _ => (je_var 3)))
  (jss_one (js_ret (je_frz (jl_lcN [("number", 3)] 3 rfl S_Seeker_later.nd (ji_seq (je_var 2)) (fun _ _ _ _ _ => jts_nil) (fun _ _ _ _ _ => (je_call (c_gone_on fc) (here_blk h _ _ _ _ _) (by decide) (ja_cons (je_fld fc.a_plan (je_var 0)) (ja_cons (je_var 1) (ja_cons (je_var 3) ja_nil))))))))))
def N_Seeker_can : List PySem.Str := ["self", "state", "is_in", "place", "later"]
theorem S_Seeker_can : FnScope N_Seeker_can ["self", "state"] (defScope s_Seeker_can) := ⟨rfl, rfl, rfl, by decide +kernel, rfl, by decide +kernel, by decide +kernel⟩
def Le_Seeker_can_1 (rec : FF) : FE := (fBin opIsN (fVar 3) (fC .non))
def Le_Seeker_can_2 (rec : FF) : FE := (fMth 0 "can" (arity 2 rec) (fVar 0) (fCons (fVar 4) fNil))
def g_Seeker_can (rec : FF) : FS :=
  (sSeq (sIf (fTest (fBin (opInDn true) (fVar 1) (fFld 1 "known" (fVar 0)))) (sSeq (sAsg (gNm 2) (fBi opAll (fCons (fLst (fLc [3] (fIt (fVar 1)) (gNm 3) fYes (Le_Seeker_can_1 rec))) fNil)))
  (sAsg (gSub opSetDn (fFld 1 "known" (fVar 0)) (fVar 1)) (fOr (fVar 2) (fBi opAny (fCons (fLst (fLc [4] (fIt (fMth 0 "later" (arity 2 f_Seeker_later) (fVar 0) (fCons (fVar 1) fNil))) (gNm 4) fYes (Le_Seeker_can_2 rec))) fNil))))) sNil)
  (sRet (fBin opIxDn (fFld 1 "known" (fVar 0)) (fVar 1))))
def f_Seeker_can : Nat → FF
  | 0 => fDef 5 sNever
  | n + 1 => fDef 5 (g_Seeker_can (f_Seeker_can n))
theorem c_Seeker_can (fc : Fc P w K mg cl tb base ct) : ∀ m : Nat, Meth' ⟨P, w, K, cl, tb⟩ mg base 0 "can" ["self", "state"] 2 (5 + m) (f_Seeker_can m)
  | 0 => meth_of fc.d_Seeker_can S_Seeker_can (fun _ _ _ _ _ _ us hl => match us, hl with | [_, _], _ => rfl) rfl fun f cdv A outer s H E h => jss_never
  | m + 1 => meth_of fc.d_Seeker_can S_Seeker_can (fun _ _ _ _ _ _ us hl => match us, hl with | [_, _], _ => rfl) rfl fun f cdv A outer s H E h =>
  have hrec := c_Seeker_can fc m
  (jss_cons (js_if (jt_c1 (o_notInDn h) (je_var 1) (je_fld fc.a_known (je_var 0))) (jss_cons (js_set 2 S_Seeker_can.nd (je_all rfl fc.fr_all (ja_cons (je_frz (jl_lcN [("place", 3)] 3 rfl S_Seeker_can.nd (ji_seq (je_var 1)) (fun _ _ _ _ _ => jts_nil) (fun _ _ _ _ _ => (je_c1 o_is (je_var 3) je_non)))) ja_nil)))
  (jss_one (js_asg (je_or (je_var 2) (je_one (je_any rfl fc.fr_any (ja_cons (je_frz (jl_lcN [("later", 4)] 4 rfl S_Seeker_can.nd (ji_seq (je_mth (c_Seeker_later fc) h (Nat.le_trans (m := 5) (by decide) (Nat.le_add_right 5 _)) (je_var 0) (ja_cons (je_var 1) ja_nil))) (fun _ _ _ _ _ => jts_nil) (fun _ _ _ _ _ => (je_mth hrec (here_blk h _ _ _ _ _) (Nat.le_refl _) (je_var 0) (ja_cons (je_var 4) ja_nil))))) ja_nil)))) (jg_setDn h (je_fld fc.a_known (je_var 0)) (je_var 1))))) jss_nil)
  (jss_one (js_ret (je_ixDn h (je_fld fc.a_known (je_var 0)) (je_var 1)))))
def N_begin_of : List PySem.Str := ["plan", "walker"]
theorem S_begin_of : FnScope N_begin_of ["plan"] (defScope s_begin_of) := ⟨rfl, rfl, rfl, by decide +kernel, rfl, by decide +kernel, by decide +kernel⟩
def Le_begin_of_1 : FE := (fBin opIx (fVar 1) (fC (.int 0)))
def g_begin_of : FS :=
  (sRet (fBi opTuple (fCons (fLst (fLc [1] (fIt (fBin opIx (fVar 0) (fC (.int 1)))) (gNm 1) fYes Le_begin_of_1)) fNil)))
def f_begin_of : FF := fDef 2 g_begin_of
theorem c_begin_of (fc : Fc P w K mg cl tb base ct) : Callee ⟨P, w, K, cl, tb⟩ mg base "begin_of" ["plan"] 1 1 f_begin_of := callee_of fc.d_begin_of S_begin_of (fun _ _ _ _ _ _ us hl => match us, hl with | [_], _ => rfl) rfl fun f cdv A outer s H E h =>
  (jss_one (js_ret (je_tuple fc.fr_tuple (ja_cons (je_frz (jl_lcN [("walker", 1)] 1 rfl S_begin_of.nd (ji_seq (je_ix (je_var 0) je_int)) (fun _ _ _ _ _ => jts_nil) (fun _ _ _ _ _ => (je_ix (je_var 1) je_int)))) ja_nil))))
def N_chosen : List PySem.Str := ["some", "many", "found", "place", "rest"]
theorem S_chosen : FnScope N_chosen ["some", "many"] (defScope s_chosen) := ⟨rfl, rfl, rfl, by decide +kernel, rfl, by decide +kernel, by decide +kernel⟩
def Le_chosen_1 (rec : FF) : FE := (fLst (fBinL opCat (fLst (fDisp (fCons (fBin opIx (fVar 0) (fVar 3)) fNil))) (fVar 4)))
def L_chosen_2 (rec : FF) : FS := (sExpr (fMt isLs opExtend (fVar 2) (fCons (fLst (fLc [4] (fIt (fCall (arity 2 rec) (fCons (fSl (fVar 0) (fPart (fBin opAdd (fVar 3) (fC (.int 1)))) fNoPart) (fCons (fBin opSub (fVar 1) (fC (.int 1))) fNil)))) (gNm 4) fYes (Le_chosen_1 rec))) fNil)))
def g_chosen (rec : FF) : FS :=
  (sSeq (sIf (fTest (fBin opEq (fVar 1) (fC (.int 0)))) (sRet (fLst (fDisp (fCons (fLst (fDisp fNil)) fNil)))) sNil)
  (sSeq (sAsg (gNm 2) (fNew (fDisp fNil)))
  (sSeq (sFor (fRng1 (fCons (fBi opLen (fCons (fVar 0) fNil)) fNil)) (gNm 3) (L_chosen_2 rec))
  (sRet (fVar 2)))))
def f_chosen : Nat → FF
  | 0 => fDef 5 sNever
  | n + 1 => fDef 5 (g_chosen (f_chosen n))
theorem c_chosen (fc : Fc P w K mg cl tb base ct) : ∀ m : Nat, Callee ⟨P, w, K, cl, tb⟩ mg base "chosen" ["some", "many"] 2 (1 + m) (f_chosen m)
  | 0 => callee_of fc.d_chosen S_chosen (fun _ _ _ _ _ _ us hl => match us, hl with | [_, _], _ => rfl) rfl fun f cdv A outer s H E h => jss_never
  | m + 1 => callee_of fc.d_chosen S_chosen (fun _ _ _ _ _ _ us hl => match us, hl with | [_, _], _ => rfl) rfl fun f cdv A outer s H E h =>
  have hrec := c_chosen fc m
  (jss_cons (js_if (jt_c1 (o_eq h) (je_var 1) je_int) (jss_one (js_ret (je_frz (jl_lst (ja_cons (je_frz (jl_lst ja_nil)) ja_nil))))) jss_nil)
  (jss_cons (js_set 2 S_chosen.nd (je_new (jl_lst ja_nil)))
  (jss_cons (js_for h.own rfl (ji_range1 fc.fr_range (ja_cons (je_len fc.fr_len (ja_cons (je_var 0) ja_nil)) ja_nil)) (jg_name 3 S_chosen.nd) (jss_one (js_expr (je_extend (je_var 2) (ja_cons (je_frz (jl_lcN [("rest", 4)] 4 rfl S_chosen.nd (ji_seq (je_call hrec h (Nat.le_refl _) (ja_cons (je_sl (je_var 0) (jo_some (je_b o_add (je_var 3) je_int)) jo_none) (ja_cons (je_b o_sub (je_var 1) je_int) ja_nil)))) (fun _ _ _ _ _ => jts_nil) (fun _ _ _ _ _ => (je_frz (jl_cat (je_frz (jl_lst (ja_cons (je_ix (je_var 0) (je_var 3)) ja_nil))) (je_var 4)))))) ja_nil)))))
  (jss_one (js_ret (je_var 2))))))
def N_left_of : List PySem.Str := ["plan", "state", "walker", "place"]
theorem S_left_of : FnScope N_left_of ["plan", "state"] (defScope s_left_of) := ⟨rfl, rfl, rfl, by decide +kernel, rfl, by decide +kernel, by decide +kernel⟩
def Le_left_of_1 : FE := (fIf (fTest (fBin opIsN (fVar 3) (fC .non))) (fC (.int 0)) (fBi opAbs (fCons (fBin opSub (fBin opIx (fVar 2) (fC (.int 1))) (fVar 3)) fNil)))
def g_left_of : FS :=
  (sRet (fLst (fLc [2, 3] (fZip (fCons (fBin opIx (fVar 0) (fC (.int 1))) (fCons (fVar 1) fNil))) (gTp 2 (gNs [2, 3])) fYes Le_left_of_1)))
def f_left_of : FF := fDef 4 g_left_of
theorem c_left_of (fc : Fc P w K mg cl tb base ct) : Callee ⟨P, w, K, cl, tb⟩ mg base "left_of" ["plan", "state"] 2 1 f_left_of := callee_of fc.d_left_of S_left_of (fun _ _ _ _ _ _ us hl => match us, hl with | [_, _], _ => rfl) rfl fun f cdv A outer s H E h =>
  (jss_one (js_ret (je_frz (jl_lcT [("walker", 2), ("place", 3)] [2, 3] 2 rfl S_left_of.nd (ji_zip fc.fr_zip (ja_cons (je_ix (je_var 0) je_int) (ja_cons (je_var 1) ja_nil))) (fun _ _ _ _ _ => jts_nil) (fun _ _ _ _ _ => (je_if (jt_c1 o_is (je_var 3) je_non) je_int (je_abs fc.fr_abs (ja_cons (je_b o_sub (je_ix (je_var 2) je_int) (je_var 3)) ja_nil))))))))
def N_need_few : List PySem.Str := ["plan", "state", "many", "left"]
theorem S_need_few : FnScope N_need_few ["plan", "state"] (defScope s_need_few) := ⟨rfl, rfl, rfl, by decide +kernel, rfl, by decide +kernel, by decide +kernel⟩
def L_need_few_1 : FS := (sAug 2 (ipInt (fun i j => i * j) mulOk) (fBin opAdd (fVar 3) (fC (.int 1))))
def g_need_few : FS :=
  (sSeq (sAsg (gNm 2) (fC (.int 1)))
  (sSeq (sFor (fIt (fCall (arity 2 f_left_of) (fCons (fVar 0) (fCons (fVar 1) fNil)))) (gNm 3) L_need_few_1)
  (sIf (fTest (fBin opGt (fVar 2) (fC (.int 20000)))) (sRaise0 12) sNil)))
def f_need_few : FF := fDef 4 g_need_few
theorem c_need_few (fc : Fc P w K mg cl tb base ct) : Callee ⟨P, w, K, cl, tb⟩ mg base "need_few" ["plan", "state"] 2 2 f_need_few := callee_of fc.d_need_few S_need_few (fun _ _ _ _ _ _ us hl => match us, hl with | [_, _], _ => rfl) rfl fun f cdv A outer s H E h =>
  (jss_cons (js_set 2 S_need_few.nd je_int)
  (jss_cons (js_for h.own rfl (ji_seq (je_call (c_left_of fc) h (by decide) (ja_cons (je_var 0) (ja_cons (je_var 1) ja_nil)))) (jg_name 3 S_need_few.nd) (jss_one (js_aug 2 S_need_few.nd ipn_mul (lnk_ipI _ _) (je_b o_add (je_var 3) je_int))))
  (jss_one (js_if (jt_c1 o_gt (je_var 2) (je_gint fc.i_MOST_STATES)) (jss_one (js_raise0 h rfl fc.x0_TooMany)) jss_nil))))
theorem S_BadPlan___init__ : FnScope ["self", "part", "number"] ["self", "part", "number"] (defScope s_BadPlan___init__) := ⟨rfl, rfl, rfl, by decide +kernel, rfl, by decide +kernel, by decide +kernel⟩
theorem c_BadPlan___init__ (fc : Fc P w K mg cl tb base ct) : ExMk ⟨P, w, K, cl, tb⟩ mg base 2 "BadPlan" ["number", "part"] 2 1 := exMk2 fc.d_BadPlan___init__ fc.m_BadPlan fc.T_BadPlan fc.B_StairError fc.m_StairError fc.n_BadPlan_part fc.n_BadPlan_number S_BadPlan___init__ (fun _ _ _ _ _ _ us hl => match us, hl with | [_, _, _], _ => rfl) fun fI cdv A outer s H E => ⟨(pe_baseInit rfl fc.m_StairError fc.B_StairError (pa_cons (pe_var rfl (vis_of rfl)) (pa_cons pe_str pa_nil))), ps_expr (pe_baseInit rfl fc.m_StairError fc.B_StairError (pa_cons (pe_var rfl (vis_of rfl)) (pa_cons pe_str pa_nil))), ps_ost (pe_var rfl (vis_of rfl)) (pe_var rfl (vis_of rfl)), ps_ost (pe_var rfl (vis_of rfl)) (pe_var rfl (vis_of rfl))⟩
def N_is_number : List PySem.Str := ["part", "low", "high"]
theorem S_is_number : FnScope N_is_number ["part", "low", "high"] (defScope s_is_number) := ⟨rfl, rfl, rfl, by decide +kernel, rfl, by decide +kernel, by decide +kernel⟩
def g_is_number : FS :=
  (sRet (fAnd (fIsi .int (fVar 0)) (fAnd (fNot (fIsi .bl (fVar 0))) (fChain opLe opLe (fVar 1) (fVar 0) (fVar 2)))))
def f_is_number : FF := fDef 3 g_is_number
theorem c_is_number (fc : Fc P w K mg cl tb base ct) : Callee ⟨P, w, K, cl, tb⟩ mg base "is_number" ["part", "low", "high"] 3 1 f_is_number := callee_of fc.d_is_number S_is_number (fun _ _ _ _ _ _ us hl => match us, hl with | [_, _, _], _ => rfl) rfl fun f cdv A outer s H E h =>
  (jss_one (js_ret (je_and (je_isi .int fc.fr_isinstance fc.fr_int (je_var 0)) (je_and (je_not (je_isi .bl fc.fr_isinstance fc.fr_bool (je_var 0))) (je_one (je_c2 o_le o_le (je_var 1) (je_var 0) (je_var 2)))))))
def N_is_walker : List PySem.Str := ["walker", "places", "top", "begin", "goal", "load"]
theorem S_is_walker : FnScope N_is_walker ["walker", "places"] (defScope s_is_walker) := ⟨rfl, rfl, rfl, by decide +kernel, rfl, by decide +kernel, by decide +kernel⟩
def g_is_walker : FS :=
  (sSeq (sIf (fOrT (fNotT (fTest (fIsi .tup (fVar 0)))) (fTest (fBin opNe (fBi opLen (fCons (fVar 0) fNil)) (fC (.int 3))))) (sRet (fC (.bl false))) sNil)
  (sSeq (sAsg (gTp 3 (gsCons (gNm 3) (gsCons (gNm 4) (gsCons (gNm 5) gsNil)))) (fVar 0))
  (sSeq (sAsg (gNm 2) (fBin opSub (fBi opLen (fCons (fVar 1) fNil)) (fC (.int 1))))
  (sRet (fAnd (fCall (arity 3 f_is_number) (fCons (fVar 3) (fCons (fC (.int 0)) (fCons (fVar 2) fNil)))) (fAnd (fCall (arity 3 f_is_number) (fCons (fVar 4) (fCons (fC (.int 0)) (fCons (fVar 2) fNil)))) (fAnd (fBin opNe (fVar 3) (fVar 4)) (fCall (arity 3 f_is_number) (fCons (fVar 5) (fCons (fC (.int 0)) (fCons (fC (.int 3)) fNil)))))))))))
def f_is_walker : FF := fDef 6 g_is_walker
theorem c_is_walker (fc : Fc P w K mg cl tb base ct) : Callee ⟨P, w, K, cl, tb⟩ mg base "is_walker" ["walker", "places"] 2 2 f_is_walker := callee_of fc.d_is_walker S_is_walker (fun _ _ _ _ _ _ us hl => match us, hl with | [_, _], _ => rfl) rfl fun f cdv A outer s H E h =>
  (jss_cons (js_if (jt_w (jw_or (jt_not (jt_val (je_isi .tup fc.fr_isinstance fc.fr_tuple (je_var 0)))) (jw_or1 (jt_c1 (o_ne h) (je_len fc.fr_len (ja_cons (je_var 0) ja_nil)) je_int)))) (jss_one (js_ret je_bl)) jss_nil)
  (jss_cons (js_asg (je_var 0) (jg_tup rfl (jgs_cons (jg_name 3 S_is_walker.nd) (jgs_cons (jg_name 4 S_is_walker.nd) (jgs_cons (jg_name 5 S_is_walker.nd) jgs_nil)))))
  (jss_cons (js_set 2 S_is_walker.nd (je_b o_sub (je_len fc.fr_len (ja_cons (je_var 1) ja_nil)) je_int))
  (jss_one (js_ret (je_and (je_call (c_is_number fc) h (by decide) (ja_cons (je_var 3) (ja_cons je_int (ja_cons (je_var 2) ja_nil)))) (je_and (je_call (c_is_number fc) h (by decide) (ja_cons (je_var 4) (ja_cons je_int (ja_cons (je_var 2) ja_nil)))) (je_and (je_c1 (o_ne h) (je_var 3) (je_var 4)) (je_one (je_call (c_is_number fc) h (by decide) (ja_cons (je_var 5) (ja_cons je_int (ja_cons (je_gint fc.i_MOST_LOAD) ja_nil)))))))))))))
def N_need_places : List PySem.Str := ["places", "number", "sign"]
theorem S_need_places : FnScope N_need_places ["places"] (defScope s_need_places) := ⟨rfl, rfl, rfl, by decide +kernel, rfl, by decide +kernel, by decide +kernel⟩
def L_need_places_1 : FS := (sIf (fOrT (fTest (fTabIn true t_ROOM (fVar 2))) (fAndT (fTest (fBin opIn (fVar 1) (fTup (fCons (fC (.int 0)) (fCons (fBin opSub (fBi opLen (fCons (fVar 0) fNil)) (fC (.int 1))) fNil))))) (fTest (fBin opNe (fVar 2) (fC (.str "l")))))) (sRaiseF 2 2 ["number", "part"] (fCons (fC (.int 0)) (fCons (fVar 1) fNil))) sNil)
def g_need_places : FS :=
  (sSeq (sIf (fOrT (fNotT (fTest (fIsi .str (fVar 0)))) (fNotT (fTest (fChain opLe opLe (fC (.int 2)) (fBi opLen (fCons (fVar 0) fNil)) (fC (.int 12)))))) (sRaiseF 2 2 ["number", "part"] (fCons (fC (.int 0)) (fCons (fC (.int 0)) fNil))) sNil)
  (sFor (fEnum (fCons (fVar 0) fNil)) (gTp 2 (gsCons (gNm 1) (gsCons (gNm 2) gsNil))) L_need_places_1))
def f_need_places : FF := fDef 3 g_need_places
theorem c_need_places (fc : Fc P w K mg cl tb base ct) : Callee ⟨P, w, K, cl, tb⟩ mg base "need_places" ["places"] 1 3 f_need_places := callee_of fc.d_need_places S_need_places (fun _ _ _ _ _ _ us hl => match us, hl with | [_], _ => rfl) rfl fun f cdv A outer s H E h =>
  (jss_cons (js_if (jt_w (jw_or (jt_not (jt_val (je_isi .str fc.fr_isinstance fc.fr_str (je_var 0)))) (jw_or1 (jt_not (jt_c2 o_le o_le (je_gint fc.i_LEAST_PLACES) (je_len fc.fr_len (ja_cons (je_var 0) ja_nil)) (je_gint fc.i_MOST_PLACES)))))) (jss_one (js_raiseF h rfl (c_BadPlan___init__ fc) (by decide) (ja_cons je_int (ja_cons je_int ja_nil)))) jss_nil)
  (jss_one (js_for h.own rfl (ji_enum fc.fr_enumerate (ja_cons (je_var 0) ja_nil)) (jg_tup rfl (jgs_cons (jg_name 1 S_need_places.nd) (jgs_cons (jg_name 2 S_need_places.nd) jgs_nil))) (jss_one (js_if (jt_w (jw_or (jt_tabNotIn fc.t_ROOM (je_var 2)) (jw_or1 (jt_w (jw_and (jt_c1 o_in (je_var 1) (je_tup (ja_cons je_int (ja_cons (je_b o_sub (je_len fc.fr_len (ja_cons (je_var 0) ja_nil)) je_int) ja_nil)))) (jw_and1 (jt_c1 (o_ne h) (je_var 2) (je_gstr fc.s_LANDING)))))))) (jss_one (js_raiseF h rfl (c_BadPlan___init__ fc) (by decide) (ja_cons je_int (ja_cons (je_var 1) ja_nil)))) jss_nil)))))
def N_need_plan : List PySem.Str := ["plan", "begins", "places", "walkers", "number", "walker"]
theorem S_need_plan : FnScope N_need_plan ["plan"] (defScope s_need_plan) := ⟨rfl, rfl, rfl, by decide +kernel, rfl, by decide +kernel, by decide +kernel⟩
def L_need_plan_1 : FS := (sSeq (sIf (fOrT (fTest (fBin opGe (fVar 4) (fC (.int 5)))) (fNotT (fTest (fCall (arity 2 f_is_walker) (fCons (fVar 5) (fCons (fVar 2) fNil)))))) (sRaiseF 2 2 ["number", "part"] (fCons (fC (.int 1)) (fCons (fVar 4) fNil))) sNil)
  (sSeq (sExpr (fMt isLs opAppend (fVar 1) (fCons (fBin opIx (fVar 5) (fC (.int 0))) fNil)))
  (sIf (fTest (fBin opGt (fMt isLs opCntL (fVar 1) (fCons (fBin opIx (fVar 5) (fC (.int 0))) fNil)) (fCall (arity 2 f_room) (fCons (fVar 2) (fCons (fBin opIx (fVar 5) (fC (.int 0))) fNil))))) (sRaiseF 2 2 ["number", "part"] (fCons (fC (.int 1)) (fCons (fVar 4) fNil))) sNil)))
def g_need_plan : FS :=
  (sSeq (sIf (fOrT (fNotT (fTest (fIsi .tup (fVar 0)))) (fTest (fBin opNe (fBi opLen (fCons (fVar 0) fNil)) (fC (.int 2))))) (sRaiseF 2 2 ["number", "part"] (fCons (fUn opNeg (fC (.int 1))) (fCons (fC (.int 0)) fNil))) sNil)
  (sSeq (sAsg (gTp 2 (gsCons (gNm 2) (gsCons (gNm 3) gsNil))) (fVar 0))
  (sSeq (sExpr (fCall (arity 1 f_need_places) (fCons (fVar 2) fNil)))
  (sSeq (sIf (fOrT (fNotT (fTest (fIsi .tup (fVar 3)))) (fTest (fBin opEq (fVar 3) (fTup fNil)))) (sRaiseF 2 2 ["number", "part"] (fCons (fC (.int 1)) (fCons (fC (.int 0)) fNil))) sNil)
  (sSeq (sAsg (gNm 1) (fNew (fDisp fNil)))
  (sFor (fEnum (fCons (fVar 3) fNil)) (gTp 2 (gsCons (gNm 4) (gsCons (gNm 5) gsNil))) L_need_plan_1))))))
def f_need_plan : FF := fDef 6 g_need_plan
theorem c_need_plan (fc : Fc P w K mg cl tb base ct) : Callee ⟨P, w, K, cl, tb⟩ mg base "need_plan" ["plan"] 1 4 f_need_plan := callee_of fc.d_need_plan S_need_plan (fun _ _ _ _ _ _ us hl => match us, hl with | [_], _ => rfl) rfl fun f cdv A outer s H E h =>
  (jss_cons (js_if (jt_w (jw_or (jt_not (jt_val (je_isi .tup fc.fr_isinstance fc.fr_tuple (je_var 0)))) (jw_or1 (jt_c1 (o_ne h) (je_len fc.fr_len (ja_cons (je_var 0) ja_nil)) je_int)))) (jss_one (js_raiseF h rfl (c_BadPlan___init__ fc) (by decide) (ja_cons (je_neg je_int) (ja_cons je_int ja_nil)))) jss_nil)
  (jss_cons (js_asg (je_var 0) (jg_tup rfl (jgs_cons (jg_name 2 S_need_plan.nd) (jgs_cons (jg_name 3 S_need_plan.nd) jgs_nil))))
  (jss_cons (js_expr (je_call (c_need_places fc) h (by decide) (ja_cons (je_var 2) ja_nil)))
  (jss_cons (js_if (jt_w (jw_or (jt_not (jt_val (je_isi .tup fc.fr_isinstance fc.fr_tuple (je_var 3)))) (jw_or1 (jt_c1 (o_eq h) (je_var 3) (je_tup ja_nil))))) (jss_one (js_raiseF h rfl (c_BadPlan___init__ fc) (by decide) (ja_cons je_int (ja_cons je_int ja_nil)))) jss_nil)
  (jss_cons (js_set 1 S_need_plan.nd (je_new (jl_lst ja_nil)))
  (jss_one (js_for h.own rfl (ji_enum fc.fr_enumerate (ja_cons (je_var 3) ja_nil)) (jg_tup rfl (jgs_cons (jg_name 4 S_need_plan.nd) (jgs_cons (jg_name 5 S_need_plan.nd) jgs_nil))) (jss_cons (js_if (jt_w (jw_or (jt_c1 o_ge (je_var 4) (je_gint fc.i_MOST_WALKERS)) (jw_or1 (jt_not (jt_val (je_call (c_is_walker fc) h (by decide) (ja_cons (je_var 5) (ja_cons (je_var 2) ja_nil)))))))) (jss_one (js_raiseF h rfl (c_BadPlan___init__ fc) (by decide) (ja_cons je_int (ja_cons (je_var 4) ja_nil)))) jss_nil)
  (jss_cons (js_expr (je_append (je_var 1) (ja_cons (je_ix (je_var 5) je_int) ja_nil)))
  (jss_one (js_if (jt_c1 o_gt (je_countL (je_var 1) (ja_cons (je_ix (je_var 5) je_int) ja_nil)) (je_call (c_room fc) h (by decide) (ja_cons (je_var 2) (ja_cons (je_ix (je_var 5) je_int) ja_nil)))) (jss_one (js_raiseF h rfl (c_BadPlan___init__ fc) (by decide) (ja_cons je_int (ja_cons (je_var 4) ja_nil)))) jss_nil)))))))))))
def N_with_landings : List PySem.Str := ["plan", "steps", "signs", "place", "sign"]
theorem S_with_landings : FnScope N_with_landings ["plan", "steps"] (defScope s_with_landings) := ⟨rfl, rfl, rfl, by decide +kernel, rfl, by decide +kernel, by decide +kernel⟩
def Le_with_landings_1 : FE := (fIf (fTest (fBin opIn (fVar 3) (fVar 1))) (fC (.str "l")) (fVar 4))
def g_with_landings : FS :=
  (sSeq (sAsg (gNm 2) (fLst (fLc [3, 4] (fEnum (fCons (fBin opIx (fVar 0) (fC (.int 0))) fNil)) (gTp 2 (gNs [3, 4])) fYes Le_with_landings_1)))
  (sRet (fTup (fCons (fMt isSt opJoin (fC (.str "")) (fCons (fVar 2) fNil)) (fCons (fBin opIx (fVar 0) (fC (.int 1))) fNil)))))
def f_with_landings : FF := fDef 5 g_with_landings
theorem c_with_landings (fc : Fc P w K mg cl tb base ct) : Callee ⟨P, w, K, cl, tb⟩ mg base "with_landings" ["plan", "steps"] 2 1 f_with_landings := callee_of fc.d_with_landings S_with_landings (fun _ _ _ _ _ _ us hl => match us, hl with | [_, _], _ => rfl) rfl fun f cdv A outer s H E h =>
  (jss_cons (js_setLcT [("place", 3), ("sign", 4)] [3, 4] 2 2 frz_sem rfl S_with_landings.nd (ji_enum fc.fr_enumerate (ja_cons (je_ix (je_var 0) je_int) ja_nil)) (fun _ _ _ _ _ => jts_nil) (fun _ _ _ _ _ => (je_if (jt_c1 o_in (je_var 3) (je_var 1)) (je_gstr fc.s_LANDING) (je_var 4))))
  (jss_one (js_ret (je_tup (ja_cons (je_join je_str (ja_cons (je_var 2) ja_nil)) (ja_cons (je_ix (je_var 0) je_int) ja_nil))))))
def N_widened : List PySem.Str := ["plan", "steps", "many", "some", "wide", "place", "sign"]
theorem S_widened : FnScope N_widened ["plan"] (defScope s_widened) := ⟨rfl, rfl, rfl, by decide +kernel, rfl, by decide +kernel, by decide +kernel⟩
def Lt_widened_1 : FT := (fTest (fBin opEq (fVar 6) (fC (.str "s"))))
def Le_widened_2 : FE := (fVar 5)
def L_widened_3 : FS := (sSeq (sAsg (gNm 4) (fCall (arity 2 f_with_landings) (fCons (fVar 0) (fCons (fVar 3) fNil))))
  (sIf (fTest (fMth 0 "can" (arity 2 (f_Seeker_can 60)) (fMk 0 (arity 2 f_Seeker___init__) (fCons (fVar 4) fNil)) (fCons (fCall (arity 1 f_begin_of) (fCons (fVar 4) fNil)) fNil))) (sRet (fVar 3)) sNil))
def L_widened_4 : FS := (sFor (fIt (fCall (arity 2 (f_chosen 16)) (fCons (fVar 1) (fCons (fVar 2) fNil)))) (gNm 3) L_widened_3)
def g_widened : FS :=
  (sSeq (sExpr (fCall (arity 1 f_need_plan) (fCons (fVar 0) fNil)))
  (sSeq (sExpr (fCall (arity 2 f_need_few) (fCons (fVar 0) (fCons (fCall (arity 1 f_begin_of) (fCons (fVar 0) fNil)) fNil))))
  (sSeq (sAsg (gNm 1) (fLst (fLc [5, 6] (fEnum (fCons (fBin opIx (fVar 0) (fC (.int 0))) fNil)) (gTp 2 (gNs [5, 6])) Lt_widened_1 Le_widened_2)))
  (sSeq (sFor (fRng1 (fCons (fBin opAdd (fBi opLen (fCons (fVar 1) fNil)) (fC (.int 1))) fNil)) (gNm 2) L_widened_4)
  (sRaise0 11)))))
def f_widened : FF := fDef 7 g_widened
theorem c_widened (fc : Fc P w K mg cl tb base ct) : Callee ⟨P, w, K, cl, tb⟩ mg base "widened" ["plan"] 1 66 f_widened := callee_of fc.d_widened S_widened (fun _ _ _ _ _ _ us hl => match us, hl with | [_], _ => rfl) rfl fun f cdv A outer s H E h =>
  (jss_cons (js_expr (je_call (c_need_plan fc) h (by decide) (ja_cons (je_var 0) ja_nil)))
  (jss_cons (js_expr (je_call (c_need_few fc) h (by decide) (ja_cons (je_var 0) (ja_cons (je_call (c_begin_of fc) h (by decide) (ja_cons (je_var 0) ja_nil)) ja_nil))))
  (jss_cons (js_setLcT [("place", 5), ("sign", 6)] [5, 6] 2 1 frz_sem rfl S_widened.nd (ji_enum fc.fr_enumerate (ja_cons (je_ix (je_var 0) je_int) ja_nil)) (fun _ _ _ _ _ => (jts_one (jt_c1 (o_eq (here_blk h _ _ _ _ _)) (je_var 6) (je_gstr fc.s_STEP)))) (fun _ _ _ _ _ => (je_var 5)))
  (jss_cons (js_for h.own rfl (ji_range1 fc.fr_range (ja_cons (je_b o_add (je_len fc.fr_len (ja_cons (je_var 1) ja_nil)) je_int) ja_nil)) (jg_name 2 S_widened.nd) (jss_one (js_for h.own rfl (ji_seq (je_call (c_chosen fc _) h (by decide) (ja_cons (je_var 1) (ja_cons (je_var 2) ja_nil)))) (jg_name 3 S_widened.nd) (jss_cons (js_set 4 S_widened.nd (je_call (c_with_landings fc) h (by decide) (ja_cons (je_var 0) (ja_cons (je_var 3) ja_nil))))
  (jss_one (js_if (jt_val (je_mth (c_Seeker_can fc _) h (by decide) (je_mk (c_Seeker___init__ fc) h (by decide) (ja_cons (je_var 4) ja_nil)) (ja_cons (je_call (c_begin_of fc) h (by decide) (ja_cons (je_var 4) ja_nil)) ja_nil))) (jss_one (js_ret (je_var 3))) jss_nil))))))
  (jss_one (js_raise0 h rfl fc.x0_NoWay))))))
def N_law : List PySem.Str := ["_law_script", "_law_box", "_law_plan_here", "_law_due", "_law_again"]
theorem S_law : FnScope N_law ["_law_script"] (defScope s_law) := ⟨rfl, rfl, rfl, by decide +kernel, rfl, by decide +kernel, by decide +kernel⟩
def Lm_law_1 : FE := (fCall (arity 1 f_widened) (fCons (fVar 2) fNil))
def L_law_2 : FS := (sIf (fNotT (fTest (fCall (arity 2 (f__law_alike 10)) (fCons (fTold (fun c => ht_StairError.lookup c) R__law_told Lm_law_1) (fCons (fIf (fTest (fBin opNotN (fVar 3) (fC .non))) (fVar 3) (fTup (fCons (fC (.str "NoWay")) (fCons (fC (.int 0)) fNil)))) fNil))))) (sRet (fC (.bl false))) sNil)
def g_law : FS :=
  (sSeq (sAsg (gNm 1) (fCall (arity 1 f__law_begun) (fCons (fVar 0) fNil)))
  (sSeq (sAsg (gNm 2) (fBin opIx (fLst (fDisp (fCons (fCall (arity 4 f__law_plan) (fCons (fVar 1) (fCons (fC (.int 7)) (fCons (fC (.int 3)) (fCons (fC (.int 1)) fNil))))) (fCons (fCall (arity 4 f__law_plan) (fCons (fVar 1) (fCons (fC (.int 5)) (fCons (fC (.int 4)) (fCons (fC (.int 1)) fNil))))) fNil)))) (fCall (arity 2 f__law_take) (fCons (fVar 1) (fCons (fC (.int 2)) fNil)))))
  (sSeq (sAsg (gNm 3) (fCall (arity 1 f__law_widened) (fCons (fVar 2) fNil)))
  (sSeq (sFor (fRng1 (fCons (fC (.int 2)) fNil)) (gNm 4) L_law_2)
  (sRet (fC (.bl true)))))))
def f_law : FF := fDef 5 g_law
theorem c_law (fc : Fc P w K mg cl tb base ct) : Callee ⟨P, w, K, cl, tb⟩ mg base "law" ["_law_script"] 1 69 f_law := callee_ofC fc.d_law S_law (fun _ _ _ _ _ _ us hl => match us, hl with | [_], _ => rfl) rfl fun f A outer s H E h =>
  (jss_cons (js_set 1 S_law.nd (je_call (c__law_begun fc) h (by decide) (ja_cons (je_var 0) ja_nil)))
  (jss_cons (js_set 2 S_law.nd (je_ix (je_frz (jl_lst (ja_cons (je_call (c__law_plan fc) h (by decide) (ja_cons (je_var 1) (ja_cons je_int (ja_cons je_int (ja_cons je_int ja_nil))))) (ja_cons (je_call (c__law_plan fc) h (by decide) (ja_cons (je_var 1) (ja_cons je_int (ja_cons je_int (ja_cons je_int ja_nil))))) ja_nil)))) (je_call (c__law_take fc) h (by decide) (ja_cons (je_var 1) (ja_cons je_int ja_nil)))))
  (jss_cons (js_set 3 S_law.nd (je_call (c__law_widened fc) h (by decide) (ja_cons (je_var 2) ja_nil)))
  (jss_cons (js_for h.own rfl (ji_range1 fc.fr_range (ja_cons je_int ja_nil)) (jg_name 4 S_law.nd) (jss_one (js_if (jt_not (jt_val (je_call (c__law_alike fc _) h (by decide) (ja_cons (je_told (k := 66) (cb := 1) (i := 1) (gs := U__law_told) h (by decide) (c__law_told fc) fc.m_StairError fc.ht_StairError (su__law_told fc) H__law_told fc.tab2 rfl fc.tbm2 fc.tbu2 (fun A2 o2 s2 H2 E2 f2 c2 hl2 => (je_call (c_widened fc) hl2 (by decide) (ja_cons (je_var 2) ja_nil))) S__law_told.nd (fun _ _ _ _ _ => rfl)) (ja_cons (je_if (jt_c1 o_isNot (je_var 3) je_non) (je_var 3) (je_tup (ja_cons je_str (ja_cons je_int ja_nil)))) ja_nil))))) (jss_one (js_ret je_bl)) jss_nil)))
  (jss_one (js_ret je_bl))))))
end K07

/-! Pn: walkers on stairs, plainly: states, goings on, what can be come to. -/
namespace Pn
/-- begin, goal, load -/
abbrev Wk := Nat × Nat × Nat
abbrev St := List (Option Nat)
def onWay (w : Wk) (p : Nat) : Prop := (w.1 ≤ p ∧ p < w.2.1) ∨ (w.2.1 < p ∧ p ≤ w.1)
def nx (w : Wk) (p : Nat) : Nat := if w.1 < w.2.1 then p + 1 else p - 1
def bp (w : Wk) (p : Nat) : Option Nat := if nx w p = w.2.1 then none else some (nx w p)
def lf (w : Wk) : Option Nat → Nat
  | none => 0
  | some p => (w.2.1 - p) + (p - w.2.1)
def tot : List Wk → St → Nat
  | w :: ws, o :: s => lf w o + tot ws s
  | _, _ => 0
def many : List Wk → St → Nat
  | w :: ws, o :: s => (lf w o + 1) * many ws s
  | _, _ => 1
def isIn (s : St) : Bool := s.all Option.isNone
def opts (w : Wk) : Option Nat → List (Option Nat)
  | none => [none]
  | some q => none :: (List.range (lf w (some q))).map fun k => some (if w.1 < w.2.1 then q + k else q - k)
def box : List Wk → St → List St
  | w :: ws, o :: s => (opts w o).flatMap fun x => (box ws s).map (x :: ·)
  | _, _ => [[]]
def InB : List Wk → St → St → Prop
  | w :: ws, o :: s0, x :: s => x ∈ opts w o ∧ InB ws s0 s
  | [], [], [] => True
  | _, _, _ => False
theorem opts_len (w : Wk) (o : Option Nat) : (opts w o).length = lf w o + 1 := by
  cases o <;> simp [opts, lf]
theorem box_len : ∀ (ws : List Wk) (s : St), (box ws s).length = many ws s
  | [], _ => by simp [box, many]
  | _ :: _, [] => by simp [box, many]
  | w :: ws, o :: s => by
    have ih := box_len ws s
    rw [box, many, List.length_flatMap]
    simp only [List.length_map, ih]
    rw [← opts_len w o]
    generalize opts w o = l
    induction l with
    | nil => simp
    | cons x l ih2 => rw [List.map_cons, List.sum_cons, ih2, List.length_cons]; rw [Nat.add_mul, Nat.one_mul, Nat.add_comm]
theorem mem_box : ∀ (ws : List Wk) (s0 s : St), InB ws s0 s → s ∈ box ws s0
  | w :: ws, o :: s0, x :: s, h => by
    rw [InB] at h
    rw [box, List.mem_flatMap]
    exact ⟨x, h.1, List.mem_map.mpr ⟨s, mem_box ws s0 s h.2, rfl⟩⟩
  | [], [], [], _ => by simp [box]
  | _ :: _, [], _, h => by simp [InB] at h
  | _ :: _, _ :: _, [], h => by simp [InB] at h
  | [], _ :: _, _, h => by simp [InB] at h
  | [], [], _ :: _, h => by simp [InB] at h
theorem nodup_le {α : Type} [DecidableEq α] : ∀ (L B : List α), L.Nodup → (∀ x ∈ L, x ∈ B) → L.length ≤ B.length
  | [], _, _, _ => Nat.zero_le _
  | x :: L, B, hn, hs => by
    have hx := hs x List.mem_cons_self
    rw [List.nodup_cons] at hn
    have := nodup_le L (B.erase x) hn.2 fun y hy => (List.mem_erase_of_ne (fun e : y = x => hn.1 (by rw [← e]; exact hy))).mpr (hs y (List.mem_cons_of_mem _ hy))
    rw [List.length_erase_of_mem hx] at this
    have hp : 0 < B.length := List.length_pos_of_mem hx
    rw [List.length_cons]
    omega
theorem inB_refl : ∀ (ws : List Wk) (s : St), s.length = ws.length → (∀ (i : Nat) (w : Wk) (p : Nat), ws[i]? = some w → s[i]? = some (some p) → onWay w p) → InB ws s s
  | [], [], _, _ => trivial
  | w :: ws, o :: s, hl, hw => by
    refine ⟨?_, inB_refl ws s (by simpa using hl) fun i w p h1 h2 => hw (i + 1) w p h1 h2⟩
    cases o with
    | none => simp [opts]
    | some p =>
      have := hw 0 w p rfl rfl
      unfold onWay at this
      rw [opts]
      refine List.mem_cons_of_mem _ (List.mem_map.mpr ⟨0, ?_, by simp⟩)
      rw [List.mem_range]
      simp only [lf]
      omega
  | [], _ :: _, hl, _ => by simp at hl
  | _ :: _, [], hl, _ => by simp at hl
theorem nx_up {w : Wk} {p : Nat} (h : w.1 < w.2.1) : nx w p = p + 1 := if_pos h
theorem nx_down {w : Wk} {p : Nat} (h : ¬ w.1 < w.2.1) : nx w p = p - 1 := if_neg h
theorem bp_opts {w : Wk} {o : Option Nat} {p : Nat} (ho : ∀ q, o = some q → onWay w q) (h : some p ∈ opts w o) : bp w p ∈ opts w o := by
  cases o with
  | none => simp [opts] at h
  | some q =>
    have hq := ho q rfl
    unfold onWay at hq
    rw [opts] at h ⊢
    rcases List.mem_cons.mp h with h | h
    · cases h
    · obtain ⟨k, hk, e⟩ := List.mem_map.mp h
      rw [List.mem_range] at hk
      simp only [lf] at hk
      injection e with e
      by_cases hn : nx w p = w.2.1
      · unfold bp
        rw [if_pos hn]
        exact List.mem_cons_self
      · unfold bp
        rw [if_neg hn]
        by_cases c : w.1 < w.2.1
        · rw [nx_up c] at hn ⊢
          rw [if_pos c] at e
          refine List.mem_cons_of_mem _ (List.mem_map.mpr ⟨k + 1, ?_, by rw [if_pos c]; congr 1; omega⟩)
          rw [List.mem_range]
          simp only [lf]
          omega
        · rw [nx_down c] at hn ⊢
          rw [if_neg c] at e
          refine List.mem_cons_of_mem _ (List.mem_map.mpr ⟨k + 1, ?_, by rw [if_neg c]; congr 1; omega⟩)
          rw [List.mem_range]
          simp only [lf]
          omega
theorem inB_set : ∀ (ws : List Wk) (s0 s : St) (i : Nat) (w : Wk) (p : Nat), (∀ (i : Nat) (w : Wk) (p : Nat), ws[i]? = some w → s0[i]? = some (some p) → onWay w p) → InB ws s0 s → ws[i]? = some w → s[i]? = some (some p) → InB ws s0 (s.set i (bp w p))
  | w :: ws, o :: s0, x :: s, 0, _, p, hw, h, h1, h2 => by
    rw [List.getElem?_cons_zero] at h1 h2
    injection h1 with h1
    injection h2 with h2
    subst h1
    subst h2
    exact ⟨bp_opts (fun q e => hw 0 w q rfl (by rw [e]; rfl)) h.1, h.2⟩
  | w :: ws, o :: s0, x :: s, i + 1, w', p, hw, h, h1, h2 => ⟨h.1, inB_set ws s0 s i w' p (fun j w p a b => hw (j + 1) w p a b) h.2 h1 h2⟩
  | [], [], [], _, _, _, _, _, h1, _ => by simp at h1
  | _ :: _, [], _, _, _, _, _, h, _, _ => by simp [InB] at h
  | _ :: _, _ :: _, [], _, _, _, _, h, _, _ => by simp [InB] at h
  | [], _ :: _, _, _, _, _, _, h, _, _ => by simp [InB] at h
  | [], [], _ :: _, _, _, _, _, h, _, _ => by simp [InB] at h
theorem tot_set : ∀ (ws : List Wk) (s : St) (i : Nat) (w : Wk) (o o' : Option Nat), ws[i]? = some w → s[i]? = some o → tot ws (s.set i o') + lf w o = tot ws s + lf w o'
  | w :: ws, o :: s, 0, _, _, o', h1, h2 => by
    rw [List.getElem?_cons_zero] at h1 h2
    injection h1 with h1
    injection h2 with h2
    subst h1
    subst h2
    rw [List.set_cons_zero, tot, tot]
    omega
  | w :: ws, o :: s, i + 1, w', o1, o', h1, h2 => by
    have := tot_set ws s i w' o1 o' h1 h2
    rw [List.set_cons_succ, tot, tot]
    omega
  | [], _, _, _, _, _, h1, _ => by simp at h1
  | _ :: _, [], _, _, _, _, _, h2 => by simp at h2
theorem lf_bp {w : Wk} {p : Nat} (h : onWay w p) : lf w (bp w p) + 1 = lf w (some p) := by
  unfold onWay at h
  by_cases hn : nx w p = w.2.1
  · unfold bp
    rw [if_pos hn]
    by_cases c : w.1 < w.2.1
    · rw [nx_up c] at hn; simp only [lf]; omega
    · rw [nx_down c] at hn; simp only [lf]; omega
  · unfold bp
    rw [if_neg hn]
    by_cases c : w.1 < w.2.1
    · rw [nx_up c] at hn ⊢; simp only [lf]; omega
    · rw [nx_down c] at hn ⊢; simp only [lf]; omega
theorem bp_onWay {w : Wk} {p q : Nat} (h : onWay w p) (e : bp w p = some q) : onWay w q ∧ q = nx w p := by
  unfold bp at e
  by_cases hn : nx w p = w.2.1
  · rw [if_pos hn] at e
    cases e
  · rw [if_neg hn] at e
    injection e with e
    subst e
    refine ⟨?_, rfl⟩
    unfold onWay at h ⊢
    by_cases c : w.1 < w.2.1
    · rw [nx_up c] at hn ⊢; omega
    · rw [nx_down c] at hn ⊢; omega

section
variable (c : Nat → Nat) (ws : List Wk)
structure Leg (s : St) : Prop where
  len : s.length = ws.length
  way : ∀ (i : Nat) (w : Wk) (p : Nat), ws[i]? = some w → s[i]? = some (some p) → onWay w p
  cnt : ∀ p, s.count (some p) ≤ c p
def may (s : St) (i : Nat) : Bool := match ws[i]?, s[i]? with
  | some w, some (some p) => decide (s.count (some (nx w p)) < c (nx w p))
  | _, _ => false
def go (s : St) (i : Nat) : St := match ws[i]?, s[i]? with
  | some w, some (some p) => s.set i (bp w p)
  | _, _ => s
def mays (s : St) : List Nat := (List.range s.length).filter (may c ws s)
def laters (s : St) : List St := (mays c ws s).map (go ws s)
def canF : Nat → St → Bool
  | 0, s => isIn s
  | n + 1, s => isIn s || (laters c ws s).any (canF n)
def canS (s : St) : Bool := canF c ws (tot ws s) s
inductive Bh (s0 : St) : St → Prop
  | refl : Bh s0 s0
  | step {s : St} {i : Nat} : Bh s0 s → may c ws s i = true → Bh s0 (go ws s i)
end
section
variable {c : Nat → Nat} {ws : List Wk} {s s0 : St}
theorem may_ex {i : Nat} (h : may c ws s i = true) : ∃ w p, ws[i]? = some w ∧ s[i]? = some (some p) ∧ s.count (some (nx w p)) < c (nx w p) ∧ go ws s i = s.set i (bp w p) := by
  unfold may at h
  split at h
  · rename_i w p h1 h2
    exact ⟨w, p, h1, h2, of_decide_eq_true h, by unfold go; rw [h1, h2]⟩
  · cases h
theorem may_lt {i : Nat} (h : may c ws s i = true) : i < s.length := by
  obtain ⟨w, p, _, h2, _⟩ := may_ex h
  exact (List.getElem?_eq_some_iff.mp h2).1
theorem mem_mays {i : Nat} : i ∈ mays c ws s ↔ may c ws s i = true := by
  unfold mays
  rw [List.mem_filter, List.mem_range]
  exact ⟨fun h => h.2, fun h => ⟨may_lt h, h⟩⟩
theorem mem_laters {t : St} : t ∈ laters c ws s ↔ ∃ i, may c ws s i = true ∧ t = go ws s i := by
  unfold laters
  rw [List.mem_map]
  constructor
  · rintro ⟨i, h, rfl⟩
    exact ⟨i, mem_mays.mp h, rfl⟩
  · rintro ⟨i, h, rfl⟩
    exact ⟨i, mem_mays.mpr h, rfl⟩
theorem tot_go {i : Nat} (g : Leg c ws s) (h : may c ws s i = true) : tot ws (go ws s i) + 1 = tot ws s := by
  obtain ⟨w, p, h1, h2, _, e⟩ := may_ex h
  have := tot_set ws s i w (some p) (bp w p) h1 h2
  have h3 := lf_bp (g.way i w p h1 h2)
  rw [e]
  omega
theorem Leg.go {i : Nat} (g : Leg c ws s) (h : may c ws s i = true) : Leg c ws (go ws s i) := by
  obtain ⟨w, p, h1, h2, h3, e⟩ := may_ex h
  obtain ⟨hi, hp⟩ := List.getElem?_eq_some_iff.mp h2
  have hw := g.way i w p h1 h2
  rw [e]
  refine ⟨by rw [List.length_set]; exact g.len, fun j w' q a b => ?_, fun q => ?_⟩
  · by_cases hj : i = j
    · subst hj
      rw [h1] at a
      cases a
      rw [List.getElem?_set_self hi] at b
      injection b with b
      exact (bp_onWay hw b).1
    · rw [List.getElem?_set_ne hj] at b
      exact g.way j w' q a b
  · have := g.cnt q
    rw [List.count_set hi]
    by_cases hb : bp w p = some q
    · obtain ⟨_, rfl⟩ := bp_onWay hw hb
      rw [hb]
      simp only [beq_self_eq_true, if_true]
      omega
    · have : (bp w p == some q) = false := by simpa using hb
      rw [this]
      simp only [Bool.false_eq_true, if_false]
      omega
theorem Leg.bh (g : Leg c ws s0) (h : Bh c ws s0 s) : Leg c ws s := by
  induction h with
  | refl => exact g
  | step _ h ih => exact ih.go h
theorem bh_box (g : Leg c ws s0) (h : Bh c ws s0 s) : InB ws s0 s := by
  induction h with
  | refl => exact inB_refl ws s0 g.len g.way
  | step _ h ih =>
    obtain ⟨w, p, h1, h2, _, e⟩ := may_ex h
    rw [e]
    exact inB_set ws s0 _ _ w p g.way ih h1 h2
theorem bh_trans {t : St} (h1 : Bh c ws s0 s) (h2 : Bh c ws s t) : Bh c ws s0 t := by
  induction h2 with
  | refl => exact h1
  | step _ h ih => exact .step ih h
/-- how many there are at the most -/
theorem bh_many {L : List St} (g : Leg c ws s0) (hn : L.Nodup) (h : ∀ s ∈ L, Bh c ws s0 s) : L.length ≤ many ws s0 := by
  rw [← box_len]
  exact nodup_le L _ hn fun s hs => mem_box ws s0 s (bh_box g (h s hs))
theorem Leg.laters {t : St} (g : Leg c ws s) (h : t ∈ laters c ws s) : Leg c ws t ∧ tot ws t + 1 = tot ws s := by
  obtain ⟨i, h2, rfl⟩ := mem_laters.mp h
  exact ⟨g.go h2, tot_go g h2⟩
theorem any_congr' {α : Type} {p q : α → Bool} : ∀ {l : List α}, (∀ x ∈ l, p x = q x) → l.any p = l.any q
  | [], _ => rfl
  | x :: l, h => by
    rw [List.any_cons, List.any_cons, h x List.mem_cons_self, any_congr' fun y hy => h y (List.mem_cons_of_mem _ hy)]
theorem canF_enough : ∀ (n : Nat) (s : St), Leg c ws s → tot ws s ≤ n → canF c ws n s = canS c ws s := by
  intro n
  induction n with
  | zero =>
    intro s g h
    unfold canS
    rw [Nat.le_zero.mp h]
  | succ n ih =>
    intro s g h
    unfold canS
    cases ht : tot ws s with
    | zero =>
      have : laters c ws s = [] := by
        rw [List.eq_nil_iff_forall_not_mem]
        intro t hm
        have := (g.laters hm).2
        omega
      rw [canF, canF, this]
      simp
    | succ m =>
      rw [canF, canF]
      congr 1
      refine any_congr' fun t hm => ?_
      obtain ⟨g2, e⟩ := g.laters hm
      have hm' : tot ws t = m := by omega
      rw [ih t g2 (by omega), canS, hm']
theorem canS_eq (g : Leg c ws s) : canS c ws s = (isIn s || (laters c ws s).any (canS c ws)) := by
  rw [← canF_enough (tot ws s + 1) s g (by omega), canF]
  congr 1
  exact any_congr' fun t hm => canF_enough _ t (g.laters hm).1 (by have := (g.laters hm).2; omega)
theorem can_back (g : Leg c ws s) {t : St} (h : t ∈ laters c ws s) (k : canS c ws t = true) : canS c ws s = true := by
  rw [canS_eq g, Bool.or_eq_true]
  exact .inr (List.any_eq_true.mpr ⟨t, h, k⟩)
theorem can_bh (g : Leg c ws s0) (h : Bh c ws s0 s) (k : canS c ws s = true) : canS c ws s0 = true := by
  induction h with
  | refl => exact k
  | step hb h ih => exact ih (can_back (g.bh hb) (mem_laters.mpr ⟨_, h, rfl⟩) k)
theorem bh_tot (g : Leg c ws s0) (h : Bh c ws s0 s) : tot ws s ≤ tot ws s0 := by
  induction h with
  | refl => exact Nat.le_refl _
  | step hb h ih => have := tot_go (g.bh hb) h; omega
end
end Pn

namespace K07
open PySem PySem.Spec L2 Fx Pn
/-- the box: the script's rest, the stirred number -/
abbrev bx (ns : List Int) (z : Int) (R : Sto) : Sto := .lst (ns.map D.int) :: .lst [.ref 0, .int z] :: R
theorem fdm (a m : Int) (h : 0 < m) : 0 ≤ a.fmod m ∧ a.fmod m < m := ⟨Int.fmod_nonneg_of_pos a h, Int.fmod_lt_of_pos a h⟩
theorem take_ok (ns : List Int) (z : Int) (R : Sto) (m : Int) (h0 : 0 < m) (h1 : m < 1000000) : ∃ r ns' z', f__law_take [.ref 1, .int m] (bx ns z R) = .ok (.int r) (bx ns' z' R) ∧ 0 ≤ r ∧ r < m := by
  have hm : ¬ m = 0 := by omega
  have hm2 : m.natAbs < 1073741824 := by omega
  have h48 : in64 48271 = true := rfl
  unfold f__law_take g__law_take
  cases ns with
  | nil =>
    have e := eq_nil (S := bx [] z R) (n := 0) (ns := []) rfl
    simp [tooMany, e, L2.atI, L2.ixN, h48, hm, hm2, opSetL]
    exact fdm _ m h0
  | cons n ns =>
    have e := eq_nil (S := bx (n :: ns) z R) (n := 0) (ns := n :: ns) rfl
    by_cases c1 : n.fdiv m = 0
    · refine ⟨n.fmod m, ns, z, ?_, fdm n m h0⟩
      simp [tooMany, e, L2.atI, L2.ixN, h48, hm, hm2, opSetL, c1, opPopAt, in63, seqIndex?]
    · by_cases c2 : n.fdiv m = -1
      · refine ⟨n.fmod m, ns, z, ?_, fdm n m h0⟩
        simp [tooMany, e, L2.atI, L2.ixN, h48, hm, hm2, opSetL, c1, c2, opPopAt, in63, seqIndex?]
      · refine ⟨n.fmod m, n.fdiv m :: ns, z, ?_, fdm n m h0⟩
        simp [tooMany, e, L2.atI, L2.ixN, h48, hm, hm2, opSetL, c1, c2, opPopAt, in63, seqIndex?]

theorem begun_ok (ns : List Int) : ∃ z, f__law_begun [.scr (ns.map D.int)] [] = .ok (.ref 1) (bx ns z []) := by
  have h48 : in64 48271 = true := rfl
  have h69 : in64 69621 = true := rfl
  unfold f__law_begun g__law_begun
  simp [itOf]
  obtain ⟨σ', S', e, z, x, rfl, rfl⟩ := loopF_inv (g := gNm 2) (b := L__law_begun_1) (ok := okLive ⟨ns.map D.int, []⟩)
    (fun ds σ S => (∃ ms : List Int, ds = ms.map D.int) ∧ ∃ (z : Int) (x : Option D), σ = [some (.scr (ns.map D.int)), some (.int z), x] ∧ S = [])
    (fun σ S => ∃ (z : Int) (x : Option D), σ = [some (.scr (ns.map D.int)), some (.int z), x] ∧ S = []) (fun _ _ _ _ => rfl) (fun σ S h => h.2) (by
      rintro d ds σ S ⟨⟨ms, hms⟩, z, x, rfl, rfl⟩
      cases ms with
      | nil => cases hms
      | cons m ms =>
        cases hms
        refine ⟨_, _, rfl, .inl ⟨[some (.scr (ns.map D.int)), some (.int ((z * 48271 + m * 69621 + 11).fmod 2147483647)), some (.int m)], [], ?_, ⟨ms, rfl⟩, _, _, rfl, rfl⟩⟩
        simp [L__law_begun_1, h48, h69]) (ns.map D.int) [some (.scr (ns.map D.int)), some (.int 0), none] [] ⟨⟨ns, rfl⟩, 0, none, rfl, rfl⟩
  rw [e]
  have hb : in64 (if (2 : Int) < (ns.length : Int) then 1 else 0) = true := by split <;> rfl
  simp [tooMany, hb]

/-! ### texts -/
theorem strs_map : ∀ ys : List Str, strsOf (ys.map D.str) = some ys
  | [] => rfl
  | y :: ys => by
    show (match strOf (.str y), strsOf (ys.map D.str) with
      | some i, some is => some (i :: is)
      | _, _ => none) = _
    rw [strs_map ys]
    rfl
theorem join_empty : ∀ ys : List Str, TL.tl (Txt.join "" ys) = (ys.map TL.tl).flatten := by
  intro ys
  rw [TL.join_eq, TL.tl_join]
  have e : TL.tl ("" : Str) = [] := rfl
  rw [e]
  have h : ∀ l : List (List Nat), TL.joinL [] l = l.flatten := by
    intro l
    induction l with
    | nil => rfl
    | cons p l ih =>
      cases l with
      | nil => simp [TL.joinL]
      | cons q r =>
        show p ++ ([] ++ TL.joinL [] (q :: r)) = _
        rw [ih]
        rfl
  exact h _
theorem tm_of {n : Nat} (h : n ≤ 100000) : tooMany n = false := by
  unfold tooMany
  exact decide_eq_false (by omega)
theorem paired_strs {P : Str → Prop} : ∀ {xs ys : List D}, Paired (fun _ y => ∃ s : Str, y = .str s ∧ P s) xs ys → ∃ ss : List Str, ys = ss.map D.str ∧ ss.length = xs.length ∧ ∀ s ∈ ss, P s
  | _, _, .nil => ⟨[], rfl, rfl, fun _ h => nomatch h⟩
  | _, _, .cons ⟨s, e, h⟩ t => by
    obtain ⟨ss, e2, hl, hp⟩ := paired_strs t
    refine ⟨s :: ss, by rw [e, e2]; rfl, by simp [hl], fun x hx => ?_⟩
    rcases List.mem_cons.mp hx with rfl | hx
    · exact h
    · exact hp x hx
theorem one_signs : ∀ ss : List Str, (∀ s ∈ ss, TL.tl s = [115] ∨ TL.tl s = [108]) → (∀ c ∈ (ss.map TL.tl).flatten, c = 115 ∨ c = 108) ∧ (ss.map TL.tl).flatten.length = ss.length ∧ (ss.map (·.length)).sum = ss.length
  | [], _ => ⟨fun _ h => (nomatch h), rfl, rfl⟩
  | s :: ss, h => by
    obtain ⟨h1, h2, h3⟩ := one_signs ss fun x hx => h x (List.mem_cons_of_mem _ hx)
    have hs := h s List.mem_cons_self
    have hl : s.length = 1 := by rw [TL.len_tl]; rcases hs with e | e <;> rw [e] <;> rfl
    refine ⟨fun c hc => ?_, ?_, ?_⟩
    · rw [List.map_cons, List.flatten_cons, List.mem_append] at hc
      rcases hc with hc | hc
      · rcases hs with e | e
        · rw [e] at hc; exact .inl (List.mem_singleton.mp hc)
        · rw [e] at hc; exact .inr (List.mem_singleton.mp hc)
      · exact h1 c hc
    · rw [List.map_cons, List.flatten_cons, List.length_append, h2, ← TL.len_tl, hl, List.length_cons]
      omega
    · rw [List.map_cons, List.sum_cons, h3, hl, List.length_cons]
      omega
/-- signs of a stair -/
structure GoodPl (pl : Str) : Prop where
  ex : ∃ ms : List Nat, TL.tl pl = 108 :: (ms ++ [108]) ∧ (∀ c ∈ ms, c = 115 ∨ c = 108) ∧ ms.length ≤ 10
theorem pick3 (r : Int) (h0 : 0 ≤ r) (h1 : r < 3) : ∃ y : Str, L2.atI [D.str "s", D.str "s", D.str "l"] r = some (.str y) ∧ (TL.tl y = [115] ∨ TL.tl y = [108]) := by
  have : r = 0 ∨ r = 1 ∨ r = 2 := by omega
  rcases this with rfl | rfl | rfl
  · exact ⟨"s", rfl, .inl rfl⟩
  · exact ⟨"s", rfl, .inl rfl⟩
  · exact ⟨"l", rfl, .inr rfl⟩
theorem places_ok (L : Int) (hL1 : 2 ≤ L) (hL2 : L ≤ 12) (ns : List Int) (z : Int) (R : Sto) : ∃ pl ns' z', f__law_places [.ref 1, .int L] (bx ns z R) = .ok (.str pl) (bx ns' z' R) ∧ GoodPl pl ∧ (pl.length : Int) ≤ L := by
  unfold f__law_places g__law_places
  obtain ⟨m, ns1, z1, e1, h0, h1⟩ := take_ok ns z R (L - 1) (by omega) (by omega)
  have hm : m.natAbs ≤ 100000 := by omega
  obtain ⟨ys, S', e, ⟨ns', z', rfl⟩, hY⟩ := lcF_inv (own := [3]) (g := gNm 3) (tt := fYes) (te := Le__law_places_1) (ok := okLive ⟨rngD 0 m.toNat, []⟩)
    (σ := [some (.ref 1), some (.int L), some (.int m), none]) (items := rngD 0 m.toNat)
    (fun S => ∃ ns z, S = bx ns z R) (fun d y => ∃ s : Str, y = .str s ∧ (TL.tl s = [115] ∨ TL.tl s = [108])) (fun _ _ => rfl) (by
      rintro d hd S ⟨ns, z, rfl⟩
      obtain ⟨r, ns2, z2, e2, h2, h3⟩ := take_ok ns z R 3 (by decide) (by decide)
      obtain ⟨y, ey, hy⟩ := pick3 r h2 h3
      refine ⟨_, rfl, rfl, .str y, bx ns2 z2 R, ?_, ⟨ns2, z2, rfl⟩, y, rfl, hy⟩
      simp [Le__law_places_1, wipe1, tooMany, e2, ey]) (bx ns1 z1 R) ⟨ns1, z1, rfl⟩
  obtain ⟨ss, rfl, hl, hp⟩ := paired_strs hY
  obtain ⟨g1, g2, g3⟩ := one_signs ss hp
  have hlen : ss.length = m.toNat := by rw [hl]; simp [rngD]
  have hj : joinOk "" ss = true := by
    unfold joinOk
    refine decide_eq_true ?_
    have e0 : ("" : Str).length = 0 := rfl
    rw [g3, e0]
    omega
  have tl1 : TL.tl (Txt.join "" ss) = (ss.map TL.tl).flatten := join_empty ss
  have ljn : (Txt.join "" ss).length = m.toNat := by rw [TL.len_tl, tl1, g2, hlen]
  have l1 : ("l" : Str).length = 1 := rfl
  have t1 : tooMany (("l" : Str).length + (Txt.join "" ss).length) = false := tm_of (by omega)
  have t2 : tooMany (("l" ++ Txt.join "" ss : Str).length + ("l" : Str).length) = false := tm_of (by
    rw [TL.len_tl, TL.tl_append, List.length_append, ← TL.len_tl, ← TL.len_tl]
    omega)
  have oj : opJoin (.str "") [.lst (ss.map D.str)] (bx ns' z' R) = some (.str (Txt.join "" ss), bx ns' z' R) := by
    unfold opJoin
    simp [strs_map, hj]
  have tmm : tooMany m.natAbs = false := tm_of hm
  refine ⟨"l" ++ Txt.join "" ss ++ "l", ns', z', ?_, ⟨(ss.map TL.tl).flatten, ?_, g1, by omega⟩, ?_⟩
  · simp [e1, tmm, e, oj, t1, t2]
  · rw [TL.tl_append, TL.tl_append, tl1]
    rfl
  · rw [TL.len_tl, TL.tl_append, TL.tl_append, List.length_append, List.length_append, tl1, g2, hlen, ← TL.len_tl, l1]
    omega

/-! ### plans -/
def wk (x : Wk) : D := .tup [.int x.1, .int x.2.1, .int x.2.2]
def bg (x : Wk) : D := .int x.1
def cap (pl : Str) (k : Nat) : Nat := if (TL.tl pl)[k]? = some 108 then 2 else 1
abbrev cnt (ws : List Wk) (k : Nat) : Nat := (ws.map (·.1)).count k
structure Part (pl : Str) (ws : List Wk) : Prop where
  at_ : ∀ w ∈ ws, w.1 < pl.length ∧ w.2.1 < pl.length ∧ w.1 ≠ w.2.1 ∧ w.2.2 ≤ 3
  cnt : ∀ k, cnt ws k ≤ cap pl k
structure GoodPlan (pl : Str) (ws : List Wk) : Prop where
  gp : GoodPl pl
  part : Part pl ws
  ne : ws ≠ []
  few : ws.length ≤ 5
theorem GoodPl.len {pl : Str} (g : GoodPl pl) : 2 ≤ pl.length ∧ pl.length ≤ 12 := by
  obtain ⟨ms, e, _, hl⟩ := g.ex
  rw [TL.len_tl, e]
  simp
  omega
theorem GoodPl.sign {pl : Str} (g : GoodPl pl) {k : Nat} (hk : k < pl.length) : ∃ c, (TL.tl pl)[k]? = some c ∧ (c = 115 ∨ c = 108) := by
  obtain ⟨ms, e, h, hl⟩ := g.ex
  rw [TL.len_tl] at hk
  refine ⟨_, List.getElem?_eq_getElem hk, ?_⟩
  have : (TL.tl pl)[k] ∈ 108 :: (ms ++ [108]) := by rw [← e]; exact List.getElem_mem hk
  rcases List.mem_cons.mp this with z | z
  · exact .inr z
  · rcases List.mem_append.mp z with z | z
    · exact h _ z
    · exact .inr (List.mem_singleton.mp z)
theorem atI_n {α : Type} {xs : List α} {k : Nat} {x : α} (h : xs[k]? = some x) : L2.atI xs (k : Int) = some x := by
  obtain ⟨h1, h2⟩ := List.getElem?_eq_some_iff.mp h
  rw [atI_nat h1, h2]
theorem sign_l (c : Nat) : decide ((⟨#[c]⟩ : Str) = "l") = decide (c = 108) := by
  have e : (("l" : Str)) = ⟨#[108]⟩ := rfl
  rw [e]
  by_cases h : c = 108
  · rw [h]; simp
  · rw [decide_eq_false h, decide_eq_false]
    intro q
    injection q with q
    simp at q
    exact h q
theorem rngD0 (n : Nat) : rngD 0 n = (List.range n).map fun k => D.int (k : Nat) := by
  unfold rngD
  refine List.map_congr_left fun k _ => ?_
  rw [Int.zero_add]
theorem bg_flat (ws : List Wk) : (ws.map bg).all flatD = true := by
  rw [List.all_map]
  exact List.all_eq_true.mpr fun _ _ => rfl
theorem bg_count (ws : List Wk) (k : Nat) : (ws.map bg).countP (fun y => eqF y (.int (k : Nat))) = cnt ws k := by
  unfold cnt List.count
  rw [List.countP_map, List.countP_map]
  refine List.countP_congr fun w _ => ?_
  show eqF (.int (w.1 : Nat)) (.int (k : Nat)) = true ↔ (w.1 == k) = true
  show ((w.1 : Int) == (k : Int)) = true ↔ _
  rw [beq_iff_eq, beq_iff_eq]
  omega
/-- begins.count(k) -/
theorem cnt_op {S : Sto} {n k : Nat} {ws : List Wk} (h : S[n]? = some (.lst (ws.map bg))) : opCntL (.ref n) [.int (k : Nat)] S = some (.int (cnt ws k : Nat), S) := by
  unfold opCntL
  have e : seqL (.ref n) S = some (ws.map bg) := by rw [seqLr, h]
  rw [e]
  dsimp only
  unfold cntD
  rw [bg_flat, bg_count]
  rfl

/-- the store of the making of a plan -/
abbrev px (ns : List Int) (z : Int) (R : Sto) (ws : List Wk) : Sto := bx ns z (R ++ [.lst (ws.map wk), .lst (ws.map bg)])
theorem px_f {ns : List Int} {z : Int} {R : Sto} {ws : List Wk} : (px ns z R ws)[R.length + 2]? = some (.lst (ws.map wk)) := by
  simp [px, bx]
theorem px_b {ns : List Int} {z : Int} {R : Sto} {ws : List Wk} : (px ns z R ws)[R.length + 3]? = some (.lst (ws.map bg)) := by
  simp [px, bx]
/-- the free places -/
def frees (pl : Str) (ws : List Wk) : List Nat := (List.range pl.length).filter fun k => decide (cnt ws k < cap pl k)
abbrev slP (L C Ld : Int) (R : Sto) (pl : Str) (a b c d e f g : Option D) : Sl := [some (.ref 1), some (.int L), some (.int C), some (.int Ld), a, some (.str pl), some (.ref (R.length + 2)), some (.ref (R.length + 3)), b, c, d, e, f]
theorem frees_ok {L C Ld : Int} {pl : Str} (gp : GoodPl pl) (ws : List Wk) (ns : List Int) (z : Int) (R : Sto) (a b c d e f g : Option D) :
    lcF [12] (gNm 12) Lt__law_plan_1 Le__law_plan_2 (okLive ⟨rngD 0 pl.length, []⟩) (rngD 0 pl.length) (slP L C Ld R pl a b c d e f g) (px ns z R ws) = .ok ((frees pl ws).map fun k : Nat => D.int (k : Nat)) (px ns z R ws) := by
  obtain ⟨hl1, hl2⟩ := gp.len
  have h := lcF_pure (own := [12]) (g := gNm 12) (tt := Lt__law_plan_1) (te := Le__law_plan_2) (ok := okLive ⟨rngD 0 pl.length, []⟩) (items := rngD 0 pl.length) (σ := slP L C Ld R pl a b c d e f g) (S := px ns z R ws)
    (fun d => match d with | .int k => decide (cnt ws k.toNat < cap pl k.toNat) | _ => false) (fun d => d) rfl (by
      intro d hd
      rw [rngD0] at hd
      obtain ⟨k, hk, rfl⟩ := List.mem_map.mp hd
      have hk' : k < pl.length := List.mem_range.mp hk
      refine ⟨_, rfl, ?_, fun _ => ?_⟩
      · obtain ⟨sg, es, hs⟩ := gp.sign hk'
        have e1 := cnt_op (k := k) (px_b (ns := ns) (z := z) (R := R) (ws := ws))
        have e2 := atI_n es
        have e3 : tooMany pl.length = false := tm_of (by omega)
        have e4 : (px ns z R ws)[R.length + 3]? = some (.lst (ws.map bg)) := px_b
        have e5 : cap pl k = if sg = 108 then 2 else 1 := by
          unfold cap
          rw [es]
          simp
        simp [Lt__law_plan_1, wipe1, e1, e2, e3, e4, sign_l, e5]
        split <;> omega
      · simp [Le__law_plan_2, wipe1])
  rw [h, rngD0, List.filter_map, List.map_map]
  rfl
def others (pl : Str) (b : Nat) : List Nat := (List.range pl.length).filter fun k => !decide (k = b)
theorem others_ok {pl : Str} {S : Sto} {σ : Sl} {b : Nat} (h12 : σ.length = 13) (h9 : σ[9]? = some (some (.int (b : Nat)))) :
    lcF [12] (gNm 12) Lt__law_plan_3 Le__law_plan_4 (okLive ⟨rngD 0 pl.length, []⟩) (rngD 0 pl.length) σ S = .ok ((others pl b).map fun k : Nat => D.int (k : Nat)) S := by
  have h := lcF_pure (own := [12]) (g := gNm 12) (tt := Lt__law_plan_3) (te := Le__law_plan_4) (ok := okLive ⟨rngD 0 pl.length, []⟩) (items := rngD 0 pl.length) (σ := σ) (S := S)
    (fun d => match d with | .int k => !decide (k.toNat = b) | _ => false) (fun d => d) rfl (by
      intro d hd
      rw [rngD0] at hd
      obtain ⟨k, hk, rfl⟩ := List.mem_map.mp hd
      refine ⟨_, rfl, ?_, fun _ => ?_⟩
      · have e9 : ((wipeD σ [12]).set 12 (some (.int (k : Nat))))[9]? = some (some (.int (b : Nat))) := by simp [wipe1, h9]
        have e12 : ((wipeD σ [12]).set 12 (some (.int (k : Nat))))[12]? = some (some (.int (k : Nat))) := by simp [wipe1, h12]
        simp [Lt__law_plan_3, e9, e12]
        omega
      · have e12 : ((wipeD σ [12]).set 12 (some (.int (k : Nat))))[12]? = some (some (.int (k : Nat))) := by simp [wipe1, h12]
        simp [Le__law_plan_4, e12])
  rw [h, rngD0, List.filter_map, List.map_map]
  rfl
theorem pickN {xs : List Nat} {r : Int} (h0 : 0 ≤ r) (h1 : r < xs.length) : ∃ b ∈ xs, L2.atI (xs.map fun k : Nat => D.int (k : Nat)) r = some (.int (b : Nat)) := by
  obtain ⟨k, rfl⟩ := Int.eq_ofNat_of_zero_le h0
  have hk : k < xs.length := by omega
  refine ⟨xs[k], List.getElem_mem hk, atI_n ?_⟩
  rw [List.getElem?_map, List.getElem?_eq_getElem hk]
  rfl
theorem lastN {xs : List Nat} (h : xs ≠ []) : ∃ b ∈ xs, L2.atI (xs.map fun k : Nat => D.int (k : Nat)) (-1) = some (.int (b : Nat)) := by
  have hl : 0 < xs.length := List.length_pos_iff.mpr h
  refine ⟨xs[xs.length - 1], List.getElem_mem _, ?_⟩
  unfold L2.atI L2.ixN
  rw [List.length_map]
  have h1 : ¬ (0 : Int) ≤ -1 := by decide
  have h2 : -(xs.length : Int) ≤ -1 := by omega
  rw [if_neg h1, if_pos h2]
  have h3 : ((-1 : Int) + (xs.length : Int)).toNat = xs.length - 1 := by omega
  simp [h3, List.getElem?_eq_getElem (show xs.length - 1 < xs.length by omega)]
abbrev px2 (ns : List Int) (z : Int) (R : Sto) (A B : List D) : Sto := bx ns z (R ++ [.lst A, .lst B])
theorem px2_f {ns : List Int} {z : Int} {R : Sto} {A B : List D} : (px2 ns z R A B)[R.length + 2]? = some (.lst A) := by simp [px2, bx]
theorem px2_b {ns : List Int} {z : Int} {R : Sto} {A B : List D} : (px2 ns z R A B)[R.length + 3]? = some (.lst B) := by simp [px2, bx]
theorem few_of {n : Nat} (h : n < 100000) : fewer n = true := decide_eq_true h
theorem app_f {ns : List Int} {z : Int} {R : Sto} {A B : List D} {d : D} (h : A.length < 100000) : opAppend (.ref (R.length + 2)) [d] (px2 ns z R A B) = some (.non, px2 ns z R (A ++ [d]) B) := by
  unfold opAppend
  rw [lstOr, px2_f]
  dsimp only
  rw [if_pos (few_of h)]
  simp [px2, bx]
theorem app_b {ns : List Int} {z : Int} {R : Sto} {A B : List D} {d : D} (h : B.length < 100000) : opAppend (.ref (R.length + 3)) [d] (px2 ns z R A B) = some (.non, px2 ns z R A (B ++ [d])) := by
  unfold opAppend
  rw [lstOr, px2_b]
  dsimp only
  rw [if_pos (few_of h)]
  simp [px2, bx]
theorem pickG {n o : Nat} (hn : 2 ≤ n) (ho : o < n) {r : Int} (h0 : 0 ≤ r) (h1 : r < 3) : ∃ g : Nat, g < n ∧ L2.atI [D.int 0, D.int ((n : Int) - 1), D.int (o : Nat)] r = some (.int (g : Nat)) := by
  have : r = 0 ∨ r = 1 ∨ r = 2 := by omega
  rcases this with rfl | rfl | rfl
  · exact ⟨0, by omega, rfl⟩
  · refine ⟨n - 1, by omega, ?_⟩
    have e : ((n - 1 : Nat) : Int) = (n : Int) - 1 := by omega
    rw [e]
    rfl
  · exact ⟨o, ho, rfl⟩
theorem mem_frees {pl : Str} {ws : List Wk} {k : Nat} : k ∈ frees pl ws ↔ k < pl.length ∧ cnt ws k < cap pl k := by
  unfold frees
  rw [List.mem_filter, List.mem_range, decide_eq_true_iff]
theorem cnt_snoc (ws : List Wk) (w : Wk) (k : Nat) : cnt (ws ++ [w]) k = cnt ws k + if w.1 = k then 1 else 0 := by
  unfold cnt
  rw [List.map_append, List.count_append]
  simp [List.count_cons]
theorem step_ok {L C Ld : Int} (hd0 : 0 ≤ Ld) (hd1 : Ld ≤ 3) {pl : Str} (gp : GoodPl pl) (ws : List Wk) (pw : Part pl ws) (hf : frees pl ws ≠ []) (hfew : ws.length < 100) (ns : List Int) (z : Int) (R : Sto) (a b c d e f : Option D) :
    ∃ (w : Wk) (ns' : List Int) (z' : Int) (b' c' d' e' : Option D), Part pl (ws ++ [w]) ∧ ((L__law_plan_5 (slP L C Ld R pl a b c d e f none) (px ns z R ws) = .nx (slP L C Ld R pl a b' c' d' e' f none) (px ns' z' R (ws ++ [w])) ∧ frees pl (ws ++ [w]) ≠ []) ∨
      L__law_plan_5 (slP L C Ld R pl a b c d e f none) (px ns z R ws) = .bk (slP L C Ld R pl a b' c' d' e' f none) (px ns' z' R (ws ++ [w]))) := by
  obtain ⟨hl1, hl2⟩ := gp.len
  have e3 : tooMany pl.length = false := tm_of (by omega)
  have e4 : tooMany (pl.length : Int).natAbs = false := tm_of (by omega)
  have fl : 0 < (frees pl ws).length := List.length_pos_iff.mpr hf
  have fl2 : (frees pl ws).length ≤ 12 := by
    unfold frees
    exact Nat.le_trans (List.length_filter_le _ _) (by rw [List.length_range]; exact hl2)
  obtain ⟨r1, ns1, z1, t1, h10, h11⟩ := take_ok ns z (R ++ [.lst (ws.map wk), .lst (ws.map bg)]) ((frees pl ws).length : Nat) (by omega) (by omega)
  obtain ⟨bb, hbm, hb⟩ := pickN h10 h11
  obtain ⟨hb1, hb2⟩ := mem_frees.mp hbm
  have e5 := frees_ok (L := L) (C := C) (Ld := Ld) gp ws ns z R a b c d e f none
  have on : others pl bb ≠ [] := by
    have : (if bb = 0 then 1 else 0) ∈ others pl bb := by
      unfold others
      rw [List.mem_filter, List.mem_range]
      split
      · rename_i q; subst q; exact ⟨by omega, rfl⟩
      · rename_i q; exact ⟨by omega, by simp; omega⟩
    exact List.ne_nil_of_mem this
  have om : ∀ k ∈ others pl bb, k < pl.length ∧ k ≠ bb := fun k hk => by
    unfold others at hk
    rw [List.mem_filter, List.mem_range] at hk
    exact ⟨hk.1, by simpa using hk.2⟩
  have ol : 0 < (others pl bb).length := List.length_pos_iff.mpr on
  have ol2 : (others pl bb).length ≤ 12 := by
    unfold others
    exact Nat.le_trans (List.length_filter_le _ _) (by rw [List.length_range]; exact hl2)
  have e6 := others_ok (pl := pl) (b := bb) (S := bx ns1 z1 (R ++ [.lst (ws.map wk), .lst (ws.map bg)])) (σ := slP L C Ld R pl a (some (.lst ((frees pl ws).map fun k : Nat => D.int (k : Nat)))) (some (.int (bb : Nat))) d e f none) rfl rfl
  obtain ⟨r2, ns2, z2, t2, h20, h21⟩ := take_ok ns1 z1 (R ++ [.lst (ws.map wk), .lst (ws.map bg)]) ((others pl bb).length : Nat) (by omega) (by omega)
  obtain ⟨oo, hom, ho⟩ := pickN h20 h21
  obtain ⟨r3, ns3, z3, t3, h30, h31⟩ := take_ok ns2 z2 (R ++ [.lst (ws.map wk), .lst (ws.map bg)]) 3 (by decide) (by decide)
  obtain ⟨g0, hg0, hg⟩ := pickG hl1 (om oo hom).1 h30 h31
  obtain ⟨la, lam, hla⟩ := lastN on
  obtain ⟨r4, ns4, z4, t4, h40, h41⟩ := take_ok ns3 z3 (R ++ [.lst (ws.map wk), .lst (ws.map bg)]) (Ld + 1) (by omega) (by omega)
  obtain ⟨ld, rfl⟩ := Int.eq_ofNat_of_zero_le h40
  obtain ⟨gg, hgg⟩ : ∃ gg, gg = if g0 = bb then la else g0 := ⟨_, rfl⟩
  have hgn : gg < pl.length ∧ gg ≠ bb := by
    rw [hgg]
    split
    · exact om la lam
    · rename_i q; exact ⟨hg0, q⟩
  have key : L__law_plan_5 (slP L C Ld R pl a b c d e f none) (px ns z R ws) = (if (frees pl ws).length = 1 ∧ cnt (ws ++ [(bb, gg, ld)]) bb + 1 > cap pl bb then OutS.bk else OutS.nx) (slP L C Ld R pl a (some (.lst ((frees pl ws).map fun k : Nat => D.int (k : Nat)))) (some (.int (bb : Nat))) (some (.lst ((others pl bb).map fun k : Nat => D.int (k : Nat)))) (some (.int (gg : Nat))) f none) (px ns4 z4 R (ws ++ [(bb, gg, ld)])) := by
    unfold L__law_plan_5
    have tm3 : tooMany 3 = false := rfl
    have ef : ∀ (ns : List Int) (z : Int) (A B : List D), (bx ns z (R ++ [.lst A, .lst B]))[R.length + 2]? = some (.lst A) := fun _ _ _ _ => px2_f
    have eb : ∀ (ns : List Int) (z : Int) (A B : List D), (bx ns z (R ++ [.lst A, .lst B]))[R.length + 3]? = some (.lst B) := fun _ _ _ _ => px2_b
    have af : ∀ (ns : List Int) (z : Int) (B : List D) (d : D), opAppend (.ref (R.length + 2)) [d] (bx ns z (R ++ [.lst (ws.map wk), .lst B])) = some (.non, bx ns z (R ++ [.lst (ws.map wk ++ [d]), .lst B])) := fun _ _ _ _ => app_f (by rw [List.length_map]; omega)
    have ab : ∀ (ns : List Int) (z : Int) (A : List D) (d : D), opAppend (.ref (R.length + 3)) [d] (bx ns z (R ++ [.lst A, .lst (ws.map bg)])) = some (.non, bx ns z (R ++ [.lst A, .lst (ws.map bg ++ [d])])) := fun _ _ _ _ => app_b (by rw [List.length_map]; omega)
    have tail : ∀ x : Nat, x = gg → (sSeq (sExpr (fMt isLs opAppend (fVar 6) (fCons (fTup (fCons (fVar 9) (fCons (fVar 11) (fCons (fCall (arity 2 f__law_take) (fCons (fVar 0) (fCons (fBin opAdd (fVar 3) (fC (.int 1))) fNil))) fNil)))) fNil)))
        (sSeq (sExpr (fMt isLs opAppend (fVar 7) (fCons (fVar 9) fNil)))
        (sIf (fAndT (fTest (fBin opEq (fBi opLen (fCons (fVar 8) fNil)) (fC (.int 1)))) (fTest (fBin opGt (fMt isLs opCntL (fVar 7) (fCons (fVar 9) fNil)) (fBi opInt (fCons (fBin opEq (fBin opIx (fVar 5) (fVar 9)) (fC (.str "l"))) fNil))))) sBreak sNil)))
        (slP L C Ld R pl a (some (.lst ((frees pl ws).map fun k : Nat => D.int (k : Nat)))) (some (.int (bb : Nat))) (some (.lst ((others pl bb).map fun k : Nat => D.int (k : Nat)))) (some (.int (x : Nat))) f none) (bx ns3 z3 (R ++ [.lst (ws.map wk), .lst (ws.map bg)])) =
        (if (frees pl ws).length = 1 ∧ cnt (ws ++ [(bb, gg, ld)]) bb + 1 > cap pl bb then OutS.bk else OutS.nx) (slP L C Ld R pl a (some (.lst ((frees pl ws).map fun k : Nat => D.int (k : Nat)))) (some (.int (bb : Nat))) (some (.lst ((others pl bb).map fun k : Nat => D.int (k : Nat)))) (some (.int (gg : Nat))) f none) (px ns4 z4 R (ws ++ [(bb, gg, ld)])) := by
      rintro x rfl
      have ec := cnt_op (k := bb) (ws := ws ++ [(bb, x, ld)]) (n := R.length + 3) (S := bx ns4 z4 (R ++ [.lst (ws.map wk ++ [.tup [.int (bb : Nat), .int (x : Nat), .int (ld : Nat)]]), .lst (ws.map bg ++ [.int (bb : Nat)])])) (by rw [eb, List.map_append]; rfl)
      obtain ⟨sg, es, hs⟩ := gp.sign hb1
      have e2 := atI_n es
      have ecap : cap pl bb = if sg = 108 then 2 else 1 := by
        unfold cap
        rw [es]
        simp
      have epx : px ns4 z4 R (ws ++ [(bb, x, ld)]) = bx ns4 z4 (R ++ [.lst (ws.map wk ++ [.tup [.int (bb : Nat), .int (x : Nat), .int (ld : Nat)]]), .lst (ws.map bg ++ [.int (bb : Nat)])]) := by
        show bx ns4 z4 (R ++ [.lst ((ws ++ [(bb, x, ld)]).map wk), .lst ((ws ++ [(bb, x, ld)]).map bg)]) = _
        rw [List.map_append, List.map_append]
        rfl
      rw [epx]
      by_cases hf1 : (frees pl ws).length = 1
      · have hf2 : ((frees pl ws).length : Int) = 1 := by omega
        by_cases hcc : cap pl bb < cnt (ws ++ [(bb, x, ld)]) bb + 1
        · rw [if_pos ⟨hf1, hcc⟩]
          have hz : (if sg = 108 then (1 : Int) else 0) < (cnt (ws ++ [(bb, x, ld)]) bb : Nat) := by
            rw [ecap] at hcc
            split at hcc <;> simp_all <;> omega
          simp [tm3, ef, eb, t4, af, ab, hf1, ec, e2, e3, sign_l]
          rw [decide_eq_true hz]
          rfl
        · rw [if_neg fun h => hcc h.2]
          have hz : ¬ (if sg = 108 then (1 : Int) else 0) < (cnt (ws ++ [(bb, x, ld)]) bb : Nat) := by
            rw [ecap] at hcc
            split at hcc <;> simp_all <;> omega
          simp [tm3, ef, eb, t4, af, ab, hf1, ec, e2, e3, sign_l]
          rw [decide_eq_false hz]
          rfl
      · have hf2 : ¬ ((frees pl ws).length : Int) = 1 := by omega
        rw [if_neg fun h => hf1 h.1]
        simp [tm3, ef, eb, t4, af, ab, hf2]
    by_cases q : g0 = bb
    · have q2 : (g0 : Int) = (bb : Int) := by omega
      rw [if_pos q] at hgg
      rw [← tail la hgg.symm]
      simp [tm3, e3, e4, e5, t1, hb, e6, t2, ho, t3, hg, q, hla]
    · have q2 : ¬ (g0 : Int) = (bb : Int) := by omega
      rw [if_neg q] at hgg
      rw [← tail g0 hgg.symm]
      simp [tm3, e3, e4, e5, t1, hb, e6, t2, ho, t3, hg, q2]
  have hld : ld ≤ 3 := by omega
  have hp' : Part pl (ws ++ [(bb, gg, ld)]) := by
    refine ⟨fun w hw => ?_, fun k => ?_⟩
    · rcases List.mem_append.mp hw with h | h
      · exact pw.at_ w h
      · have e := List.mem_singleton.mp h
        subst e
        exact ⟨hb1, hgn.1, Ne.symm hgn.2, hld⟩
    · rw [cnt_snoc]
      have := pw.cnt k
      dsimp only
      split
      · rename_i q
        rw [← q]
        omega
      · omega
  by_cases hc : (frees pl ws).length = 1 ∧ cnt (ws ++ [(bb, gg, ld)]) bb + 1 > cap pl bb
  · rw [if_pos hc] at key
    exact ⟨(bb, gg, ld), ns4, z4, _, _, _, _, hp', .inr key⟩
  · rw [if_neg hc] at key
    refine ⟨(bb, gg, ld), ns4, z4, _, _, _, _, hp', .inl ⟨key, ?_⟩⟩
    by_cases h1 : (frees pl ws).length = 1
    · have h2 : cnt (ws ++ [(bb, gg, ld)]) bb < cap pl bb := by
        have : ¬ cnt (ws ++ [(bb, gg, ld)]) bb + 1 > cap pl bb := fun h => hc ⟨h1, h⟩
        omega
      exact List.ne_nil_of_mem (mem_frees.mpr ⟨hb1, h2⟩)
    · have nd : (frees pl ws).Nodup := by
        unfold frees
        exact List.Pairwise.filter _ List.nodup_range
      obtain ⟨k, hk, hkb⟩ : ∃ k ∈ frees pl ws, k ≠ bb := by
        cases hq : frees pl ws with
        | nil => exact absurd hq hf
        | cons x l =>
          cases l with
          | nil => rw [hq] at h1; exact absurd rfl h1
          | cons y l =>
            rw [hq] at nd
            by_cases hx : x = bb
            · refine ⟨y, by simp, fun hy => ?_⟩
              rw [hx, hy] at nd
              simp at nd
            · exact ⟨x, by simp, hx⟩
      obtain ⟨k1, k2⟩ := mem_frees.mp hk
      refine List.ne_nil_of_mem (mem_frees.mpr ⟨k1, ?_⟩)
      rw [cnt_snoc, if_neg (Ne.symm hkb)]
      exact k2
theorem plan_ok {L C Ld : Int} (hL1 : 2 ≤ L) (hL2 : L ≤ 12) (hC1 : 1 ≤ C) (hC2 : C ≤ 5) (hd0 : 0 ≤ Ld) (hd1 : Ld ≤ 3) (ns : List Int) (z : Int) (R : Sto) : ∃ pl ws ns' z' x y, f__law_plan [.ref 1, .int L, .int C, .int Ld] (bx ns z R) = .ok (.tup [.str pl, .tup (ws.map wk)]) (bx ns' z' (R ++ [x, y])) ∧ GoodPlan pl ws ∧ (pl.length : Int) ≤ L ∧ (ws.length : Int) ≤ C := by
  obtain ⟨pl, ns1, z1, e1, gp, hpl⟩ := places_ok L hL1 hL2 ns z R
  obtain ⟨r, ns2, z2, e2, h0, h1⟩ := take_ok ns1 z1 (R ++ [.lst [], .lst []]) C (by omega) (by omega)
  unfold f__law_plan g__law_plan
  have tm3 : tooMany 3 = false := rfl
  have tm2 : tooMany 2 = false := rfl
  have tm0 : tooMany 0 = false := rfl
  obtain ⟨hl1, hl2⟩ := gp.len
  have hr : tooMany (1 + r).natAbs = false := tm_of (by omega)
  have f0 : frees pl [] ≠ [] := List.ne_nil_of_mem (mem_frees.mpr ⟨show 0 < pl.length by omega, by unfold cap; split <;> decide⟩)
  obtain ⟨σ', S', e, ws, ns', z', a, b, c, d, x, y, rfl, rfl, gpw, hne, hfew⟩ := loopF_inv (g := gNm 4) (b := L__law_plan_5) (ok := okLive ⟨rngD 0 (1 + r).toNat, []⟩)
    (fun ds σ S => ∃ (ws : List Wk) (ns : List Int) (z : Int) (a b c d e f : Option D), σ = slP L C Ld R pl a b c d e f none ∧ S = px ns z R ws ∧ Part pl ws ∧ frees pl ws ≠ [] ∧ ((ws.length + ds.length : Nat) : Int) ≤ C ∧ (ws ≠ [] ∨ ds ≠ []))
    (fun σ S => ∃ (ws : List Wk) (ns : List Int) (z : Int) (a b c d e f : Option D), σ = slP L C Ld R pl a b c d e f none ∧ S = px ns z R ws ∧ Part pl ws ∧ ws ≠ [] ∧ (ws.length : Int) ≤ C) (fun _ _ _ _ => rfl)
    (by
      rintro σ S ⟨ws, ns, z, a, b, c, d, e, f, rfl, rfl, pw, hf, hl, hn⟩
      exact ⟨ws, ns, z, a, b, c, d, e, f, rfl, rfl, pw, hn.elim id (fun h => absurd rfl h), by simpa using hl⟩)
    (by
      rintro dd ds σ S ⟨ws, ns, z, a, b, c, d, e, f, rfl, rfl, pw, hf, hl, hn⟩
      rw [List.length_cons] at hl
      obtain ⟨w, ns', z', b', c', d', e', pw', hh⟩ := step_ok hd0 hd1 gp ws pw hf (by omega) ns z R (some dd) b c d e f
      refine ⟨slP L C Ld R pl (some dd) b c d e f none, px ns z R ws, rfl, ?_⟩
      rcases hh with ⟨h2, hf'⟩ | h2
      · exact .inl ⟨_, _, h2, ws ++ [w], ns', z', some dd, b', c', d', e', f, rfl, rfl, pw', hf', by rw [List.length_append, List.length_singleton]; omega, .inl (by simp)⟩
      · exact .inr ⟨_, _, h2, ws ++ [w], ns', z', some dd, b', c', d', e', f, rfl, rfl, pw', by simp, by rw [List.length_append, List.length_singleton]; omega⟩)
    (rngD 0 (1 + r).toNat) (slP L C Ld R pl none none none none none none none) (px ns2 z2 R []) ⟨[], ns2, z2, none, none, none, none, none, none, rfl, rfl, ⟨(fun _ h => nomatch h), fun k => Nat.zero_le _⟩, f0, by simp [rngD]; omega, .inr (by
      intro h
      have := congrArg List.length h
      simp [rngD] at this
      omega)⟩
  have ef : (px ns' z' R ws)[R.length + 2]? = some (.lst (ws.map wk)) := px_f
  refine ⟨pl, ws, ns', z', .lst (ws.map wk), .lst (ws.map bg), ?_, ⟨gp, gpw, hne, by omega⟩, hpl, hfew⟩
  have e' : loopF (gNm 4) L__law_plan_5 (okLive ⟨rngD 0 (1 + r).toNat, []⟩) (rngD 0 (1 + r).toNat) [some (.ref 1), some (.int L), some (.int C), some (.int Ld), none, some (.str pl), some (.ref (R.length + 1 + 1)), some (.ref (R.length + 1 + 1 + 1)), none, none, none, none, none] (bx ns2 z2 (R ++ [.lst [], .lst []])) = .nx (slP L C Ld R pl a b c d x y none) (px ns' z' R ws) := e
  have tp : tupleD (.ref (R.length + 2)) (px ns' z' R ws) = some (.tup (ws.map wk)) := by
    show (seqL (.ref (R.length + 2)) (px ns' z' R ws)).map D.tup = _
    rw [seqLr, ef]
    rfl
  simp [e1, tm3, tm2, tm0, e2, hr, e', tp]
end K07

namespace K07
open PySem PySem.Spec L2 Fx Pn
theorem oIn2 {S : Sto} {i a b : Int} : opIn (.int i) (.tup [.int a, .int b]) S = some (.bl (decide (i = a) || decide (i = b))) := by
  have e : inD (.int i) [.int a, .int b] = (decide (i = a) || decide (i = b)) := by
    show ((a == i) || ((b == i) || false)) = _
    rw [Bool.or_false]
    congr 1
    · by_cases h : i = a
      · subst h; simp
      · rw [decide_eq_false h]; simp; omega
    · by_cases h : i = b
      · subst h; simp
      · rw [decide_eq_false h]; simp; omega
  show (isInB (.int i) (.tup [.int a, .int b]) S).map D.bl = _
  have e2 : isInB (.int i) (.tup [.int a, .int b]) S = some (inD (.int i) [.int a, .int b]) := rfl
  rw [e2, e]
  rfl
theorem GoodPl.ends {pl : Str} (g : GoodPl pl) {k : Nat} (h : k = 0 ∨ k + 1 = pl.length) : (TL.tl pl)[k]? = some 108 := by
  obtain ⟨ms, e, _, hl⟩ := g.ex
  rw [TL.len_tl] at h
  rw [e] at h ⊢
  rcases h with rfl | h
  · rfl
  · have : k = ms.length + 1 := by simpa using h
    subst this
    simp
theorem signs_get {pl : Str} {i : Nat} {d : D} (h : (signs pl)[i]? = some d) : ∃ c, (TL.tl pl)[i]? = some c ∧ d = .str ⟨#[c]⟩ := by
  unfold signs at h
  rw [List.getElem?_map] at h
  obtain ⟨c, hc, rfl⟩ := Option.map_eq_some_iff.mp h
  exact ⟨c, hc, rfl⟩
theorem ne_l (c : Nat) : decide ((⟨#[c]⟩ : Str) = "l") = decide (c = 108) := sign_l c
theorem need_places_ok {pl : Str} (gp : GoodPl pl) (S : Sto) : f_need_places [.str pl] S = .ok .non S := by
  obtain ⟨hl1, hl2⟩ := gp.len
  have e3 : tooMany pl.length = false := tm_of (by omega)
  have e3' : tooMany pl.cps.size = false := e3
  have tm2 : tooMany 2 = false := rfl
  have sz : (signs pl).length = pl.length := by unfold signs; simp [Str.length]
  obtain ⟨σ', S', e, rfl⟩ := loopF_inv (g := gTp 2 (gsCons (gNm 1) (gsCons (gNm 2) gsNil))) (b := L_need_places_1) (ok := okLive ⟨enumD (signs pl), []⟩)
    (fun ds σ S' => ∃ (i : Nat) (x y : Option D), ds = (enumD (signs pl)).drop i ∧ σ = [some (.str pl), x, y] ∧ S' = S) (fun σ S' => S' = S) (fun _ _ _ _ => rfl) (fun _ _ ⟨_, _, _, _, _, h⟩ => h)
    (by
      rintro d ds σ S' ⟨i, x, y, hd, rfl, rfl⟩
      have hget : (enumD (signs pl))[i]? = some d := by
        have := congrArg (fun l : List D => l[0]?) hd
        simpa using this.symm
      have hds : ds = (enumD (signs pl)).drop (i + 1) := by
        have := congrArg (fun l : List D => l.drop 1) hd
        simpa [List.drop_drop, Nat.add_comm] using this
      obtain ⟨z, hz, rfl⟩ := enumD_get hget
      obtain ⟨c, hc, rfl⟩ := signs_get hz
      have hi : i < pl.length := by rw [← sz]; exact (List.getElem?_eq_some_iff.mp hz).1
      obtain ⟨c', hc', hs⟩ := gp.sign hi
      rw [hc] at hc'
      cases hc'
      refine ⟨[some (.str pl), some (.int (i : Nat)), some (.str ⟨#[c]⟩)], S', rfl, .inl ⟨[some (.str pl), some (.int (i : Nat)), some (.str ⟨#[c]⟩)], S', ?_, i + 1, _, _, hds, rfl, rfl⟩⟩
      have look : (t_ROOM.lookup (⟨#[c]⟩ : Str)).isNone = false := by
        rcases hs with rfl | rfl <;> rfl
      unfold L_need_places_1
      by_cases hq : i = 0 ∨ i + 1 = pl.length
      · have := gp.ends hq
        rw [hc] at this
        cases this
        simp [look, oIn2, e3, tm2, ne_l]
        cases (decide (i = 0) || decide ((i : Int) = (pl.length : Int) - 1)) <;> rfl
      · have hq2 : (decide (i = 0) || decide ((i : Int) = (pl.length : Int) - 1)) = false := by
          rw [Bool.or_eq_false_iff]
          exact ⟨decide_eq_false (by omega), decide_eq_false (by omega)⟩
        simp [look, oIn2, e3, tm2]
        rw [hq2]
        rfl)
    (enumD (signs pl)) [some (.str pl), none, none] S ⟨0, none, none, rfl, rfl, rfl⟩
  unfold f_need_places g_need_places
  have src : srcD (.str pl) S' = some (signs pl, []) := by
    show (if tooMany pl.cps.size = true then none else _) = _
    rw [e3']
    rfl
  have h12 : (decide (2 ≤ (pl.length : Int))) = true := decide_eq_true (by omega)
  have h13 : (decide ((pl.length : Int) ≤ 12)) = true := decide_eq_true (by omega)
  simp [tyN, Ty.is, e3, src, e, h12, h13]
theorem is_number_ok {i a b : Int} (h : a ≤ i ∧ i ≤ b) (S : Sto) : f_is_number [.int i, .int a, .int b] S = .ok (.bl true) S := by
  unfold f_is_number g_is_number
  have h1 : decide (a ≤ i) = true := decide_eq_true h.1
  have h2 : decide (i ≤ b) = true := decide_eq_true h.2
  simp [tyN, Ty.is, h1, h2]
theorem is_walker_ok {pl : Str} {w : Wk} (hl : pl.length ≤ 12) (h : w.1 < pl.length ∧ w.2.1 < pl.length ∧ w.1 ≠ w.2.1 ∧ w.2.2 ≤ 3) (S : Sto) : f_is_walker [wk w, .str pl] S = .ok (.bl true) S := by
  unfold f_is_walker g_is_walker wk
  have e3 : tooMany pl.length = false := tm_of (by omega)
  have n1 := is_number_ok (i := w.1) (a := 0) (b := (pl.length : Int) - 1) (by omega)
  have n2 := is_number_ok (i := w.2.1) (a := 0) (b := (pl.length : Int) - 1) (by omega)
  have n3 := is_number_ok (i := w.2.2) (a := 0) (b := 3) (by omega)
  have ne : decide ((w.1 : Int) = (w.2.1 : Int)) = false := decide_eq_false (by omega)
  simp [tyN, Ty.is, e3, n1, n2, n3, ne]
theorem room_ok {pl : Str} (gp : GoodPl pl) {k : Nat} (hk : k < pl.length) (S : Sto) : f_room [.str pl, .int (k : Nat)] S = .ok (.int (cap pl k : Nat)) S := by
  unfold f_room g_room
  obtain ⟨hl1, hl2⟩ := gp.len
  have e3 : tooMany pl.length = false := tm_of (by omega)
  obtain ⟨sg, es, hs⟩ := gp.sign hk
  have e2 := atI_n es
  have look : t_ROOM.lookup (⟨#[sg]⟩ : Str) = some ((cap pl k : Nat) : Int) := by
    unfold cap
    rw [es]
    rcases hs with rfl | rfl <;> rfl
  simp [e3, e2, look]
end K07

namespace K07
open PySem PySem.Spec L2 Fx Pn
theorem wk_nice : ∀ ws : List Wk, niceA (ws.map wk) = true ∧ depA (ws.map wk) ≤ 1
  | [] => ⟨rfl, Nat.zero_le _⟩
  | w :: ws => by
    obtain ⟨h1, h2⟩ := wk_nice ws
    refine ⟨?_, ?_⟩
    · rw [List.map_cons, niceA, h1]
      rfl
    · rw [List.map_cons, depA]
      have : dep (wk w) = 1 := rfl
      omega
theorem ws_ne {ws : List Wk} (h : ws ≠ []) (S : Sto) : opEq (.tup (ws.map wk)) (.tup []) S = some (.bl false) := by
  obtain ⟨h1, h2⟩ := wk_nice ws
  show (eqDeep (.tup (ws.map wk)) (.tup []) S).map D.bl = _
  rw [eqDeep_nice (x := .tup (ws.map wk)) (y := .tup []) h1 rfl (by show depA _ + 1 ≤ 64; omega) (by show (0 : Nat) + 1 ≤ 64; decide)]
  have : decide (derefL S (.tup (ws.map wk)) = derefL S (.tup [])) = false := by
    refine decide_eq_false fun q => ?_
    have q2 : D.tup (ws.map wk) = D.tup [] := q
    injection q2 with q3
    exact h (List.map_eq_nil_iff.mp q3)
  rw [this]
  rfl
theorem drop_head {α : Type} {l : List α} {i : Nat} {d : α} {ds : List α} (h : d :: ds = l.drop i) : l[i]? = some d ∧ ds = l.drop (i + 1) := by
  constructor
  · have := congrArg (fun l : List α => l[0]?) h
    simpa using this.symm
  · have := congrArg (fun l : List α => l.drop 1) h
    simpa [List.drop_drop, Nat.add_comm] using this
theorem need_plan_ok {pl : Str} {ws : List Wk} (g : GoodPlan pl ws) (S : Sto) : f_need_plan [.tup [.str pl, .tup (ws.map wk)]] S = .ok .non (S ++ [.lst (ws.map bg)]) := by
  obtain ⟨hl1, hl2⟩ := g.gp.len
  have np := need_places_ok g.gp S
  have wne := ws_ne g.ne S
  have tm0 : tooMany 0 = false := rfl
  have few := g.few
  obtain ⟨σ', S', e, rfl⟩ := loopF_inv (g := gTp 2 (gsCons (gNm 4) (gsCons (gNm 5) gsNil))) (b := L_need_plan_1) (ok := okLive ⟨enumD (ws.map wk), []⟩)
    (fun ds σ S' => ∃ (i : Nat) (x y : Option D), ds = (enumD (ws.map wk)).drop i ∧ i ≤ ws.length ∧ σ = [some (.tup [.str pl, .tup (ws.map wk)]), some (.ref S.length), some (.str pl), some (.tup (ws.map wk)), x, y] ∧ S' = S ++ [.lst ((ws.take i).map bg)]) (fun σ S' => S' = S ++ [.lst (ws.map bg)]) (fun _ _ _ _ => rfl)
    (by
      rintro σ S' ⟨i, x, y, hd, hi, rfl, rfl⟩
      have : (enumD (ws.map wk)).length ≤ i := List.drop_eq_nil_iff.mp hd.symm
      rw [enumD_len, List.length_map] at this
      rw [List.take_of_length_le this])
    (by
      rintro d ds σ S' ⟨i, x, y, hd, hi, rfl, rfl⟩
      obtain ⟨hget, hds⟩ := drop_head hd
      obtain ⟨z, hz, rfl⟩ := enumD_get hget
      rw [List.getElem?_map] at hz
      obtain ⟨w, hw, rfl⟩ := Option.map_eq_some_iff.mp hz
      obtain ⟨hiw, hwe⟩ := List.getElem?_eq_some_iff.mp hw
      have hwm : w ∈ ws := List.mem_of_getElem? hw
      have hat := g.part.at_ w hwm
      have htake : ws.take (i + 1) = ws.take i ++ [w] := by rw [List.take_succ, hw]; rfl
      have iw := is_walker_ok hl2 hat
      have rm := room_ok g.gp hat.1
      have e1 : (S ++ [O.lst ((ws.take i).map bg)])[S.length]? = some (.lst ((ws.take i).map bg)) := by simp
      have e2 : (S ++ [O.lst ((ws.take (i + 1)).map bg)])[S.length]? = some (.lst ((ws.take (i + 1)).map bg)) := by simp
      have ap : opAppend (.ref S.length) [.int (w.1 : Nat)] (S ++ [O.lst ((ws.take i).map bg)]) = some (.non, S ++ [O.lst ((ws.take (i + 1)).map bg)]) := by
        unfold opAppend
        rw [lstOr, e1]
        dsimp only
        rw [if_pos (few_of (by rw [List.length_map, List.length_take]; omega)), htake, List.map_append]
        simp [bg]
      have ct := cnt_op (k := w.1) e2
      have hle : cnt (ws.take (i + 1)) w.1 ≤ cap pl w.1 := by
        refine Nat.le_trans ?_ (g.part.cnt w.1)
        exact List.Sublist.count_le _ ((List.take_sublist _ _).map _)
      have hd5 : decide (5 ≤ (i : Int)) = false := decide_eq_false (by omega)
      have hgt : decide (((cap pl w.1 : Nat) : Int) < ((cnt (ws.take (i + 1)) w.1 : Nat) : Int)) = false := decide_eq_false (by omega)
      have ix0 : L2.atI [D.int (w.1 : Nat), D.int (w.2.1 : Nat), D.int (w.2.2 : Nat)] 0 = some (.int (w.1 : Nat)) := rfl
      refine ⟨[some (.tup [.str pl, .tup (ws.map wk)]), some (.ref S.length), some (.str pl), some (.tup (ws.map wk)), some (.int (i : Nat)), some (wk w)], _, rfl, .inl ⟨_, S ++ [O.lst ((ws.take (i + 1)).map bg)], ?_, i + 1, some (.int (i : Nat)), some (wk w), hds, by omega, rfl, rfl⟩⟩
      unfold L_need_plan_1
      have wkw : wk w = .tup [.int (w.1 : Nat), .int (w.2.1 : Nat), .int (w.2.2 : Nat)] := rfl
      rw [wkw] at iw
      simp [hd5, iw, e1, e2, ap, wkw, ix0, ct, rm, -List.map_take]
      rw [show decide (cap pl w.1 < cnt (ws.take (i + 1)) w.1) = false from decide_eq_false (by omega)]
      rfl)
    (enumD (ws.map wk)) [some (.tup [.str pl, .tup (ws.map wk)]), some (.ref S.length), some (.str pl), some (.tup (ws.map wk)), none, none] (S ++ [.lst []]) ⟨0, none, none, rfl, Nat.zero_le _, rfl, rfl⟩
  unfold f_need_plan g_need_plan
  have src : srcD (.tup (ws.map wk)) (S ++ [.lst []]) = some (ws.map wk, []) := rfl
  simp [tyN, Ty.is, np, wne, src, tm0, e]
end K07

namespace K07
open PySem PySem.Spec L2 Fx Pn
def oD : Option Nat → D
  | none => .non
  | some p => .int (p : Nat)
def stD (s : Pn.St) : D := .tup (s.map oD)
def plD (pl : Str) (ws : List Wk) : D := .tup [.str pl, .tup (ws.map wk)]
@[simp] theorem pl_0 {pl : Str} {ws : List Wk} {S : Sto} : opIx (plD pl ws) (.int 0) S = some (.str pl) := rfl
@[simp] theorem pl_1 {pl : Str} {ws : List Wk} {S : Sto} : opIx (plD pl ws) (.int 1) S = some (.tup (ws.map wk)) := rfl
theorem st_ix {s : Pn.St} {i : Nat} {o : Option Nat} (h : s[i]? = some o) (S : Sto) : opIx (stD s) (.int (i : Nat)) S = some (oD o) := by
  show L2.atI (s.map oD) (i : Nat) = _
  refine atI_n ?_
  rw [List.getElem?_map, h]
  rfl
@[simp] theorem st_len {s : Pn.St} {S : Sto} : lenD (stD s) S = some (.int (s.length : Nat)) := by
  show (some (D.int ((s.map oD).length : Nat))) = _
  rw [List.length_map]
@[simp] theorem st_tp {s : Pn.St} {S : Sto} : isTp (stD s) S = true := rfl
theorem oD_inj {a b : Option Nat} (h : oD a = oD b) : a = b := by
  cases a <;> cases b
  · rfl
  · cases h
  · cases h
  · injection h with h
    congr 1
    exact Int.ofNat.inj h
theorem stD_inj {a b : Pn.St} (h : stD a = stD b) : a = b := by
  unfold stD at h
  injection h with h
  induction a generalizing b with
  | nil => cases b with
    | nil => rfl
    | cons y b => simp at h
  | cons x a ih => cases b with
    | nil => simp at h
    | cons y b =>
      rw [List.map_cons, List.map_cons] at h
      injection h with h1 h2
      rw [oD_inj h1, ih h2]
theorem at_map {α : Type} {f : α → D} {l : List α} {i : Nat} {x : α} (h : l[i]? = some x) : L2.atI (l.map f) (i : Int) = some (f x) := by
  refine atI_n ?_
  rw [List.getElem?_map, h]
  rfl
theorem wk0 (w : Wk) : L2.atI [D.int (w.1 : Nat), D.int (w.2.1 : Nat), D.int (w.2.2 : Nat)] 0 = some (.int (w.1 : Nat)) := rfl
theorem wk1 (w : Wk) : L2.atI [D.int (w.1 : Nat), D.int (w.2.1 : Nat), D.int (w.2.2 : Nat)] 1 = some (.int (w.2.1 : Nat)) := rfl
theorem two0 (a b : D) : L2.atI [a, b] 0 = some a := rfl
theorem two1 (a b : D) : L2.atI [a, b] 1 = some b := rfl
theorem wk_def (w : Wk) : wk w = .tup [.int (w.1 : Nat), .int (w.2.1 : Nat), .int (w.2.2 : Nat)] := rfl
theorem way_of_ok (w : Wk) (S : Sto) : f_way_of [wk w] S = .ok (.int (if w.1 < w.2.1 then 1 else -1)) S := by
  unfold f_way_of g_way_of
  by_cases h : w.1 < w.2.1
  · have h2 : decide ((w.2.1 : Int) > (w.1 : Int)) = true := decide_eq_true (by omega)
    simp [wk_def, wk0, wk1, h, h2]
  · have h2 : decide ((w.2.1 : Int) > (w.1 : Int)) = false := decide_eq_false (by omega)
    simp [wk_def, wk0, wk1, h, h2]
/-- the next place, as data -/
def nxD (w : Wk) : Option Nat → D
  | none => .non
  | some p => .int (nx w p : Nat)
theorem nx_int {w : Wk} {p : Nat} (h : onWay w p) : ((nx w p : Nat) : Int) = (p : Int) + (if w.1 < w.2.1 then 1 else -1) := by
  unfold onWay at h
  by_cases c : w.1 < w.2.1
  · rw [nx_up c, if_pos c]; omega
  · rw [nx_down c, if_neg c]; omega
section
variable {pl : Str} {ws : List Wk} {s : Pn.St} {i : Nat} {w : Wk} {o : Option Nat}
theorem next_of_ok (g : Leg (cap pl) ws s) (h1 : ws[i]? = some w) (h2 : s[i]? = some o) (S : Sto) : f_next_of [plD pl ws, stD s, .int (i : Nat)] S = .ok (nxD w o) S := by
  unfold f_next_of g_next_of
  have e1 := at_map (f := wk) h1
  have e2 := st_ix h2
  have e3 := way_of_ok w S
  cases o with
  | none => simp [e2, oD, nxD]
  | some p =>
    have e4 := nx_int (g.way i w p h1 h2)
    simp [e2, oD, nxD, two1, e1, e3, e4]
theorem st_flat (s : Pn.St) : (s.map oD).all flatD = true := by
  rw [List.all_map]
  exact List.all_eq_true.mpr fun o _ => by cases o <;> rfl
theorem eqF_o (o o' : Option Nat) : eqF (oD o) (oD o') = (o == o') := by
  cases o <;> cases o'
  · rfl
  · rfl
  · rfl
  · rename_i a b
    show ((a : Int) == (b : Int)) = _
    rw [Bool.eq_iff_iff, beq_iff_eq, beq_iff_eq]
    constructor
    · intro h; congr 1; omega
    · intro h; injection h with h; omega
theorem st_count (s : Pn.St) (o : Option Nat) : (s.map oD).countP (fun y => eqF y (oD o)) = s.count o := by
  unfold List.count
  rw [List.countP_map]
  refine List.countP_congr fun x _ => ?_
  show eqF (oD x) (oD o) = true ↔ (x == o) = true
  rw [eqF_o]
theorem st_cnt (s : Pn.St) (k : Nat) (S : Sto) : opCntT (stD s) [.int (k : Nat)] S = some (.int (s.count (some k) : Nat), S) := by
  show cntD (s.map oD) (.int (k : Nat)) S = _
  unfold cntD
  rw [st_flat]
  have := st_count s (some k)
  rw [show oD (some k) = .int (k : Nat) from rfl] at this
  rw [this]
  rfl
theorem has_room_ok (gp : GoodPl pl) {k : Nat} (hk : k < pl.length) (S : Sto) : f_has_room [plD pl ws, stD s, .int (k : Nat)] S = .ok (.bl (decide (s.count (some k) < cap pl k))) S := by
  unfold f_has_room g_has_room
  have e1 := room_ok gp hk S
  have e2 := st_cnt s k S
  simp [e1, e2]
theorem nx_lt (G : GoodPlan pl ws) (g : Leg (cap pl) ws s) (h1 : ws[i]? = some w) {p : Nat} (h2 : s[i]? = some (some p)) : nx w p < pl.length := by
  have hw := g.way i w p h1 h2
  have ha := G.part.at_ w (List.mem_of_getElem? h1)
  unfold onWay at hw
  by_cases c : w.1 < w.2.1
  · rw [nx_up c]; omega
  · rw [nx_down c]; omega
theorem may_go_ok (G : GoodPlan pl ws) (g : Leg (cap pl) ws s) (hi : i < s.length) (S : Sto) : f_may_go [plD pl ws, stD s, .int (i : Nat)] S = .ok (.bl (may (cap pl) ws s i)) S := by
  have h2 : s[i]? = some s[i] := List.getElem?_eq_getElem hi
  have hi' : i < ws.length := by rw [← g.len]; exact hi
  have h1 : ws[i]? = some ws[i] := List.getElem?_eq_getElem hi'
  generalize ws[i] = w at h1
  generalize s[i] = o at h2
  have e1 := next_of_ok g h1 h2 S
  unfold f_may_go g_may_go
  cases o with
  | none =>
    have e2 : may (cap pl) ws s i = false := by unfold may; rw [h1, h2]
    simp [e1, nxD, e2]
  | some p =>
    have e2 : may (cap pl) ws s i = decide (s.count (some (nx w p)) < cap pl (nx w p)) := by unfold may; rw [h1, h2]
    have e3 := has_room_ok (ws := ws) (s := s) G.gp (nx_lt G g h1 h2) S
    simp [e1, nxD, e2, e3]
theorem sIx_lo {n : Nat} {i : Nat} (h : i ≤ n) (d : Nat) : HT.sIx n d (some (i : Int)) = i := by
  rw [HT.sIx_nat]
  omega
theorem set_cut {α : Type} {l : List α} {i : Nat} {y : α} (h : i < l.length) : l.take i ++ (y :: l.drop (i + 1)) = l.set i y := by
  rw [List.set_eq_take_append_cons_drop, if_pos h]
theorem cut_lo (xs : List D) {i : Nat} (h : i ≤ xs.length) : cutD xs none (some (i : Int)) = xs.take i := by
  unfold cutD
  rw [sIx_lo h, HT.sIx_none]
  simp
theorem cut_hi (xs : List D) {i : Nat} (h : i ≤ xs.length) : cutD xs (some (i : Int)) none = xs.drop i := by
  unfold cutD
  rw [sIx_lo h, HT.sIx_none, List.take_of_length_le (by simp)]
theorem gone_on_ok {p : Nat} (few : s.length ≤ 100) (g : Leg (cap pl) ws s) (h1 : ws[i]? = some w) (h2 : s[i]? = some (some p)) (S : Sto) : f_gone_on [plD pl ws, stD s, .int (i : Nat)] S = .ok (stD (go ws s i)) S := by
  have hi := (List.getElem?_eq_some_iff.mp h2).1
  have e1 := next_of_ok g h1 h2 S
  have e2 := at_map (f := wk) h1
  have e5 := st_ix h2
  have c1 : ∀ S, opSl (stD s) none (some (i : Int)) S = some (.tup ((s.map oD).take i)) := fun S => congrArg (fun l => some (D.tup l)) (cut_lo (s.map oD) (i := i) (by rw [List.length_map]; omega))
  have c2 : ∀ S, opSl (stD s) (some ((i : Int) + 1)) none S = some (.tup ((s.map oD).drop (i + 1))) := fun S => congrArg (fun l => some (D.tup l)) (cut_hi (s.map oD) (i := i + 1) (by rw [List.length_map]; omega))
  have fin : ∀ x : Option Nat, (s.map oD).take i ++ oD x :: (s.map oD).drop (i + 1) = (s.set i x).map oD := fun x => by
    rw [set_cut (by rw [List.length_map]; exact hi), List.map_set]
  have l1 : tooMany 1 = false := rfl
  have l2 : tooMany (i + 1) = false := tm_of (by omega)
  have l3 : tooMany (i + 1 + (s.length - (i + 1))) = false := tm_of (by omega)
  have l4 : min i s.length = i := by omega
  have e3 : go ws s i = s.set i (bp w p) := by unfold go; rw [h1, h2]
  unfold f_gone_on g_gone_on
  by_cases hn : nx w p = w.2.1
  · have hb : bp w p = none := by unfold bp; rw [if_pos hn]
    have hn2 : ((nx w p : Nat) : Int) = (w.2.1 : Int) := by omega
    have e4 := fin none
    rw [show oD none = .non from rfl] at e4
    have fs : stD (s.set i (bp w p)) = .tup ((s.set i (bp w p)).map oD) := rfl
    simp [e1, nxD, two1, e2, wk_def, wk1, hn2, c1, c2, l1, l2, l3, l4, e3, fs, -List.map_take, -List.map_drop, -List.map_set]
    rw [hb, e4]
  · have hb : bp w p = some (nx w p) := by unfold bp; rw [if_neg hn]
    have hn2 : ¬ ((nx w p : Nat) : Int) = (w.2.1 : Int) := by omega
    have e4 := fin (some (nx w p))
    rw [show oD (some (nx w p)) = .int (nx w p : Nat) from rfl] at e4
    have fs : stD (s.set i (bp w p)) = .tup ((s.set i (bp w p)).map oD) := rfl
    simp [e1, nxD, two1, e2, wk_def, wk1, hn2, c1, c2, l1, l2, l3, l4, e3, fs, -List.map_take, -List.map_drop, -List.map_set]
    rw [hb, e4]
end
end K07

namespace K07
open PySem PySem.Spec L2 Fx Pn
section
variable {pl : Str} {ws : List Wk} {s : Pn.St}
/-! ### keys -/
def oK : Option Nat → NestedKey
  | none => .none
  | some p => .num (p : Nat)
theorem nk_o (o : Option Nat) : nk (oD o) = some (oK o) := by cases o <;> rfl
theorem nks_o : ∀ s : Pn.St, nks (s.map oD) = some (s.map oK)
  | [] => rfl
  | o :: s => by
    show (match nk (oD o), nks (s.map oD) with
      | some k, some ks => some (k :: ks)
      | _, _ => none) = _
    rw [nk_o, nks_o s]
    rfl
theorem st_key (s : Pn.St) : ∃ k, tupK (stD s) = some k := by
  have h : nk (stD s) = some (.tup (s.map oK)) := by
    show (nks (s.map oD)).map NestedKey.tup = _
    rw [nks_o]
    rfl
  refine ⟨.tup (s.map oK), ?_⟩
  show (nk (stD s)).bind _ = _
  rw [h]
  have hd : (NestedKey.tup (s.map oK)).depth ≤ 8 := by
    have : ∀ l : Pn.St, NestedKey.depthAll (l.map oK) ≤ 2 := by
      intro l
      induction l with
      | nil => simp [NestedKey.depthAll]
      | cons o l ih =>
        rw [List.map_cons]
        have : (oK o).depth ≤ 1 := by cases o <;> simp [oK, NestedKey.depth]
        simp only [NestedKey.depthAll]
        omega
    have := this s
    simp only [NestedKey.depth]
    omega
  show (if _ then _ else _) = _
  rw [if_pos hd]
theorem st_mem {L : List Pn.St} : stD s ∈ L.map stD ↔ s ∈ L := by
  rw [List.mem_map]
  constructor
  · rintro ⟨t, h, e⟩
    rw [← stD_inj e]
    exact h
  · intro h
    exact ⟨s, h, rfl⟩
variable {v : Pn.St → D}
theorem findK_st : ∀ {L : List Pn.St}, s ∈ L → findK (L.map stD) (L.map v) (stD s) = some (v s)
  | t :: L, h => by
    show (if stD t = stD s then some (v t) else findK (L.map stD) (L.map v) (stD s)) = _
    by_cases e : t = s
    · rw [e, if_pos rfl]
    · rw [if_neg fun z => e (stD_inj z)]
      rcases List.mem_cons.mp h with z | z
      · exact absurd z.symm e
      · exact findK_st z
theorem setK_st : ∀ {L : List Pn.St}, s ∈ L → setK (L.map stD) (L.map v) (stD s) (v s) = L.map v
  | t :: L, h => by
    show (if stD t = stD s then v s :: L.map v else v t :: setK (L.map stD) (L.map v) (stD s) (v s)) = _
    by_cases e : t = s
    · rw [e, if_pos rfl]
      rfl
    · rw [if_neg fun z => e (stD_inj z)]
      rcases List.mem_cons.mp h with z | z
      · exact absurd z.symm e
      · rw [setK_st z]
        rfl
def dnO (L : List Pn.St) (v : Pn.St → D) : O := .dn (L.map stD) (L.map v)
def insL (s : Pn.St) (L : List Pn.St) : List Pn.St := if s ∈ L then L else L ++ [s]
variable {L : List Pn.St} {S : Sto} {m : Nat}
theorem dn_in (h : S[m]? = some (dnO L v)) (neg : Bool) (s : Pn.St) : opInDn neg (stD s) (.ref m) S = some (.bl (decide (s ∈ L) != neg)) := by
  obtain ⟨k, hk⟩ := st_key s
  unfold opInDn
  rw [hk, dnSr, h]
  show some (D.bl (decide (stD s ∈ L.map stD) != neg)) = _
  rw [decide_eq_decide.mpr st_mem]
theorem dn_ix (h : S[m]? = some (dnO L v)) (hs : s ∈ L) : opIxDn (.ref m) (stD s) S = some (v s) := by
  obtain ⟨k, hk⟩ := st_key s
  unfold opIxDn
  rw [hk, dnSr, h]
  exact findK_st hs
theorem dn_set (h : S[m]? = some (dnO L v)) (hl : L.length < 100000) (s : Pn.St) : opSetDn (.ref m) (stD s) (v s) S = some (S.set m (dnO (insL s L) v)) := by
  obtain ⟨k, hk⟩ := st_key s
  unfold opSetDn
  rw [hk, dnWr, h]
  show (if stD s ∈ L.map stD then some (S.set m (.dn (L.map stD) (setK (L.map stD) (L.map v) (stD s) (v s)))) else if fewer (L.map stD).length then some (S.set m (.dn (L.map stD ++ [stD s]) (L.map v ++ [v s]))) else none) = _
  unfold insL
  by_cases e : s ∈ L
  · rw [if_pos (st_mem.mpr e), if_pos e, setK_st e]
    rfl
  · rw [if_neg (fun z => e (st_mem.mp z)), if_neg e, if_pos (few_of (by rw [List.length_map]; exact hl))]
    unfold dnO
    rw [List.map_append, List.map_append]
    rfl
theorem insL_nodup (h : L.Nodup) : (insL s L).Nodup := by
  unfold insL
  split
  · exact h
  · rename_i e
    rw [List.nodup_append]
    refine ⟨h, by simp, fun a ha b hb => ?_⟩
    rw [List.mem_singleton] at hb
    subst hb
    exact fun z => e (z ▸ ha)
theorem mem_insL {t : Pn.St} : t ∈ insL s L ↔ t ∈ L ∨ t = s := by
  unfold insL
  split
  · rename_i e
    exact ⟨.inl, fun h => h.elim id fun z => z ▸ e⟩
  · rw [List.mem_append, List.mem_singleton]

/-! ### Seeker.later -/
abbrev skF (pl : Str) (ws : List Wk) (m : Nat) : O := .ins 0 [("plan", plD pl ws), ("known", .ref m)]
variable {n : Nat}
theorem sk_plan (h : S[n]? = some (skF pl ws m)) : getA 1 "plan" (.ref n) S = some (plD pl ws) := by
  unfold getA
  rw [insSr, h]
  rfl
theorem sk_known (h : S[n]? = some (skF pl ws m)) : getA 1 "known" (.ref n) S = some (.ref m) := by
  unfold getA
  rw [insSr, h]
  rfl
theorem sk_okI (h : S[n]? = some (skF pl ws m)) (x : Str) (hx : ([("plan", plD pl ws), ("known", D.ref m)] : List (Str × D)).lookup x = none) : okIns 0 x (insS (.ref n) S) = true := by
  rw [insSr, h]
  unfold okIns
  exact decide_eq_true ⟨rfl, hx⟩
def iD (k : Nat) : D := .int (k : Nat)
theorem later_ok (few : s.length ≤ 100) (G : GoodPlan pl ws) (g : Leg (cap pl) ws s) (h : S[n]? = some (skF pl ws m)) : f_Seeker_later [.ref n, stD s] S = .ok (.lst ((laters (cap pl) ws s).map stD)) S := by
  have e1 := sk_plan h
  have hr : tooMany (s.length : Int).natAbs = false := tm_of (by omega)
  have hr' : tooMany s.length = false := tm_of (by omega)
  have l1 := lcF_pure (own := [3]) (g := gNm 3) (tt := Lt_Seeker_later_1) (te := Le_Seeker_later_2) (ok := okLive ⟨rngD 0 s.length, []⟩) (items := rngD 0 s.length) (σ := [some (.ref n), some (stD s), none, none]) (S := S)
    (fun d => match d with | .int k => may (cap pl) ws s k.toNat | _ => false) (fun d => d) rfl (by
      intro d hd
      rw [rngD0] at hd
      obtain ⟨k, hk, rfl⟩ := List.mem_map.mp hd
      have hk' : k < s.length := List.mem_range.mp hk
      have e2 := may_go_ok G g hk' S
      refine ⟨_, rfl, ?_, fun _ => ?_⟩
      · simp [Lt_Seeker_later_1, wipe1, e1, e2]
      · simp [Le_Seeker_later_2, wipe1])
  have l1' : lcF [3] (gNm 3) Lt_Seeker_later_1 Le_Seeker_later_2 (okLive ⟨rngD 0 s.length, []⟩) (rngD 0 s.length) [some (.ref n), some (stD s), none, none] S = .ok ((mays (cap pl) ws s).map iD) S := by
    rw [l1, rngD0, List.filter_map, List.map_map]
    rfl
  have l2 := lcF_map (own := [3]) (g := gNm 3) (tt := fYes) (te := Le_Seeker_later_3) (ok := okLive ⟨(mays (cap pl) ws s).map iD, []⟩) (σ := [some (.ref n), some (stD s), some (.lst ((mays (cap pl) ws s).map iD)), none]) (S := S)
    (mays (cap pl) ws s) iD (fun k => stD (go ws s k)) rfl (by
      intro k hk
      obtain ⟨w, p, h1, h2, _, _⟩ := may_ex (mem_mays.mp hk)
      have e2 := gone_on_ok few g h1 h2 S
      refine ⟨_, rfl, rfl, ?_⟩
      simp [Le_Seeker_later_3, wipe1, e1, iD, e2])
  unfold f_Seeker_later g_Seeker_later
  have it : itOf (.lst ((mays (cap pl) ws s).map iD)) S = some ⟨(mays (cap pl) ws s).map iD, []⟩ := rfl
  simp [hr, hr', l1', it, l2]
  unfold laters
  rw [List.map_map]
  rfl
end
end K07

namespace K07
open PySem PySem.Spec L2 Fx Pn
section
variable {pl : Str} {ws : List Wk} {s s0 : Pn.St} {n m : Nat} {L : List Pn.St} {S : Sto}
abbrev cB (pl : Str) (ws : List Wk) (s : Pn.St) : D := .bl (canS (cap pl) ws s)
structure Kn (pl : Str) (ws : List Wk) (s0 : Pn.St) (L : List Pn.St) : Prop where
  nd : L.Nodup
  bh : ∀ s ∈ L, Bh (cap pl) ws s0 s
theorem Kn.len (g : Leg (cap pl) ws s0) (hm : many ws s0 ≤ 20000) (k : Kn pl ws s0 L) : L.length ≤ 20000 := Nat.le_trans (bh_many g k.nd k.bh) hm
theorem Kn.ins (k : Kn pl ws s0 L) (h : Bh (cap pl) ws s0 s) : Kn pl ws s0 (insL s L) :=
  ⟨insL_nodup k.nd, fun t ht => (mem_insL.mp ht).elim (k.bh t) fun e => e ▸ h⟩
theorem paired_map {α : Type} {f : α → D} {gg : α → D} : ∀ {l : List α} {ys : List D}, Paired (fun d y => ∃ x, d = f x ∧ y = gg x) (l.map f) ys → (∀ x y, f x = f y → gg x = gg y) → ys = l.map gg
  | [], _, .nil, _ => rfl
  | x :: l, _, .cons ⟨x', e1, e2⟩ t, hi => by
    rw [paired_map t hi, e2, hi x' x e1.symm]
    rfl
theorem bls_map {α : Type} (p : α → Bool) : ∀ l : List α, blsOf (l.map fun x => D.bl (p x)) = some (l.map p)
  | [] => rfl
  | x :: l => by
    show (match blOf (.bl (p x)), blsOf (l.map fun x => D.bl (p x)) with
      | some b, some bs => some (b :: bs)
      | _, _ => none) = _
    rw [bls_map p l]
    rfl
theorem any_ok {α : Type} (p : α → Bool) (l : List α) (S : Sto) : anyD (.lst (l.map fun x => D.bl (p x))) S = some (.bl (l.any p)) := by
  unfold anyD
  rw [seqLl]
  show (blsOf (l.map fun x => D.bl (p x))).map _ = _
  rw [bls_map]
  simp [List.any_map, Function.comp_def]
theorem all_ok {α : Type} (p : α → Bool) (l : List α) (S : Sto) : allD (.lst (l.map fun x => D.bl (p x))) S = some (.bl (l.all p)) := by
  unfold allD
  rw [seqLl]
  show (blsOf (l.map fun x => D.bl (p x))).map _ = _
  rw [bls_map]
  simp [List.all_map, Function.comp_def]
theorem can_sk (few : ws.length ≤ 100) (G : GoodPlan pl ws) (g0 : Leg (cap pl) ws s0) (hm : many ws s0 ≤ 20000) (S : Sto) (hn : S[n]? = some (skF pl ws m)) (hnm : n ≠ m) (hml : m < S.length) :
    ∀ (fu : Nat) (s : Pn.St) (L : List Pn.St), tot ws s < fu → Bh (cap pl) ws s0 s → Kn pl ws s0 L →
    ∃ L', f_Seeker_can fu [.ref n, stD s] (S.set m (dnO L (cB pl ws))) = .ok (cB pl ws s) (S.set m (dnO L' (cB pl ws))) ∧ Kn pl ws s0 L' := by
  have atn : ∀ L, (S.set m (dnO L (cB pl ws)))[n]? = some (skF pl ws m) := fun L => by rw [List.getElem?_set_ne (Ne.symm hnm)]; exact hn
  have atm : ∀ L, (S.set m (dnO L (cB pl ws)))[m]? = some (dnO L (cB pl ws)) := fun L => List.getElem?_set_self hml
  have ss : ∀ (L L' : List Pn.St), (S.set m (dnO L (cB pl ws))).set m (dnO L' (cB pl ws)) = S.set m (dnO L' (cB pl ws)) := fun L L' => by rw [List.set_set]
  intro fu
  induction fu with
  | zero => intro s L h; omega
  | succ fu ih =>
    intro s L ht hb kn
    have g := g0.bh hb
    have hl : s.length ≤ 100 := by rw [g.len]; exact few
    by_cases hs : s ∈ L
    · refine ⟨L, ?_, kn⟩
      have e1 := sk_known (atn L)
      have e2 := dn_in (atm L) true s
      have e3 := dn_ix (atm L) hs
      rw [decide_eq_true hs] at e2
      show fDef 5 (g_Seeker_can (f_Seeker_can fu)) _ _ = _
      unfold g_Seeker_can
      simp [e1, e2, e3]
    · -- all in
      have hall := lcF_map (own := [3]) (g := gNm 3) (tt := fYes) (te := Le_Seeker_can_1 (f_Seeker_can fu)) (ok := okLive ⟨s.map oD, []⟩) (σ := [some (.ref n), some (stD s), none, none, none]) (S := S.set m (dnO L (cB pl ws)))
        s oD (fun o => .bl o.isNone) rfl (by
          intro o ho
          refine ⟨_, rfl, rfl, ?_⟩
          cases o <;> simp [Le_Seeker_can_1, wipe1, oD])
      have it0 : itOf (stD s) (S.set m (dnO L (cB pl ws))) = some ⟨s.map oD, []⟩ := rfl
      have allk := all_ok (fun o : Option Nat => o.isNone) s (S.set m (dnO L (cB pl ws)))
      have e1 := fun L => sk_known (atn L)
      have e2 := dn_in (atm L) true s
      rw [decide_eq_false hs] at e2
      by_cases hi : isIn s = true
      · have hc : canS (cap pl) ws s = true := by rw [canS_eq g, hi]; rfl
        have hi2 : s.all (fun o => o.isNone) = true := hi
        have e4 := dn_set (atm L) (by have := kn.len g0 hm; omega) s
        rw [ss] at e4
        have e5 := dn_ix (atm (insL s L)) (s := s) (mem_insL.mpr (.inr rfl))
        have hcb : cB pl ws s = .bl true := congrArg D.bl hc
        rw [hcb] at e4 e5
        refine ⟨insL s L, ?_, kn.ins hb⟩
        show fDef 5 (g_Seeker_can (f_Seeker_can fu)) _ _ = _
        unfold g_Seeker_can
        rw [hi2] at allk
        simp [e1, e2, it0, hall, allk, e4, e5, hcb]
      · have hi2 : s.all (fun o => o.isNone) = false := Bool.eq_false_iff.mpr hi
        have lt := later_ok hl G g (atn L)
        obtain ⟨ys, S', el, ⟨L', rfl, kn'⟩, hY⟩ := lcF_inv (own := [4]) (g := gNm 4) (tt := fYes) (te := Le_Seeker_can_2 (f_Seeker_can fu)) (ok := okLive ⟨(laters (cap pl) ws s).map stD, []⟩)
          (σ := [some (.ref n), some (stD s), some (.bl false), none, none]) (items := (laters (cap pl) ws s).map stD)
          (fun S' => ∃ L', S' = S.set m (dnO L' (cB pl ws)) ∧ Kn pl ws s0 L') (fun d y => ∃ t, d = stD t ∧ y = cB pl ws t) (fun _ _ => rfl) (by
            rintro d hd S' ⟨L1, rfl, k1⟩
            obtain ⟨t, htm, rfl⟩ := List.mem_map.mp hd
            obtain ⟨i, hi1, hi2⟩ := mem_laters.mp htm
            have hb2 : Bh (cap pl) ws s0 t := by rw [hi2]; exact .step hb hi1
            obtain ⟨L2, e6, k2⟩ := ih t L1 (by have := (g.laters htm).2; omega) hb2 k1
            have ok1 := sk_okI (atn L1) "can" rfl
            refine ⟨_, rfl, rfl, _, _, ?_, ⟨L2, rfl, k2⟩, t, rfl, rfl⟩
            simp [Le_Seeker_can_2, wipe1, ok1, e6, -insSr]) (S.set m (dnO L (cB pl ws))) ⟨L, rfl, kn⟩
        have ey := paired_map hY fun a b e => by rw [stD_inj e]
        subst ey
        have anyk := any_ok (canS (cap pl) ws) (laters (cap pl) ws s) (S.set m (dnO L' (cB pl ws)))
        have hc : canS (cap pl) ws s = (laters (cap pl) ws s).any (canS (cap pl) ws) := by
          rw [canS_eq g]
          rw [show isIn s = false from Bool.eq_false_iff.mpr hi]
          rfl
        rw [← hc] at anyk
        have e4 := dn_set (atm L') (by have := kn'.len g0 hm; omega) s
        rw [ss] at e4
        have e5 := dn_ix (atm (insL s L')) (s := s) (mem_insL.mpr (.inr rfl))
        have it1 : itOf (.lst ((laters (cap pl) ws s).map stD)) (S.set m (dnO L (cB pl ws))) = some ⟨(laters (cap pl) ws s).map stD, []⟩ := rfl
        have ok0 := sk_okI (atn L) "later" rfl
        refine ⟨insL s L', ?_, kn'.ins hb⟩
        show fDef 5 (g_Seeker_can (f_Seeker_can fu)) _ _ = _
        unfold g_Seeker_can
        rw [hi2] at allk
        simp [e1, e2, it0, hall, allk, ok0, lt, it1, el, anyk, e4, e5, -insSr]
end
end K07

namespace K07
open PySem PySem.Spec L2 Fx Pn
section
variable {pl : Str} {ws : List Wk} {s s0 : Pn.St} {n m : Nat} {L : List Pn.St} {S : Sto}
theorem st_take (s : Pn.St) {i : Nat} (h : i ≤ s.length) (S : Sto) : opSl (stD s) none (some (i : Int)) S = some (stD (s.take i)) := by
  have := cut_lo (s.map oD) (i := i) (by rw [List.length_map]; exact h)
  rw [← List.map_take] at this
  exact congrArg (fun l => some (D.tup l)) this
theorem zip_items : ∀ (ws : List Wk) (s : Pn.St), (ws.map wk).zipWith (fun x y => D.tup [x, y]) (s.map oD) = (ws.zip s).map fun x => D.tup [wk x.1, oD x.2]
  | [], _ => by simp
  | _ :: _, [] => by simp
  | w :: ws, o :: s => by
    rw [List.map_cons, List.map_cons, List.zipWith_cons_cons, zip_items ws s]
    rfl
theorem left_of_ok (S : Sto) : f_left_of [plD pl ws, stD s] S = .ok (.lst ((ws.zip s).map fun x => iD (lf x.1 x.2))) S := by
  unfold f_left_of g_left_of
  have sr1 : srcD (.tup (ws.map wk)) S = some (ws.map wk, []) := rfl
  have sr2 : srcD (stD s) S = some (s.map oD, []) := rfl
  have l := lcF_map (own := [2, 3]) (g := gTp 2 (gNs [2, 3])) (tt := fYes) (te := Le_left_of_1) (ok := okLive ⟨(ws.zip s).map fun x => D.tup [wk x.1, oD x.2], []⟩) (σ := [some (plD pl ws), some (stD s), none, none]) (S := S)
    (ws.zip s) (fun x => D.tup [wk x.1, oD x.2]) (fun x => iD (lf x.1 x.2)) rfl (by
      rintro ⟨w, o⟩ _
      refine ⟨_, rfl, rfl, ?_⟩
      cases o with
      | none => simp [Le_left_of_1, wipeD, oD, iD, lf]
      | some p =>
        have ab : absD (.int ((w.2.1 : Int) - (p : Int))) S = some (iD (lf w (some p))) := by
          show some (D.int (if (w.2.1 : Int) - (p : Int) < 0 then -((w.2.1 : Int) - (p : Int)) else (w.2.1 : Int) - (p : Int))) = _
          simp only [iD, lf]
          congr 2
          split <;> omega
        simp [Le_left_of_1, wipeD, oD, wk_def, wk1, ab])
  simp [sr1, sr2, zip_items, l, -List.zipWith_map]
def lfs : List Wk → Pn.St → List Nat
  | ws, s => (ws.zip s).map fun x => lf x.1 x.2
def prd : List Nat → Nat
  | [] => 1
  | x :: xs => (x + 1) * prd xs
theorem prd_many : ∀ (ws : List Wk) (s : Pn.St), prd ((ws.zip s).map fun x => lf x.1 x.2) = many ws s
  | [], _ => by simp [prd, many]
  | _ :: _, [] => by simp [prd, many]
  | w :: ws, o :: s => by
    rw [List.zip_cons_cons, List.map_cons, prd, prd_many ws s]
    rfl
theorem prd_pos : ∀ l : List Nat, 0 < prd l
  | [] => Nat.one_pos
  | x :: l => Nat.mul_pos (Nat.succ_pos x) (prd_pos l)
theorem few_step (A B : Option D) (a x : Int) (S : Sto) (hok : mulOk a (x + 1) = true) : L_need_few_1 [A, B, some (.int a), some (.int x)] S = .nx [A, B, some (.int (a * (x + 1))), some (.int x)] S := by
  have ip : ipInt (fun i j => i * j) mulOk (.int a) (.int (x + 1)) S = some (.int (a * (x + 1)), S) := by
    show (if mulOk a (x + 1) = true then some (D.int (a * (x + 1)), S) else none) = _
    rw [if_pos hok]
  unfold L_need_few_1
  simp [ip]
theorem need_few_aux (M : Nat) (hM : M ≤ 20000) (hm : many ws s ≤ M) (S : Sto) : f_need_few [plD pl ws, stD s] S = .ok .non S := by
  have hl := left_of_ok (pl := pl) (ws := ws) (s := s) S
  obtain ⟨σ', S', e, ⟨z, rfl, hz⟩, rfl⟩ := loopF_inv (g := gNm 3) (b := L_need_few_1) (ok := okLive ⟨((ws.zip s).map fun x => iD (lf x.1 x.2)), []⟩)
    (fun ds σ S' => ∃ (l : List Nat) (a : Nat) (y : Option D), ds = l.map iD ∧ a * prd l ≤ M ∧ σ = [some (plD pl ws), some (stD s), some (.int (a : Nat)), y] ∧ S' = S) (fun σ S' => (∃ y : Nat × Option D, σ = [some (plD pl ws), some (stD s), some (.int (y.1 : Nat)), y.2] ∧ y.1 ≤ M) ∧ S' = S) (fun _ _ _ _ => rfl)
    (by
      rintro σ S' ⟨l, a, y, h, ha, rfl, rfl⟩
      have : l = [] := List.map_eq_nil_iff.mp h.symm
      subst this
      exact ⟨⟨(a, y), rfl, by simpa [prd] using ha⟩, rfl⟩)
    (by
      rintro d ds σ S' ⟨l, a, y, h, ha, rfl, rfl⟩
      cases l with
      | nil => cases h
      | cons x l =>
        rw [List.map_cons] at h
        injection h with h1 h2
        subst h1
        have hp := prd_pos l
        have hmul : a * (x + 1) * prd l ≤ M := by rw [prd, ← Nat.mul_assoc] at ha; exact ha
        have hle : a * (x + 1) ≤ M := Nat.le_trans (Nat.le_mul_of_pos_right _ hp) hmul
        have hax : a ≤ M := Nat.le_trans (Nat.le_mul_of_pos_right _ (Nat.succ_pos x)) hle
        have hok : mulOk (a : Int) ((x : Int) + 1) = true := by
          have : in64 (a : Int) = true := by
            unfold in64
            exact decide_eq_true (by omega)
          unfold mulOk
          rw [this]
          rfl
        refine ⟨_, _, rfl, .inl ⟨[some (plD pl ws), some (stD s), some (.int ((a * (x + 1) : Nat))), some (iD x)], S', ?_, l, a * (x + 1), some (iD x), h2, hmul, rfl, rfl⟩⟩
        have hc : ((a * (x + 1) : Nat) : Int) = (a : Int) * ((x : Int) + 1) := by rw [Int.natCast_mul, Int.natCast_add]; rfl
        rw [hc]
        exact few_step _ _ _ _ _ hok)
    ((ws.zip s).map fun x => iD (lf x.1 x.2)) [some (plD pl ws), some (stD s), some (.int 1), none] S ⟨lfs ws s, 1, none, by unfold lfs; rw [List.map_map]; rfl, by rw [Nat.one_mul]; unfold lfs; rw [prd_many]; exact hm, rfl, rfl⟩
  unfold f_need_few g_need_few
  have it : itOf (.lst ((ws.zip s).map fun x => iD (lf x.1 x.2))) S' = some ⟨(ws.zip s).map fun x => iD (lf x.1 x.2), []⟩ := rfl
  have hz2 : ¬ (20000 : Int) < (z.1 : Int) := by omega
  have hz3 : decide ((20000 : Int) < (z.1 : Int)) = false := decide_eq_false hz2
  simp [hl, it, e, hz3]
theorem need_few_ok (hm : many ws s ≤ 20000) (S : Sto) : f_need_few [plD pl ws, stD s] S = .ok .non S := need_few_aux 20000 (Nat.le_refl _) hm S
end
end K07

namespace K07
open PySem PySem.Spec L2 Fx Pn
section
variable {pl : Str} {ws : List Wk} {s s0 : Pn.St} {n m : Nat} {L : List Pn.St} {S : Sto}
theorem init_ok (S : Sto) : f_Seeker___init__ [.ref S.length, plD pl ws] (S ++ [.ins 0 []]) = .ok .non (S ++ [skF pl ws (S.length + 1), .dn [] []]) := by
  unfold f_Seeker___init__ g_Seeker___init__
  have e1 : setA 1 "plan" (.ref S.length) (plD pl ws) (S ++ [.ins 0 []]) = some (S ++ [.ins 0 [("plan", plD pl ws)]]) := by
    unfold setA
    simp [putD]
  have e2 : ∀ d, setA 1 "known" (.ref S.length) d (S ++ [.ins 0 [("plan", plD pl ws)], .dn [] []]) = some (S ++ [.ins 0 [("plan", plD pl ws), ("known", d)], .dn [] []]) := by
    intro d
    unfold setA
    have hne : ¬ ("plan" : Str) = "known" := by decide
    simp [putD, hne]
  simp [e1, e2]
/-- Seeker(plan): behind it, what it knows -/
theorem mk_ok (S : Sto) : mkEnd S.length (f_Seeker___init__ [.ref S.length, plD pl ws] (S ++ [.ins 0 []])) = .ok (.ref S.length) (S ++ [skF pl ws (S.length + 1), .dn [] []]) := by
  rw [init_ok]
  rfl
theorem sk_new (S : Sto) (L : List Pn.St) (T : Sto) : (S ++ skF pl ws (S.length + 1) :: T)[S.length]? = some (skF pl ws (S.length + 1)) := by simp
theorem tot_le : ∀ (ws : List Wk) (s : Pn.St) (k : Nat), (∀ w ∈ ws, w.1 < k ∧ w.2.1 < k) → (∀ (i : Nat) (w : Wk) (p : Nat), ws[i]? = some w → s[i]? = some (some p) → onWay w p) → tot ws s ≤ (k - 1) * ws.length
  | [], _, _, _, _ => by simp [tot]
  | _ :: _, [], _, _, _ => by simp [tot]
  | w :: ws, o :: s, k, h1, h2 => by
    have ih := tot_le ws s k (fun w hw => h1 w (List.mem_cons_of_mem _ hw)) fun i w p a b => h2 (i + 1) w p a b
    have hl : lf w o ≤ k - 1 := by
      cases o with
      | none => exact Nat.zero_le _
      | some p =>
        have a := h1 w List.mem_cons_self
        have b := h2 0 w p rfl rfl
        unfold onWay at b
        simp only [lf]
        omega
    rw [tot, List.length_cons, Nat.mul_add, Nat.mul_one]
    omega
theorem tot_lt (G : GoodPlan pl ws) (g : Leg (cap pl) ws s) : tot ws s < 60 := by
  obtain ⟨hl1, hl2⟩ := G.gp.len
  have h := tot_le ws s pl.length (fun w hw => ⟨(G.part.at_ w hw).1, (G.part.at_ w hw).2.1⟩) g.way
  have h2 : (pl.length - 1) * ws.length ≤ 11 * 5 := Nat.mul_le_mul (by omega) G.few
  omega
def begS (ws : List Wk) : Pn.St := ws.map fun w => some w.1
theorem begS_leg (G : GoodPlan pl ws) : Leg (cap pl) ws (begS ws) := by
  refine ⟨by unfold begS; rw [List.length_map], fun i w p h1 h2 => ?_, fun p => ?_⟩
  · unfold begS at h2
    rw [List.getElem?_map, h1] at h2
    injection h2 with h2
    injection h2 with h2
    have := G.part.at_ w (List.mem_of_getElem? h1)
    unfold onWay
    omega
  · have h : (begS ws).count (some p) = cnt ws p := by
      unfold begS cnt List.count
      rw [List.countP_map, List.countP_map]
      refine List.countP_congr fun w _ => ?_
      show ((some w.1 : Option Nat) == some p) = true ↔ (w.1 == p) = true
      simp
    rw [h]
    exact G.part.cnt p
end
end K07

namespace K07
open PySem PySem.Spec L2 Fx Pn
section
variable {pl : Str} {ws : List Wk} {s s0 : Pn.St} {n m : Nat} {L : List Pn.St} {S : Sto} {i : Nat} {w : Wk} {o : Option Nat}
theorem mays_lc {own : List Nat} {gg : FG} {tt : FT} {te : FE} {σ : Sl} (h : ∀ k, k < s.length → ∃ σ1, gg (iD k) (wipeD σ own) S = some (σ1, S) ∧ tt σ1 S = .ok (may (cap pl) ws s k) S ∧ te σ1 S = .ok (iD k) S) :
    lcF own gg tt te (okLive ⟨rngD 0 s.length, []⟩) (rngD 0 s.length) σ S = .ok ((mays (cap pl) ws s).map iD) S := by
  have l1 := lcF_pure (own := own) (g := gg) (tt := tt) (te := te) (ok := okLive ⟨rngD 0 s.length, []⟩) (items := rngD 0 s.length) (σ := σ) (S := S)
    (fun d => match d with | .int k => may (cap pl) ws s k.toNat | _ => false) (fun d => d) rfl (by
      intro d hd
      rw [rngD0] at hd
      obtain ⟨k, hk, rfl⟩ := List.mem_map.mp hd
      obtain ⟨σ1, e1, e2, e3⟩ := h k (List.mem_range.mp hk)
      exact ⟨σ1, e1, e2, fun _ => e3⟩)
  rw [l1, rngD0, List.filter_map, List.map_map]
  rfl
theorem mays_go {k : Nat} (h : k ∈ mays (cap pl) ws s) : ∃ w p, ws[k]? = some w ∧ s[k]? = some (some p) := by
  obtain ⟨w, p, h1, h2, _⟩ := may_ex (mem_mays.mp h)
  exact ⟨w, p, h1, h2⟩
theorem ints_nice : ∀ l : List Nat, niceA (l.map iD) = true ∧ depA (l.map iD) = 0
  | [] => ⟨rfl, rfl⟩
  | k :: l => by
    obtain ⟨h1, h2⟩ := ints_nice l
    exact ⟨by rw [List.map_cons, niceA, h1]; rfl, by rw [List.map_cons, depA, h2]; rfl⟩
theorem ints_eq (a b : List Nat) (S : Sto) : eqAny (.lst (a.map iD)) (.lst (b.map iD)) S = some (decide (a = b)) := by
  obtain ⟨h1, h2⟩ := ints_nice a
  obtain ⟨h3, h4⟩ := ints_nice b
  rw [eq_lst h1 (by omega) h3 (by omega)]
  congr 1
  rw [decide_eq_decide]
  constructor
  · intro h
    induction a generalizing b with
    | nil => cases b with
      | nil => rfl
      | cons y b => simp at h
    | cons x a ih => cases b with
      | nil => simp at h
      | cons y b =>
        rw [List.map_cons, List.map_cons] at h
        injection h with e1 e2
        injection e1 with e1
        rw [Int.ofNat.inj e1, ih b (ints_nice a).1 (ints_nice a).2 (ints_nice b).1 (ints_nice b).2 e2]
  · rintro rfl
    rfl
theorem ints_nil (a : List Nat) (S : Sto) : opEq (.lst (a.map iD)) (.lst []) S = some (.bl a.isEmpty) := by
  have := ints_eq a [] S
  show (eqAny (.lst (a.map iD)) (.lst ([].map iD)) S).map D.bl = _
  rw [this]
  cases a <;> rfl
theorem ints_ne (a : List Nat) (S : Sto) : opNe (.lst (a.map iD)) (.lst []) S = some (.bl (!a.isEmpty)) := by
  have := ints_eq a [] S
  show (eqAny (.lst (a.map iD)) (.lst ([].map iD)) S).map _ = _
  rw [this]
  cases a <;> rfl
theorem many_le : ∀ (ws : List Wk) (s : Pn.St) (k : Nat), (∀ w ∈ ws, w.1 < k ∧ w.2.1 < k) → (∀ (i : Nat) (w : Wk) (p : Nat), ws[i]? = some w → s[i]? = some (some p) → onWay w p) → 0 < k → many ws s ≤ k ^ ws.length
  | [], _, _, _, _, _ => by simp [many]
  | w :: ws, [], k, _, _, h => Nat.one_le_pow _ _ h
  | w :: ws, o :: s, k, h1, h2, h => by
    have ih := many_le ws s k (fun w hw => h1 w (List.mem_cons_of_mem _ hw)) (fun i w p a b => h2 (i + 1) w p a b) h
    have hl : lf w o + 1 ≤ k := by
      cases o with
      | none => exact h
      | some p =>
        have a := h1 w List.mem_cons_self
        have b := h2 0 w p rfl rfl
        unfold onWay at b
        simp only [lf]
        omega
    rw [many, List.length_cons, Nat.pow_succ, Nat.mul_comm]
    exact Nat.mul_le_mul ih hl
theorem many_fit (G : GoodPlan pl ws) (g : Leg (cap pl) ws s) {a b : Nat} (h1 : pl.length ≤ a) (h2 : ws.length ≤ b) (h3 : a ^ b ≤ 20000) : many ws s ≤ 20000 := by
  obtain ⟨hl1, hl2⟩ := G.gp.len
  have h := many_le ws s pl.length (fun w hw => ⟨(G.part.at_ w hw).1, (G.part.at_ w hw).2.1⟩) g.way (by omega)
  have h4 : pl.length ^ ws.length ≤ a ^ ws.length := Nat.pow_le_pow_left h1 _
  have h5 : a ^ ws.length ≤ a ^ b := Nat.pow_le_pow_right (by omega) h2
  omega
theorem app_at {R T : Sto} {j : Nat} {o : O} (h : R[j]? = some o) : (R ++ T)[j]? = some o := by
  rw [List.getElem?_append_left (List.getElem?_eq_some_iff.mp h).1]
  exact h
end
end K07

/-! Pk: knots, waits, fewer walkers, plainly. -/
namespace Pn
def gt (s : St) (i : Nat) : Option Nat := s.getD i none
theorem gt_some {s : St} {i p : Nat} : gt s i = some p ↔ s[i]? = some (some p) := by
  unfold gt
  rw [List.getD_eq_getElem?_getD]
  cases h : s[i]? with
  | none => simp
  | some o => simp
def atL (s : St) (p : Nat) : List Nat := (List.range s.length).filter fun i => gt s i == some p
theorem gt_map (s : St) : (List.range s.length).map (gt s) = s := by
  apply List.ext_getElem?
  intro i
  rw [List.getElem?_map]
  by_cases h : i < s.length
  · rw [List.getElem?_range h]
    show some (gt s i) = _
    unfold gt
    rw [List.getD_eq_getElem?_getD, List.getElem?_eq_getElem h]
    rfl
  · rw [List.getElem?_eq_none (by simpa using h), List.getElem?_eq_none (by omega)]
    rfl
theorem atL_len (s : St) (p : Nat) : (atL s p).length = s.count (some p) := by
  unfold atL
  conv => rhs; rw [← gt_map s]
  unfold List.count
  rw [List.countP_map, List.countP_eq_length_filter]
  rfl
def cntIn (s : St) (A : List Nat) (p : Nat) : Nat := (A.filter fun j => gt s j == some p).length
section
variable (c : Nat → Nat) (ws : List Wk)
/-- the next place is full of the lot -/
def fullIn (s : St) (A : List Nat) (i : Nat) : Bool := match ws[i]?, s[i]? with
  | some w, some (some p) => decide (c (nx w p) ≤ cntIn s A (nx w p))
  | _, _ => false
/-- the next place is full -/
def fullB (s : St) (i : Nat) : Bool := match ws[i]?, s[i]? with
  | some w, some (some p) => decide (c (nx w p) ≤ s.count (some (nx w p)))
  | _, _ => false
def Tied (s : St) (A : List Nat) : Prop := ∀ i ∈ A, fullIn c ws s A i = true
structure IsKnot (s : St) (K : List Nat) : Prop where
  sub : List.Sublist K (List.range s.length)
  tied : Tied c ws s K
  max : ∀ T : List Nat, T.Nodup → Tied c ws s T → ∀ i ∈ T, i ∈ K
def lostL (s : St) : List Nat := (mays c ws s).filter fun i => !canS c ws (go ws s i)
def waitL (s : St) : List Nat := (List.range s.length).filter (fullB c ws s)
end
section
variable {c : Nat → Nat} {ws : List Wk} {s s0 : St} {A B K T : List Nat} {i k p : Nat}
theorem fullIn_ex (h : fullIn c ws s A i = true) : ∃ w p, ws[i]? = some w ∧ s[i]? = some (some p) ∧ c (nx w p) ≤ cntIn s A (nx w p) := by
  unfold fullIn at h
  split at h
  · rename_i w p h1 h2
    exact ⟨w, p, h1, h2, of_decide_eq_true h⟩
  · cases h
theorem fullB_ex (h : fullB c ws s i = true) : ∃ w p, ws[i]? = some w ∧ s[i]? = some (some p) ∧ c (nx w p) ≤ s.count (some (nx w p)) := by
  unfold fullB at h
  split at h
  · rename_i w p h1 h2
    exact ⟨w, p, h1, h2, of_decide_eq_true h⟩
  · cases h
theorem cntIn_le (hn : A.Nodup) (h : ∀ i ∈ A, i ∈ B) (p : Nat) : cntIn s A p ≤ cntIn s B p := by
  unfold cntIn
  refine nodup_le _ _ (hn.sublist List.filter_sublist) fun x hx => ?_
  rw [List.mem_filter] at hx ⊢
  exact ⟨h x hx.1, hx.2⟩
theorem fullIn_mono (hn : A.Nodup) (h : ∀ i ∈ A, i ∈ B) (hf : fullIn c ws s A i = true) : fullIn c ws s B i = true := by
  obtain ⟨w, p, h1, h2, h3⟩ := fullIn_ex hf
  unfold fullIn
  rw [h1, h2]
  exact decide_eq_true (Nat.le_trans h3 (cntIn_le hn h _))
theorem cntIn_all (hn : A.Nodup) (hA : ∀ i ∈ A, i < s.length) (p : Nat) : cntIn s A p ≤ s.count (some p) := by
  rw [← atL_len]
  unfold cntIn atL
  refine nodup_le _ _ (hn.sublist List.filter_sublist) fun x hx => ?_
  rw [List.mem_filter] at hx ⊢
  exact ⟨List.mem_range.mpr (hA x hx.1), hx.2⟩
theorem sub_filter {α : Type} [DecidableEq α] {l r : List α} (h : List.Sublist l r) (hn : r.Nodup) : l = r.filter fun x => decide (x ∈ l) := by
  induction h with
  | slnil => rfl
  | @cons l r a h ih =>
    rw [List.nodup_cons] at hn
    have : a ∉ l := fun z => hn.1 (h.subset z)
    rw [List.filter_cons_of_neg (by simpa using this)]
    exact ih hn.2
  | @cons_cons l r a h ih =>
    rw [List.nodup_cons] at hn
    rw [List.filter_cons_of_pos (by simp)]
    congr 1
    refine (ih hn.2).trans (List.filter_congr fun x hx => ?_)
    have : x ≠ a := fun z => hn.1 (z ▸ hx)
    simp [this]
theorem sub_eq {n : Nat} {l l' : List Nat} (h : List.Sublist l (List.range n)) (h' : List.Sublist l' (List.range n)) (e : ∀ x, x ∈ l ↔ x ∈ l') : l = l' := by
  rw [sub_filter h List.nodup_range, sub_filter h' List.nodup_range]
  refine List.filter_congr fun x _ => ?_
  rw [decide_eq_decide]
  exact e x
/-! ### one walker less -/
def up (k j : Nat) : Nat := if j < k then j else j + 1
theorem up_ne (k j : Nat) : up k j ≠ k := by unfold up; split <;> omega
theorem up_inj {k a b : Nat} (h : up k a = up k b) : a = b := by unfold up at h; split at h <;> split at h <;> omega
theorem up_ex {k i : Nat} (h : i ≠ k) : ∃ j, i = up k j ∧ (∀ n, i < n → k < n → j < n - 1) := by
  by_cases c : i < k
  · exact ⟨i, by unfold up; rw [if_pos c], fun n _ _ => by omega⟩
  · exact ⟨i - 1, by unfold up; rw [if_neg (by omega)]; omega, fun n _ _ => by omega⟩
theorem er_at {α : Type} (l : List α) (k j : Nat) : (l.eraseIdx k)[j]? = l[up k j]? := by
  rw [List.getElem?_eraseIdx]
  unfold up
  split <;> rfl
theorem er_gt (s : St) (k j : Nat) : gt (s.eraseIdx k) j = gt s (up k j) := by
  unfold gt
  rw [List.getD_eq_getElem?_getD, List.getD_eq_getElem?_getD, er_at]
theorem er_len {α : Type} (l : List α) {k : Nat} (h : k < l.length) : (l.eraseIdx k).length = l.length - 1 := by
  rw [List.length_eraseIdx, if_pos h]
theorem er_range {n k : Nat} (h : k < n) : (List.range n).filter (fun j => !decide (j = k)) = (List.range (n - 1)).map (up k) := by
  have h2 : List.Sublist ((List.range (n - 1)).map (up k)) (List.range n) := by
    have hp : ((List.range (n - 1)).map (up k)).Pairwise (· < ·) := by
      rw [List.pairwise_map]
      refine List.Pairwise.imp ?_ List.pairwise_lt_range
      intro a b hab
      unfold up
      split <;> split <;> omega
    have : ∀ (m : Nat) (l : List Nat) (a : Nat), l.Pairwise (· < ·) → (∀ x ∈ l, a ≤ x ∧ x < a + m) → List.Sublist l (List.range' a m) := by
      intro m
      induction m with
      | zero =>
        intro l a _ hb
        cases l with
        | nil => exact List.nil_sublist _
        | cons x l => have := hb x List.mem_cons_self; omega
      | succ m ih =>
        intro l a hp hb
        rw [List.range'_succ]
        cases l with
        | nil => exact List.nil_sublist _
        | cons x l =>
          rw [List.pairwise_cons] at hp
          by_cases e : x = a
          · subst e
            refine List.Sublist.cons_cons _ (ih l (x + 1) hp.2 fun y hy => ?_)
            have h1 := hp.1 y hy
            have h2 := hb y (List.mem_cons_of_mem _ hy)
            omega
          · refine List.Sublist.cons _ (ih (x :: l) (a + 1) (List.pairwise_cons.mpr hp) fun y hy => ?_)
            have h2 := hb y hy
            have h3 := hb x List.mem_cons_self
            rcases List.mem_cons.mp hy with rfl | hy
            · omega
            · have := hp.1 y hy
              omega
    have h3 := this n _ 0 hp (fun x hx => by
      obtain ⟨j, hj, rfl⟩ := List.mem_map.mp hx
      rw [List.mem_range] at hj
      unfold up
      split <;> omega)
    rwa [← List.range_eq_range'] at h3
  refine sub_eq (n := n) List.filter_sublist h2 fun x => ?_
  rw [List.mem_filter, List.mem_range, List.mem_map]
  constructor
  · rintro ⟨h1, h2⟩
    obtain ⟨j, rfl, hj⟩ := up_ex (k := k) (i := x) (by simpa using h2)
    exact ⟨j, List.mem_range.mpr (hj n h1 h), rfl⟩
  · rintro ⟨j, hj, rfl⟩
    rw [List.mem_range] at hj
    refine ⟨by unfold up; split <;> omega, by simpa using up_ne k j⟩
theorem er_filter {n k : Nat} (h : k < n) (P : Nat → Bool) (hk : P k = false) : ((List.range (n - 1)).filter fun j => P (up k j)).map (up k) = (List.range n).filter P := by
  have : ((List.range (n - 1)).filter fun j => P (up k j)).map (up k) = ((List.range (n - 1)).map (up k)).filter P := by
    rw [List.filter_map]
    rfl
  rw [this, ← er_range h, List.filter_filter]
  refine List.filter_congr fun x _ => ?_
  by_cases e : x = k
  · subst e; simp [hk]
  · simp [e]
theorem er_map {α : Type} (l : List α) {k : Nat} (h : k < l.length) (d : α) : ((List.range l.length).filter (fun j => !decide (j = k))).map (fun j => l.getD j d) = l.eraseIdx k := by
  rw [er_range h, List.map_map]
  apply List.ext_getElem?
  intro i
  rw [List.getElem?_map, er_at]
  by_cases hi : i < l.length - 1
  · rw [List.getElem?_range hi]
    have hu : up k i < l.length := by unfold up; split <;> omega
    show some (l.getD (up k i) d) = _
    rw [List.getD_eq_getElem?_getD, List.getElem?_eq_getElem hu]
    rfl
  · rw [List.getElem?_eq_none (by simpa using hi)]
    have hu : l.length ≤ up k i := by unfold up; split <;> omega
    rw [List.getElem?_eq_none hu]
    rfl
theorem er_count (s : St) (k p : Nat) : (s.eraseIdx k).count (some p) ≤ s.count (some p) := List.Sublist.count_le _ (List.eraseIdx_sublist _ _)
theorem er_count_none {s : St} {k : Nat} (h : s[k]? = some none) (p : Nat) : (s.eraseIdx k).count (some p) = s.count (some p) := by
  induction s generalizing k with
  | nil => simp at h
  | cons o s ih =>
    cases k with
    | zero =>
      rw [List.getElem?_cons_zero] at h
      injection h with h
      subst h
      rw [List.eraseIdx_cons_zero, List.count_cons]
      simp
    | succ k =>
      rw [List.getElem?_cons_succ] at h
      rw [List.eraseIdx_cons_succ, List.count_cons, List.count_cons, ih h]
theorem Leg.er (g : Leg c ws s) (k : Nat) : Leg c (ws.eraseIdx k) (s.eraseIdx k) := by
  refine ⟨?_, fun i w p h1 h2 => ?_, fun p => Nat.le_trans (er_count s k p) (g.cnt p)⟩
  · rw [List.length_eraseIdx, List.length_eraseIdx, g.len]
  · rw [er_at] at h1 h2
    exact g.way _ w p h1 h2
theorem may_er {j : Nat} (h : may c ws s (up k j) = true) : may c (ws.eraseIdx k) (s.eraseIdx k) j = true := by
  obtain ⟨w, p, h1, h2, h3, _⟩ := may_ex h
  unfold may
  rw [er_at, er_at, h1, h2]
  exact decide_eq_true (Nat.lt_of_le_of_lt (er_count s k _) h3)
theorem may_er_none {j : Nat} (hk : s[k]? = some none) : may c (ws.eraseIdx k) (s.eraseIdx k) j = may c ws s (up k j) := by
  unfold may
  rw [er_at, er_at]
  simp only [er_count_none hk]
theorem set_er {α : Type} (l : List α) (k j : Nat) (x : α) : (l.set (up k j) x).eraseIdx k = (l.eraseIdx k).set j x := by
  apply List.ext_getElem?
  intro i
  rw [er_at, List.getElem?_set, List.getElem?_set, er_at]
  by_cases e : j = i
  · subst e
    rw [if_pos rfl, if_pos rfl]
    have : (up k j < l.length) ↔ (j < (l.eraseIdx k).length) := by
      rw [List.length_eraseIdx]
      unfold up
      split <;> split <;> omega
    by_cases h : up k j < l.length
    · rw [if_pos h, if_pos (this.mp h)]
    · rw [if_neg h, if_neg (fun z => h (this.mpr z))]
  · rw [if_neg (fun z => e (up_inj z)), if_neg e]
theorem set_er_k {α : Type} (l : List α) (k : Nat) (x : α) : (l.set k x).eraseIdx k = l.eraseIdx k := by
  apply List.ext_getElem?
  intro i
  rw [er_at, er_at, List.getElem?_set, if_neg (up_ne k i).symm]
theorem go_er (s : St) (k j : Nat) : (go ws s (up k j)).eraseIdx k = go (ws.eraseIdx k) (s.eraseIdx k) j := by
  unfold go
  rw [er_at, er_at]
  cases ws[up k j]? with
  | none => rfl
  | some w => cases s[up k j]? with
    | none => rfl
    | some o => cases o with
      | none => rfl
      | some p => exact set_er s k j _
theorem go_er_k (s : St) (k : Nat) : (go ws s k).eraseIdx k = s.eraseIdx k := by
  unfold go
  split
  · rw [set_er_k]
  · rfl
theorem isIn_er (h : isIn s = true) (k : Nat) : isIn (s.eraseIdx k) = true := by
  unfold isIn at h ⊢
  rw [List.all_eq_true] at h ⊢
  exact fun x hx => h x ((List.eraseIdx_sublist s k).subset hx)
theorem can_er (k : Nat) : ∀ (n : Nat) (s : St), Leg c ws s → tot ws s ≤ n → canS c ws s = true → canS c (ws.eraseIdx k) (s.eraseIdx k) = true := by
  intro n
  induction n with
  | zero =>
    intro s g ht h
    rw [canS_eq g, Bool.or_eq_true] at h
    rcases h with h | h
    · rw [canS_eq (g.er k), isIn_er h k]; rfl
    · obtain ⟨t, htm, _⟩ := List.any_eq_true.mp h
      have := (g.laters htm).2
      omega
  | succ n ih =>
    intro s g ht h
    rw [canS_eq g, Bool.or_eq_true] at h
    rcases h with h | h
    · rw [canS_eq (g.er k), isIn_er h k]; rfl
    · obtain ⟨t, htm, hc⟩ := List.any_eq_true.mp h
      obtain ⟨g2, ht2⟩ := g.laters htm
      have h2 := ih t g2 (by omega) hc
      obtain ⟨i, hi, rfl⟩ := mem_laters.mp htm
      by_cases e : i = k
      · subst e
        rw [go_er_k] at h2
        exact h2
      · obtain ⟨j, rfl, _⟩ := up_ex e
        rw [go_er] at h2
        exact can_back (g.er k) (mem_laters.mpr ⟨j, may_er hi, rfl⟩) h2
theorem isIn_er_none (hk : s[k]? = some none) (h : isIn (s.eraseIdx k) = true) : isIn s = true := by
  unfold isIn at h ⊢
  rw [List.all_eq_true] at h ⊢
  intro x hx
  obtain ⟨i, hi, rfl⟩ := List.mem_iff_getElem.mp hx
  by_cases e : i = k
  · subst e
    rw [List.getElem?_eq_getElem hi] at hk
    injection hk with hk
    rw [hk]
    rfl
  · obtain ⟨j, rfl, _⟩ := up_ex e
    refine h _ (List.mem_of_getElem? (i := j) ?_)
    rw [er_at, List.getElem?_eq_getElem hi]
theorem can_er_none : ∀ (n : Nat) (s : St), Leg c ws s → s[k]? = some none → tot ws s ≤ n → canS c (ws.eraseIdx k) (s.eraseIdx k) = true → canS c ws s = true := by
  intro n
  have step : ∀ (s : St) (n : Nat), Leg c ws s → s[k]? = some none → (∀ t, t ∈ laters c ws s → t[k]? = some none → canS c (ws.eraseIdx k) (t.eraseIdx k) = true → canS c ws t = true) → canS c (ws.eraseIdx k) (s.eraseIdx k) = true → canS c ws s = true := by
    intro s n g hk ih h
    rw [canS_eq (g.er k), Bool.or_eq_true] at h
    rcases h with h | h
    · rw [canS_eq g, isIn_er_none hk h]; rfl
    · obtain ⟨t, htm, hc⟩ := List.any_eq_true.mp h
      obtain ⟨j, hj, rfl⟩ := mem_laters.mp htm
      rw [may_er_none hk] at hj
      rw [← go_er] at hc
      have hm : go ws s (up k j) ∈ laters c ws s := mem_laters.mpr ⟨_, hj, rfl⟩
      refine can_back g hm (ih _ hm ?_ hc)
      obtain ⟨w, p, _, _, _, e⟩ := may_ex hj
      rw [e, List.getElem?_set_ne (up_ne k j)]
      exact hk
  induction n with
  | zero =>
    intro s g hk ht h
    refine step s 0 g hk (fun t htm => ?_) h
    have := (g.laters htm).2
    omega
  | succ n ih =>
    intro s g hk ht h
    refine step s 0 g hk (fun t htm hkt hc => ?_) h
    obtain ⟨g2, ht2⟩ := g.laters htm
    exact ih t g2 hkt (by omega) hc
theorem can_er_eq (g : Leg c ws s) (hk : s[k]? = some none) : canS c (ws.eraseIdx k) (s.eraseIdx k) = canS c ws s := by
  rw [Bool.eq_iff_iff]
  exact ⟨can_er_none (tot ws s) s g hk (Nat.le_refl _), can_er k (tot ws s) s g (Nat.le_refl _)⟩
theorem mays_eq (s : St) : mays c ws s = (List.range s.length).filter (may c ws s) := rfl
theorem lost_er (g : Leg c ws s) (hk : s[k]? = some none) : (lostL c (ws.eraseIdx k) (s.eraseIdx k)).map (up k) = lostL c ws s := by
  have hkl : k < s.length := (List.getElem?_eq_some_iff.mp hk).1
  unfold lostL
  rw [mays_eq, mays_eq, List.filter_filter, List.filter_filter, er_len s hkl]
  rw [← er_filter hkl (fun i => (!canS c ws (go ws s i)) && may c ws s i) (by
    have : may c ws s k = false := by unfold may; rw [hk]; split <;> simp_all
    rw [this, Bool.and_false])]
  congr 1
  refine List.filter_congr fun j _ => ?_
  rw [may_er_none hk]
  by_cases hm : may c ws s (up k j) = true
  · rw [← go_er, can_er_eq (g.go hm)]
    obtain ⟨w, p, _, _, _, e⟩ := may_ex hm
    rw [e, List.getElem?_set_ne (up_ne k j)]
    exact hk
  · rw [Bool.eq_false_iff.mpr hm, Bool.and_false, Bool.and_false]
theorem wait_er {j : Nat} (h : j ∈ waitL c (ws.eraseIdx k) (s.eraseIdx k)) (hk : k < s.length) : up k j ∈ waitL c ws s := by
  unfold waitL at h ⊢
  rw [List.mem_filter, List.mem_range] at h ⊢
  obtain ⟨w, p, h1, h2, h3⟩ := fullB_ex h.2
  rw [er_at] at h1 h2
  refine ⟨?_, ?_⟩
  · have := (List.getElem?_eq_some_iff.mp h2).1
    exact this
  · unfold fullB
    rw [h1, h2]
    exact decide_eq_true (Nat.le_trans h3 (er_count s k _))
theorem cnt_er (s : St) (k : Nat) (A : List Nat) (p : Nat) : cntIn s (A.map (up k)) p = cntIn (s.eraseIdx k) A p := by
  unfold cntIn
  rw [List.filter_map, List.length_map]
  congr 1
  refine List.filter_congr fun j _ => ?_
  show (gt s (up k j) == some p) = _
  rw [er_gt]
theorem full_er (s : St) (k j : Nat) (A : List Nat) : fullIn c ws s (A.map (up k)) (up k j) = fullIn c (ws.eraseIdx k) (s.eraseIdx k) A j := by
  unfold fullIn
  rw [er_at, er_at]
  simp only [cnt_er]
theorem tied_er (h : Tied c (ws.eraseIdx k) (s.eraseIdx k) A) : Tied c ws s (A.map (up k)) := by
  intro i hi
  obtain ⟨j, hj, rfl⟩ := List.mem_map.mp hi
  rw [full_er]
  exact h j hj
theorem nodup_up (h : A.Nodup) : (A.map (up k)).Nodup := by
  unfold List.Nodup at h ⊢
  rw [List.pairwise_map]
  exact h.imp fun hab e => hab (up_inj e)
theorem knot_er {K' : List Nat} (hK : IsKnot c ws s K) (hK' : IsKnot c (ws.eraseIdx k) (s.eraseIdx k) K') : ∀ j ∈ K', up k j ∈ K := fun j hj =>
  hK.max _ (nodup_up (hK'.sub.nodup List.nodup_range)) (tied_er hK'.tied) _ (List.mem_map.mpr ⟨j, hj, rfl⟩)
theorem knot_er_eq {K' : List Nat} (hkl : k < s.length) (hK : IsKnot c ws s K) (hK' : IsKnot c (ws.eraseIdx k) (s.eraseIdx k) K') (hk : k ∉ K) : K'.map (up k) = K := by
  have hl := er_len s hkl
  have sub' : List.Sublist (K'.map (up k)) (List.range s.length) := by
    have h1 : List.Sublist (K'.map (up k)) ((List.range (s.eraseIdx k).length).map (up k)) := hK'.sub.map _
    rw [hl, ← er_range hkl] at h1
    exact h1.trans List.filter_sublist
  -- K, one less
  have hex : ∃ A : List Nat, A.map (up k) = K := by
    refine ⟨(List.range (s.length - 1)).filter fun j => decide (up k j ∈ K), ?_⟩
    rw [er_filter hkl (fun i => decide (i ∈ K)) (decide_eq_false hk)]
    exact (sub_filter hK.sub List.nodup_range).symm
  obtain ⟨A, hA⟩ := hex
  have tA : Tied c (ws.eraseIdx k) (s.eraseIdx k) A := by
    intro j hj
    rw [← full_er, hA]
    exact hK.tied _ (by rw [← hA]; exact List.mem_map.mpr ⟨j, hj, rfl⟩)
  have nA : A.Nodup := by
    have h1 : (A.map (up k)).Nodup := by rw [hA]; exact hK.sub.nodup List.nodup_range
    unfold List.Nodup at h1 ⊢
    rw [List.pairwise_map] at h1
    exact h1.imp fun h e => h (by rw [e])
  refine sub_eq sub' hK.sub fun x => ?_
  constructor
  · intro hx
    obtain ⟨j, hj, rfl⟩ := List.mem_map.mp hx
    exact knot_er hK hK' j hj
  · intro hx
    rw [← hA] at hx
    obtain ⟨j, hj, rfl⟩ := List.mem_map.mp hx
    exact List.mem_map.mpr ⟨j, hK'.max A nA tA j hj, rfl⟩
end
end Pn

namespace K07
open PySem PySem.Spec L2 Fx Pn
section
variable {pl : Str} {ws : List Wk} {s s0 : Pn.St} {i k n : Nat} {w : Wk} {o : Option Nat} {A B K W : List Nat}
theorem bx_at {ns : List Int} {z : Int} {R : Sto} {j : Nat} {o : O} (h : R[j]? = some o) : (bx ns z R)[j + 2]? = some o := h
theorem live_at {S : Sto} {n : Nat} {xs : List D} (h : S[n]? = some (.lst xs)) : okLive ⟨xs, [(n, xs)]⟩ S = true := by
  unfold okLive okAt
  rw [List.all_cons, List.all_nil, Bool.and_true]
  dsimp only
  rw [h]
  exact decide_eq_true rfl
theorem it_at {S : Sto} {n : Nat} {xs : List D} (h : S[n]? = some (.lst xs)) : itOf (.ref n) S = some ⟨xs, [(n, xs)]⟩ := by
  show (match S[n]? with
    | some (.lst xs) => some (⟨xs, [(n, xs)]⟩ : ItD)
    | _ => none) = _
  rw [h]
theorem in_ints (i : Nat) (A : List Nat) : inD (iD i) (A.map iD) = decide (i ∈ A) := by
  unfold inD
  rw [List.any_map, Bool.eq_iff_iff, List.any_eq_true, decide_eq_true_iff]
  constructor
  · rintro ⟨x, hx, h⟩
    have : ((x : Int) == (i : Int)) = true := h
    rw [beq_iff_eq] at this
    have e : x = i := by omega
    exact e ▸ hx
  · intro h
    exact ⟨i, h, beq_self_eq_true (i : Int)⟩
theorem flat_ints (A : List Nat) : (A.map iD).all flatD = true := by
  rw [List.all_map]
  exact List.all_eq_true.mpr fun _ _ => rfl
theorem notIn_l (i : Nat) (A : List Nat) (S : Sto) : opNotIn (.int (i : Nat)) (.lst (A.map iD)) S = some (.bl (!decide (i ∈ A))) := by
  have e : isInB (iD i) (.lst (A.map iD)) S = some (decide (i ∈ A)) := by
    show (if flatD (iD i) && (A.map iD).all flatD then some (inD (iD i) (A.map iD)) else none) = _
    rw [flat_ints, in_ints]
    rfl
  show (isInB (iD i) (.lst (A.map iD)) S).map _ = _
  rw [e]
  rfl
theorem notIn_r {S : Sto} (i : Nat) (h : S[n]? = some (.lst (A.map iD))) : opNotIn (.int (i : Nat)) (.ref n) S = some (.bl (!decide (i ∈ A))) := by
  have e : isInB (iD i) (.ref n) S = some (decide (i ∈ A)) := by
    show (match seqA (.ref n) S with
      | some xs => if flatD (iD i) && xs.all flatD then some (inD (iD i) xs) else none
      | none => none) = _
    rw [seqAr, seqLr, h]
    dsimp only
    rw [flat_ints, in_ints]
    rfl
  show (isInB (iD i) (.ref n) S).map _ = _
  rw [e]
  rfl
theorem ne_ref {S : Sto} (h : S[n]? = some (.lst (B.map iD))) (A : List Nat) : opNe (.lst (A.map iD)) (.ref n) S = some (.bl (!decide (A = B))) := by
  have h0 := ints_eq A B S
  obtain ⟨h1, h2⟩ := ints_nice A
  obtain ⟨h3, h4⟩ := ints_nice B
  have e1 : derefL S (.ref n) = .lst (B.map iD) := by unfold derefL; dsimp only; rw [h]
  have e2 : derefL S (.lst (A.map iD)) = .lst (A.map iD) := rfl
  have e3 : derefL S (.lst (B.map iD)) = .lst (B.map iD) := rfl
  have e : eqAny (.lst (A.map iD)) (.ref n) S = some (decide (A = B)) := by
    rw [← h0]
    show eqDeep _ _ S = eqDeep _ _ S
    rw [eqDeep_nice (by rw [e2]; exact h1) (by rw [e1]; exact h3) (by rw [e2]; show depA _ + 1 ≤ 64; omega) (by rw [e1]; show depA _ + 1 ≤ 64; omega),
      eqDeep_nice (by rw [e2]; exact h1) (by rw [e3]; exact h3) (by rw [e2]; show depA _ + 1 ≤ 64; omega) (by rw [e3]; show depA _ + 1 ≤ 64; omega), e1, e3]
  show (eqAny _ _ S).map _ = _
  rw [e]
  rfl
theorem ne_ints (A B : List Nat) (S : Sto) : opNe (.lst (A.map iD)) (.lst (B.map iD)) S = some (.bl (!decide (A = B))) := by
  show (eqAny _ _ S).map _ = _
  rw [ints_eq]
  rfl
def eD (s : Pn.St) (i : Nat) : D := .tup [iD i, oD (gt s i)]
theorem enum_st (s : Pn.St) : enumD (s.map oD) = (List.range s.length).map (eD s) := by
  have h : s.map oD = (List.range s.length).map fun i => oD (gt s i) := by
    conv => lhs; rw [← gt_map s]
    rw [List.map_map]
    rfl
  unfold enumD
  rw [List.length_map, h, List.zipWith_map_right, List.zipWith_self]
  rfl
theorem st_ix' (h : i < s.length) (S : Sto) : opIx (stD s) (.int (i : Nat)) S = some (oD (gt s i)) := by
  refine st_ix ?_ S
  unfold gt
  rw [List.getD_eq_getElem?_getD, List.getElem?_eq_getElem h]
  rfl
theorem src_st (s : Pn.St) (S : Sto) : srcD (stD s) S = some (s.map oD, []) := rfl
theorem eq_o (o : Option Nat) (p : Nat) (S : Sto) : opEq (oD o) (.int (p : Nat)) S = some (.bl (o == some p)) := by
  cases o with
  | none => rfl
  | some q =>
    show some (D.bl (decide ((q : Int) = (p : Int)))) = _
    congr 2
    rw [Bool.eq_iff_iff, decide_eq_true_iff, beq_iff_eq]
    constructor
    · intro h; congr 1; omega
    · intro h; injection h with h; omega
end
end K07

namespace K07
open PySem PySem.Spec L2 Fx Pn
section
variable {pl : Str} {ws : List Wk} {s s0 : Pn.St} {n m : Nat} {L : List Pn.St} {S : Sto}
end
end K07

namespace K07
open PySem PySem.Spec L2 Fx Pn
section
variable {pl : Str} {ws : List Wk}
theorem begin_of_ok (S : Sto) : f_begin_of [plD pl ws] S = .ok (stD (begS ws)) S := by
  unfold f_begin_of g_begin_of
  have it : itOf (.tup (ws.map wk)) S = some ⟨ws.map wk, []⟩ := rfl
  have l := lcF_map (own := [1]) (g := gNm 1) (tt := fYes) (te := Le_begin_of_1) (ok := okLive ⟨ws.map wk, []⟩) (σ := [some (plD pl ws), none]) (S := S) ws wk (fun w => .int (w.1 : Nat)) rfl (by
    intro w _
    refine ⟨_, rfl, rfl, ?_⟩
    simp [Le_begin_of_1, wipe1, wk_def, wk0])
  have e : ∀ S, tupleD (.lst (ws.map fun w => D.int (w.1 : Nat))) S = some (stD (begS ws)) := fun S => by
    show some (D.tup (ws.map fun w => D.int (w.1 : Nat))) = some (D.tup ((ws.map fun w => some w.1).map oD))
    rw [List.map_map]
    rfl
  simp [it, l, e]
end
end K07

/-! Pw: more landings; lists chosen of a list. -/
namespace Pn
section
variable {c c' : Nat → Nat} {ws : List Wk} {s : St} {i : Nat} {A K K' : List Nat}
theorem Leg.wid (g : Leg c ws s) (h : ∀ p, c p ≤ c' p) : Leg c' ws s := ⟨g.len, g.way, fun p => Nat.le_trans (g.cnt p) (h p)⟩
theorem may_wid (h : ∀ p, c p ≤ c' p) (hm : may c ws s i = true) : may c' ws s i = true := by
  obtain ⟨w, p, h1, h2, h3, _⟩ := may_ex hm
  unfold may
  rw [h1, h2]
  exact decide_eq_true (Nat.lt_of_lt_of_le h3 (h _))
theorem can_wid (h : ∀ p, c p ≤ c' p) : ∀ (n : Nat) (s : St), Leg c ws s → tot ws s ≤ n → canS c ws s = true → canS c' ws s = true
  | n, s, g, hn, hc => by
    rw [canS_eq g, Bool.or_eq_true] at hc
    rw [canS_eq (g.wid h), Bool.or_eq_true]
    rcases hc with hc | hc
    · exact .inl hc
    · obtain ⟨t, ht, hk⟩ := List.any_eq_true.mp hc
      obtain ⟨j, hj, rfl⟩ := mem_laters.mp ht
      have ht2 := tot_go g hj
      cases n with
      | zero => omega
      | succ n => exact .inr (List.any_eq_true.mpr ⟨_, mem_laters.mpr ⟨j, may_wid h hj, rfl⟩, can_wid h n _ (g.go hj) (by omega) hk⟩)
theorem knot_wid (h : ∀ p, c p ≤ c' p) (hK : IsKnot c ws s K) (hK' : IsKnot c' ws s K') : ∀ i ∈ K', i ∈ K := by
  refine hK.max K' (hK'.sub.nodup List.nodup_range) fun i hi => ?_
  obtain ⟨w, p, h1, h2, h3⟩ := fullIn_ex (hK'.tied i hi)
  unfold fullIn
  rw [h1, h2]
  exact decide_eq_true (Nat.le_trans (h _) h3)
end
/-- all rising lists of so many -/
def choose : List Nat → Nat → List (List Nat)
  | _, 0 => [[]]
  | l, m + 1 => (List.range l.length).flatMap fun p => (choose (l.drop (p + 1)) m).map (l.getD p 0 :: ·)
theorem choose_sub : ∀ (m : Nat) (l x : List Nat), x ∈ choose l m → List.Sublist x l ∧ x.length = m
  | 0, l, x, h => by
    rw [choose] at h
    have := List.mem_singleton.mp h
    subst this
    exact ⟨List.nil_sublist _, rfl⟩
  | m + 1, l, x, h => by
    rw [choose, List.mem_flatMap] at h
    obtain ⟨p, hp, h⟩ := h
    rw [List.mem_range] at hp
    obtain ⟨y, hy, rfl⟩ := List.mem_map.mp h
    obtain ⟨h1, h2⟩ := choose_sub m _ y hy
    refine ⟨?_, by rw [List.length_cons, h2]⟩
    have e : l.drop p = l.getD p 0 :: l.drop (p + 1) := by
      rw [List.drop_eq_getElem_cons hp, List.getD_eq_getElem?_getD, List.getElem?_eq_getElem hp]
      rfl
    have s1 : List.Sublist (l.getD p 0 :: y) (l.drop p) := by rw [e]; exact h1.cons₂ _
    exact s1.trans (List.drop_sublist p l)
theorem sub_choose : ∀ (m : Nat) (l x : List Nat), List.Sublist x l → x.length = m → x ∈ choose l m
  | 0, l, x, _, h => by
    rw [List.length_eq_zero_iff.mp h, choose]
    exact List.mem_singleton.mpr rfl
  | m + 1, l, x, h, hl => by
    cases x with
    | nil => simp at hl
    | cons a x =>
      rw [choose, List.mem_flatMap]
      have key : ∀ l : List Nat, List.Sublist (a :: x) l → ∃ p, p < l.length ∧ l.getD p 0 = a ∧ List.Sublist x (l.drop (p + 1)) := by
        intro l
        induction l with
        | nil => intro h; cases h
        | cons b l ih =>
          intro h
          rcases List.sublist_cons_iff.mp h with h | ⟨r, e, h⟩
          · obtain ⟨p, h1, h2, h3⟩ := ih h
            exact ⟨p + 1, by simpa using h1, by simpa using h2, by simpa using h3⟩
          · injection e with e1 e2
            subst e1 e2
            exact ⟨0, by simp, by simp, by simpa using h⟩
      obtain ⟨p, h1, h2, h3⟩ := key l h
      refine ⟨p, List.mem_range.mpr h1, List.mem_map.mpr ⟨x, sub_choose m _ x h3 (by simpa using hl), by rw [h2]⟩⟩
theorem choose_len : ∀ (m : Nat) (l : List Nat), (choose l m).length ≤ 2 ^ l.length
  | 0, l => by
    rw [choose]
    exact Nat.one_le_two_pow
  | m + 1, l => by
    have key : ∀ (k : Nat), k ≤ l.length → ((List.range k).flatMap fun p => (choose (l.drop (p + 1)) m).map (l.getD p 0 :: ·)).length + 2 ^ (l.length - k) ≤ 2 ^ l.length := by
      intro k
      induction k with
      | zero => intro _; simp
      | succ k ih =>
        intro hk
        have h1 := ih (by omega)
        have h2 := choose_len m (l.drop (k + 1))
        rw [List.length_drop] at h2
        rw [List.range_succ, List.flatMap_append, List.length_append]
        simp only [List.flatMap_cons, List.flatMap_nil, List.append_nil, List.length_map]
        have e : 2 ^ (l.length - k) = 2 ^ (l.length - (k + 1)) + 2 ^ (l.length - (k + 1)) := by
          have : l.length - k = (l.length - (k + 1)) + 1 := by omega
          rw [this, Nat.pow_succ]
          omega
        omega
    have := key l.length (Nat.le_refl _)
    rw [choose]
    have h0 : 0 < 2 ^ (l.length - l.length) := Nat.two_pow_pos _
    omega
/-- all lists, the fewest first -/
def cands (l : List Nat) : List (List Nat) := (List.range (l.length + 1)).flatMap (choose l)
theorem mem_cands {l x : List Nat} : x ∈ cands l ↔ List.Sublist x l := by
  unfold cands
  rw [List.mem_flatMap]
  constructor
  · rintro ⟨m, _, h⟩
    exact (choose_sub m l x h).1
  · intro h
    exact ⟨x.length, List.mem_range.mpr (Nat.lt_succ_of_le h.length_le), sub_choose _ l x h rfl⟩
theorem cands_rise (l : List Nat) : (cands l).Pairwise fun x y => x.length ≤ y.length := by
  unfold cands
  rw [List.pairwise_flatMap]
  refine ⟨fun m _ => ?_, ?_⟩
  · refine List.Pairwise.imp_of_mem (R := fun _ _ => True) ?_ (List.pairwise_of_forall fun _ _ => trivial)
    intro x y hx hy _
    rw [(choose_sub m l x hx).2, (choose_sub m l y hy).2]
    exact Nat.le_refl _
  · refine List.Pairwise.imp ?_ (List.pairwise_lt_range (n := l.length + 1))
    intro a b hab x hx y hy
    rw [(choose_sub a l x hx).2, (choose_sub b l y hy).2]
    omega
/-- the first that serves: no shorter one serves -/
theorem first_short {l F : List Nat} {P : List Nat → Bool} (h : (cands l).find? P = some F) : List.Sublist F l ∧ P F = true ∧ ∀ x, List.Sublist x l → x.length < F.length → P x = false := by
  obtain ⟨hP, as, bs, e, hn⟩ := List.find?_eq_some_iff_append.mp h
  have hF : F ∈ cands l := by rw [e]; simp
  refine ⟨mem_cands.mp hF, hP, fun x hx hlt => ?_⟩
  have hx' := mem_cands.mpr hx
  have hr := cands_rise l
  rw [e] at hx' hr
  rw [List.pairwise_append] at hr
  rcases List.mem_append.mp hx' with h1 | h1
  · have := hn x h1
    simpa using this
  · rcases List.mem_cons.mp h1 with rfl | h1
    · omega
    · have := (List.pairwise_cons.mp hr.2.1).1 x h1
      omega
theorem first_none {l : List Nat} {P : List Nat → Bool} (h : (cands l).find? P = none) (x : List Nat) (hx : List.Sublist x l) : P x = false := by
  have := List.find?_eq_none.mp h x (mem_cands.mpr hx)
  simpa using this
end Pn

namespace K07
open PySem PySem.Spec L2 Fx Pn
/-! TA: more landings; lists chosen. -/
def lSign (pl : Str) (st : List Nat) (i : Nat) : Str := if i ∈ st then "l" else ⟨#[(TL.tl pl).getD i 0]⟩
def wide (pl : Str) (st : List Nat) : Str := Txt.join "" ((List.range pl.length).map (lSign pl st))
theorem tl_lSign (pl : Str) (st : List Nat) (i : Nat) : TL.tl (lSign pl st i) = [if i ∈ st then 108 else (TL.tl pl).getD i 0] := by
  unfold lSign
  split <;> rfl
theorem tl_wide (pl : Str) (st : List Nat) : TL.tl (wide pl st) = (List.range pl.length).map fun i => if i ∈ st then 108 else (TL.tl pl).getD i 0 := by
  unfold wide
  rw [join_empty, List.map_map]
  induction List.range pl.length with
  | nil => rfl
  | cons i l ih =>
    rw [List.map_cons, List.flatten_cons, ih, List.map_cons]
    show TL.tl (lSign pl st i) ++ _ = _
    rw [tl_lSign]
    rfl
theorem len_wide (pl : Str) (st : List Nat) : (wide pl st).length = pl.length := by
  rw [TL.len_tl, tl_wide, List.length_map, List.length_range]
theorem wide_at (pl : Str) (st : List Nat) {k : Nat} (h : k < pl.length) : (TL.tl (wide pl st))[k]? = some (if k ∈ st then 108 else (TL.tl pl).getD k 0) := by
  rw [tl_wide, List.getElem?_map, List.getElem?_range h]
  rfl
theorem cap_wide (pl : Str) (st : List Nat) (k : Nat) : cap (wide pl st) k = if k < pl.length ∧ k ∈ st then 2 else cap pl k := by
  unfold cap
  by_cases h : k < pl.length
  · rw [wide_at pl st h]
    by_cases hk : k ∈ st
    · have q : k < pl.length ∧ k ∈ st := ⟨h, hk⟩
      simp only [if_pos hk, if_pos q, if_true]
    · have q : ¬ (k < pl.length ∧ k ∈ st) := fun z => hk z.2
      have : (TL.tl pl)[k]? = some ((TL.tl pl).getD k 0) := by
        rw [List.getD_eq_getElem?_getD, List.getElem?_eq_getElem (by rw [← TL.len_tl]; exact h)]
        rfl
      simp only [if_neg hk, if_neg q, this]
  · have h1 : (TL.tl (wide pl st))[k]? = none := List.getElem?_eq_none (by rw [← TL.len_tl, len_wide]; omega)
    have h2 : (TL.tl pl)[k]? = none := List.getElem?_eq_none (by rw [← TL.len_tl]; omega)
    have q : ¬ (k < pl.length ∧ k ∈ st) := fun z => h z.1
    simp only [h1, h2, if_neg q]
theorem cap_le_wide (pl : Str) (st : List Nat) (k : Nat) : cap pl k ≤ cap (wide pl st) k := by
  rw [cap_wide]
  split
  · unfold cap
    split <;> decide
  · exact Nat.le_refl _
theorem good_wide {pl : Str} (g : GoodPl pl) (st : List Nat) : GoodPl (wide pl st) := by
  obtain ⟨hl1, hl2⟩ := g.len
  have e0 := g.ends (k := 0) (.inl rfl)
  have e1 := g.ends (k := pl.length - 1) (.inr (by omega))
  refine ⟨((TL.tl (wide pl st)).drop 1).take (pl.length - 2), ?_, ?_, ?_⟩
  · have hlen : (TL.tl (wide pl st)).length = pl.length := by rw [← TL.len_tl, len_wide]
    refine List.ext_getElem? fun k => ?_
    have first : ∀ j, ((TL.tl pl)[j]? = some 108) → j < pl.length → (TL.tl (wide pl st))[j]? = some 108 := fun j hj hlt => by
      rw [wide_at pl st hlt, List.getD_eq_getElem?_getD, hj]
      split <;> rfl
    cases k with
    | zero => rw [first 0 e0 (by omega)]; rfl
    | succ k =>
      rw [List.getElem?_cons_succ]
      by_cases hk : k < pl.length - 2
      · rw [List.getElem?_append_left (by rw [List.length_take, List.length_drop]; omega), List.getElem?_take_of_lt hk, List.getElem?_drop, Nat.add_comm]
      · by_cases hk2 : k = pl.length - 2
        · rw [List.getElem?_append_right (by rw [List.length_take, List.length_drop]; omega)]
          have : k + 1 = pl.length - 1 := by omega
          rw [this, first _ e1 (by omega)]
          have hz : k - (List.take (pl.length - 2) (List.drop 1 (TL.tl (wide pl st)))).length = 0 := by rw [List.length_take, List.length_drop]; omega
          rw [hz]
          rfl
        · rw [List.getElem?_eq_none (by omega), List.getElem?_eq_none (by rw [List.length_append, List.length_take, List.length_drop, List.length_singleton]; omega)]
  · intro c hc
    have hm : c ∈ TL.tl (wide pl st) := List.mem_of_mem_drop (List.mem_of_mem_take hc)
    rw [tl_wide] at hm
    obtain ⟨i, hi, rfl⟩ := List.mem_map.mp hm
    rw [List.mem_range] at hi
    obtain ⟨c, hc1, hc2⟩ := g.sign hi
    split
    · exact .inr rfl
    · rw [List.getD_eq_getElem?_getD, hc1]
      exact hc2
  · rw [List.length_take, List.length_drop]
    omega
theorem GoodPlan.wide {pl : Str} {ws : List Wk} (G : GoodPlan pl ws) (st : List Nat) : GoodPlan (wide pl st) ws :=
  ⟨good_wide G.gp st, ⟨fun w hw => by rw [len_wide]; exact G.part.at_ w hw, fun k => Nat.le_trans (G.part.cnt k) (cap_le_wide pl st k)⟩, G.ne, G.few⟩
theorem in_lA (i : Nat) (A : List Nat) (S : Sto) : opIn (.int (i : Nat)) (.lst (A.map iD)) S = some (.bl (decide (i ∈ A))) := by
  have e : isInB (iD i) (.lst (A.map iD)) S = some (decide (i ∈ A)) := by
    show (if flatD (iD i) && (A.map iD).all flatD then some (inD (iD i) (A.map iD)) else none) = _
    rw [flat_ints, in_ints]
    rfl
  show (isInB (iD i) (.lst (A.map iD)) S).map _ = _
  rw [e]
  rfl
theorem enum_signs {pl : Str} : enumD (signs pl) = (List.range pl.length).map fun i => D.tup [iD i, .str ⟨#[(TL.tl pl).getD i 0]⟩] := by
  have sz : (signs pl).length = pl.length := by unfold signs; simp [Str.length]
  refine List.ext_getElem? fun i => ?_
  by_cases h : i < pl.length
  · unfold enumD
    rw [List.getElem?_zipWith, sz, List.getElem?_range h, List.getElem?_map, List.getElem?_range h]
    have hi : i < (signs pl).length := by omega
    obtain ⟨c, hc, e⟩ := signs_get (List.getElem?_eq_getElem hi)
    rw [List.getElem?_eq_getElem hi, e]
    have : (TL.tl pl).getD i 0 = c := by rw [List.getD_eq_getElem?_getD, hc]; rfl
    rw [← this]
    rfl
  · have h1 : (enumD (signs pl)).length = pl.length := by
      unfold enumD
      rw [List.length_zipWith, List.length_range, sz]
      omega
    rw [List.getElem?_eq_none (by omega), List.getElem?_eq_none (by rw [List.length_map, List.length_range]; omega)]
theorem lSign_len (pl : Str) (st : List Nat) (i : Nat) : (lSign pl st i).length = 1 := by rw [TL.len_tl, tl_lSign]; rfl
theorem wide_join {pl : Str} (hl : pl.length ≤ 12) (st : List Nat) (S : Sto) : opJoin (.str "") [.lst ((List.range pl.length).map fun i => D.str (lSign pl st i))] S = some (.str (wide pl st), S) := by
  have e : ((List.range pl.length).map fun i => D.str (lSign pl st i)) = ((List.range pl.length).map (lSign pl st)).map D.str := by rw [List.map_map]; rfl
  have hs : ∀ l : List Nat, ((l.map (lSign pl st)).map (·.length)).sum = l.length := by
    intro l
    induction l with
    | nil => rfl
    | cons i l ih =>
      rw [List.map_cons, List.map_cons, List.sum_cons, ih, lSign_len, List.length_cons]
      omega
  have hj : joinOk "" ((List.range pl.length).map (lSign pl st)) = true := by
    unfold joinOk
    refine decide_eq_true ?_
    have e0 : ("" : Str).length = 0 := rfl
    rw [hs, List.length_range, e0]
    omega
  have hm := strs_map ((List.range pl.length).map (lSign pl st))
  rw [e]
  show (match strsOf (((List.range pl.length).map (lSign pl st)).map D.str) with
    | some ys => if joinOk "" ys then some (D.str (Txt.join "" ys), S) else none
    | none => none) = _
  rw [hm]
  dsimp only
  rw [hj]
  rfl
section
variable {pl : Str} {ws : List Wk} {s s0 : Pn.St} {n m : Nat} {A B : List Nat} {S : Sto} {i : Nat}
theorem with_ok (hl : pl.length ≤ 12) (st : List Nat) (S : Sto) : f_with_landings [plD pl ws, .lst (st.map iD)] S = .ok (plD (wide pl st) ws) S := by
  have sz : (signs pl).length = pl.length := by unfold signs; simp [Str.length]
  have e3 : tooMany pl.length = false := tm_of (by omega)
  have e3' : tooMany pl.cps.size = false := e3
  have l1 := lcF_map (own := [3, 4]) (g := gTp 2 (gNs [3, 4])) (tt := fYes) (te := Le_with_landings_1) (ok := okLive ⟨enumD (signs pl), []⟩) (σ := [some (plD pl ws), some (.lst (st.map iD)), none, none, none]) (S := S) (List.range pl.length) (fun i => D.tup [iD i, .str ⟨#[(TL.tl pl).getD i 0]⟩]) (fun i => D.str (lSign pl st i)) rfl (by
    intro i hi
    have e := in_lA i st S
    refine ⟨[some (plD pl ws), some (.lst (st.map iD)), none, some (iD i), some (.str ⟨#[(TL.tl pl).getD i 0]⟩)], rfl, rfl, ?_⟩
    by_cases h : i ∈ st
    · have e' : opIn (.int (i : Nat)) (.lst (st.map iD)) S = some (.bl true) := by rw [e, decide_eq_true h]
      have es : lSign pl st i = "l" := if_pos h
      simp [Le_with_landings_1, iD, e', es]
    · have e' : opIn (.int (i : Nat)) (.lst (st.map iD)) S = some (.bl false) := by rw [e, decide_eq_false h]
      have es : lSign pl st i = ⟨#[(TL.tl pl).getD i 0]⟩ := if_neg h
      simp [Le_with_landings_1, iD, e', es, -List.getD_eq_getElem?_getD])
  rw [← enum_signs] at l1
  have j := wide_join hl st S
  have tm2 : tooMany 2 = false := rfl
  have pe : D.tup [D.str (wide pl st), D.tup (ws.map wk)] = plD (wide pl st) ws := rfl
  have src : srcD (.str pl) S = some (signs pl, []) := by
    show (if tooMany pl.cps.size then none else some (signs pl, [])) = _
    rw [e3']
    rfl
  unfold f_with_landings g_with_landings
  simp [src, l1, j, tm2, pe]
def lD (l : List Nat) : D := .lst (l.map iD)
/-- a list, frozen or of the store -/
def SeqOf (S : Sto) (d : D) (xs : List D) : Prop := d = .lst xs ∨ ∃ n, d = .ref n ∧ S[n]? = some (.lst xs)
theorem SeqOf.it {d : D} {xs : List D} (h : SeqOf S d xs) : ∃ lv, itOf d S = some ⟨xs, lv⟩ ∧ okLive ⟨xs, lv⟩ S = true := by
  rcases h with rfl | ⟨n, rfl, h⟩
  · exact ⟨[], rfl, rfl⟩
  · exact ⟨[(n, xs)], it_at h, live_at h⟩
theorem SeqOf.app {T : Sto} {d : D} {xs : List D} (h : SeqOf S d xs) : SeqOf (S ++ T) d xs := by
  rcases h with rfl | ⟨n, rfl, h⟩
  · exact .inl rfl
  · exact .inr ⟨n, rfl, app_at h⟩
theorem ints_at_ix {l : List Nat} {k : Nat} (h : k < l.length) (S : Sto) : opIx (.lst (l.map iD)) (.int (k : Nat)) S = some (.int (l.getD k 0 : Nat)) := by
  refine atI_n ?_
  rw [List.getElem?_map, List.getElem?_eq_getElem h, List.getD_eq_getElem?_getD, List.getElem?_eq_getElem h]
  rfl
def chAcc (l : List Nat) (m i : Nat) : List (List Nat) := (List.range i).flatMap fun p => (Pn.choose (l.drop (p + 1)) m).map (l.getD p 0 :: ·)
theorem chAcc_len (l : List Nat) (m i : Nat) (h : i ≤ l.length) : (chAcc l m i).length ≤ 2 ^ l.length := by
  have h1 : (chAcc l m i).length ≤ (Pn.choose l (m + 1)).length := by
    rw [Pn.choose]
    unfold chAcc
    have e : List.range l.length = List.range i ++ (List.range l.length).drop i := by
      have := (List.take_append_drop i (List.range l.length)).symm
      rwa [List.take_range, Nat.min_eq_left h] at this
    rw [e, List.flatMap_append, List.length_append]
    omega
  exact Nat.le_trans h1 (choose_len _ _)
theorem cat_one (k : Nat) (r : List Nat) (h : r.length ≤ 1000) (S : Sto) : opCat (.lst [.int (k : Nat)]) (lD r) S = some ((k :: r).map iD) := by
  have e1 : seqM (D.lst [.int (k : Nat)]) S = some [.int (k : Nat)] := rfl
  have e2 : seqM (lD r) S = some (r.map iD) := rfl
  unfold opCat
  rw [e1, e2]
  dsimp only
  rw [tm_of (by simp only [List.length_map, List.length_singleton]; omega)]
  rfl
theorem ext_at (S T : Sto) (xs ys : List D) (h : xs.length + ys.length ≤ 100000) : opExtend (.ref S.length) [.lst ys] (S ++ .lst xs :: T) = some (.non, S ++ .lst (xs ++ ys) :: T) := by
  have h1 : (S ++ .lst xs :: T)[S.length]? = some (.lst xs) := by rw [List.getElem?_append_right (Nat.le_refl _)]; simp
  have e1 : lstO (.ref S.length) (S ++ .lst xs :: T) = some (S.length, xs) := by
    unfold lstO
    dsimp only
    rw [h1]
  have e2 : seqM (.lst ys) (S ++ .lst xs :: T) = some ys := rfl
  unfold opExtend
  rw [e1]
  dsimp only
  rw [e2]
  dsimp only
  rw [tm_of h, List.set_append_right _ _ (Nat.le_refl _)]
  simp
theorem chosen_ok : ∀ (m fu : Nat) (l : List Nat) (S : Sto), m < fu → l.length ≤ 12 → ∃ d T, f_chosen fu [.lst (l.map iD), .int (m : Nat)] S = .ok d (S ++ T) ∧ SeqOf (S ++ T) d ((Pn.choose l m).map lD)
  | 0, 0, _, _, h, _ => absurd h (by omega)
  | 0, fu + 1, l, S, _, _ => by
    have tm1 : tooMany 1 = false := rfl
    have tm0 : tooMany 0 = false := rfl
    refine ⟨.lst [.lst []], [], ?_, .inl rfl⟩
    show fDef 5 (g_chosen (f_chosen fu)) _ _ = _
    unfold g_chosen
    simp [tm1, tm0]
  | m + 1, 0, _, _, h, _ => absurd h (by omega)
  | m + 1, fu + 1, l, S, h, hl => by
    have tml : tooMany (l.length : Int).natAbs = false := tm_of (by omega)
    have tml' : tooMany l.length = false := tm_of (by omega)
    have tm0 : tooMany 0 = false := rfl
    have tm1 : tooMany 1 = false := rfl
    have e1 : ((m + 1 : Nat) : Int) - 1 = (m : Int) := by omega
    have ne0 : ¬ ((m : Int) + 1 = 0) := by omega
    obtain ⟨σ', S', e, i, x, T, hd, rfl, rfl⟩ := loopF_inv (g := gNm 3) (b := L_chosen_2 (f_chosen fu)) (ok := okLive ⟨rngD 0 l.length, []⟩)
      (fun ds σ S' => ∃ (i : Nat) (x : Option D) (T : Sto), ds = (rngD 0 l.length).drop i ∧ σ = [some (.lst (l.map iD)), some (.int ((m : Int) + 1)), some (.ref S.length), x, none] ∧ S' = S ++ .lst ((chAcc l m i).map lD) :: T ∧ i ≤ l.length)
      (fun σ S' => ∃ (i : Nat) (x : Option D) (T : Sto), i = l.length ∧ σ = [some (.lst (l.map iD)), some (.int ((m : Int) + 1)), some (.ref S.length), x, none] ∧ S' = S ++ .lst ((chAcc l m i).map lD) :: T) (fun _ _ _ _ => rfl)
      (fun σ S' ⟨i, x, T, hd, h1, h2, h3⟩ => ⟨i, x, T, by
        have := congrArg List.length hd
        rw [rngD0, List.length_drop, List.length_map, List.length_range, List.length_nil] at this
        omega, h1, h2⟩)
      (by
        rintro d ds σ S' ⟨i, x, T, hd, rfl, rfl, hi⟩
        obtain ⟨hget, hds⟩ := drop_head hd
        rw [rngD0, List.getElem?_map] at hget
        obtain ⟨k, hk, rfl⟩ := Option.map_eq_some_iff.mp hget
        obtain ⟨hk1, hk2⟩ := List.getElem?_eq_some_iff.mp hk
        simp at hk1 hk2
        subst hk2
        obtain ⟨d', T', e2, sq⟩ := chosen_ok m fu (l.drop (i + 1)) (S ++ .lst ((chAcc l m i).map lD) :: T) (by omega) (by rw [List.length_drop]; omega)
        obtain ⟨S1, hS1⟩ : ∃ S1, S1 = S ++ .lst ((chAcc l m i).map lD) :: (T ++ T') := ⟨_, rfl⟩
        have eS : S ++ .lst ((chAcc l m i).map lD) :: T ++ T' = S1 := by rw [hS1, List.append_assoc]; rfl
        rw [eS] at e2 sq
        obtain ⟨lv, it1, it2⟩ := sq.it
        have cut : cutD (l.map iD) (some ((i : Int) + 1)) none = (l.drop (i + 1)).map iD := by
          have := cut_hi (l.map iD) (i := i + 1) (by rw [List.length_map]; omega)
          rw [show ((i + 1 : Nat) : Int) = (i : Int) + 1 by omega] at this
          rw [this, List.map_drop]
        have sl1 : ∀ S, opSl (.lst (l.map iD)) (some ((i : Int) + 1)) none S = some (.lst ((l.drop (i + 1)).map iD)) := fun S => by
          show some (D.lst (cutD (l.map iD) (some ((i : Int) + 1)) none)) = _
          rw [cut]
        have ix := ints_at_ix (l := l) hk1 S1
        have cl := choose_len m (l.drop (i + 1))
        have ll := lcF_map (own := [4]) (g := gNm 4) (tt := fYes) (te := Le_chosen_1 (f_chosen fu)) (ok := okLive ⟨(Pn.choose (l.drop (i + 1)) m).map lD, lv⟩) (σ := [some (.lst (l.map iD)), some (.int ((m : Int) + 1)), some (.ref S.length), some (.int (i : Nat)), none]) (S := S1) (Pn.choose (l.drop (i + 1)) m) lD (fun r => lD (l.getD i 0 :: r)) it2 (by
          intro r hr
          have hrl := (choose_sub m _ r hr).1.length_le
          rw [List.length_drop] at hrl
          have tmr : tooMany (r.length + 1) = false := tm_of (by omega)
          have cat : opCat (.lst [.int (l.getD i 0 : Nat)]) (.lst (r.map iD)) S1 = some ((l.getD i 0 :: r).map iD) := cat_one (l.getD i 0) r (by omega) S1
          refine ⟨_, rfl, rfl, ?_⟩
          unfold Le_chosen_1
          simp [wipe1, ix, tm1, cat, lD, -List.getD_eq_getElem?_getD])
        have hacc : chAcc l m (i + 1) = chAcc l m i ++ (Pn.choose (l.drop (i + 1)) m).map (l.getD i 0 :: ·) := by
          unfold chAcc
          rw [List.range_succ, List.flatMap_append]
          simp
        have hlen : (chAcc l m (i + 1)).length ≤ 2 ^ l.length := chAcc_len l m (i + 1) (by omega)
        have hpow : 2 ^ l.length ≤ 4096 := Nat.pow_le_pow_right (n := 2) (by decide) hl
        have ext : opExtend (.ref S.length) [.lst ((Pn.choose (l.drop (i + 1)) m).map fun r => lD (l.getD i 0 :: r))] S1 = some (.non, S ++ .lst ((chAcc l m (i + 1)).map lD) :: (T ++ T')) := by
          rw [hS1]
          have hm : ((Pn.choose (l.drop (i + 1)) m).map fun r => lD (l.getD i 0 :: r)) = ((Pn.choose (l.drop (i + 1)) m).map (l.getD i 0 :: ·)).map lD := by rw [List.map_map]; rfl
          rw [hm, hacc, List.map_append]
          refine ext_at _ _ _ _ ?_
          rw [← List.length_append, ← List.map_append, ← hacc, List.length_map]
          omega
        refine ⟨_, _, rfl, .inl ⟨[some (.lst (l.map iD)), some (.int ((m : Int) + 1)), some (.ref S.length), some (.int (i : Nat)), none], S ++ .lst ((chAcc l m (i + 1)).map lD) :: (T ++ T'), ?_, i + 1, _, T ++ T', hds, rfl, rfl, by omega⟩⟩
        unfold L_chosen_2
        have e1' : (m : Int) + 1 - 1 = (m : Int) := by omega
        simp [sl1, e1', e2, it1, ll, ext, -List.map_drop, -List.getD_eq_getElem?_getD])
      (rngD 0 l.length) [some (.lst (l.map iD)), some (.int ((m : Int) + 1)), some (.ref S.length), none, none] (S ++ [.lst []]) ⟨0, none, [], rfl, rfl, rfl, Nat.zero_le _⟩
    subst hd
    refine ⟨.ref S.length, .lst ((Pn.choose l (m + 1)).map lD) :: T, ?_, .inr ⟨_, rfl, by rw [List.getElem?_append_right (Nat.le_refl _)]; simp⟩⟩
    show fDef 5 (g_chosen (f_chosen fu)) _ _ = _
    unfold g_chosen
    have hc : chAcc l m l.length = Pn.choose l (m + 1) := rfl
    rw [hc] at e
    simp [tml, tml', tm0, ne0, e]
end
end K07

namespace K07
open PySem PySem.Spec L2 Fx Pn
/-! TB: widened, walked. -/
section
variable {pl : Str} {ws : List Wk} {s s0 : Pn.St} {n m : Nat} {A B : List Nat} {S : Sto} {i : Nat}
def stepsL (pl : Str) : List Nat := (List.range pl.length).filter fun i => decide ((TL.tl pl).getD i 0 = 115)
def servesB (pl : Str) (ws : List Wk) (l : List Nat) : Bool := canS (cap (wide pl l)) ws (begS ws)
def widL (pl : Str) (ws : List Wk) : Option (List Nat) := (cands (stepsL pl)).find? (servesB pl ws)
theorem stepsL_len (pl : Str) : (stepsL pl).length ≤ pl.length := by
  unfold stepsL
  exact Nat.le_trans (List.length_filter_le _ _) (by rw [List.length_range]; exact Nat.le_refl _)
theorem wid_one (G : GoodPlan pl ws) (hm : many ws (begS ws) ≤ 20000) (l : List Nat) (x1 x2 x4 x5 x6 : Option D) (S : Sto) :
    ∃ T, L_widened_3 [some (plD pl ws), x1, x2, some (lD l), x4, x5, x6] S = if servesB pl ws l = true then .rt (lD l) (S ++ T) else .nx [some (plD pl ws), x1, x2, some (lD l), some (plD (wide pl l) ws), x5, x6] (S ++ T) := by
  have GW := G.wide l
  have g := begS_leg GW
  have e1 : f_with_landings [plD pl ws, lD l] S = .ok (plD (wide pl l) ws) S := with_ok G.gp.len.2 l S
  have mk := mk_ok (pl := wide pl l) (ws := ws) S
  obtain ⟨S1, hS1⟩ : ∃ S1, S1 = S ++ [skF (wide pl l) ws (S.length + 1), .dn [] []] := ⟨_, rfl⟩
  rw [← hS1] at mk
  have e2 := begin_of_ok (pl := wide pl l) (ws := ws) S1
  have atn : S1[S.length]? = some (skF (wide pl l) ws (S.length + 1)) := by rw [hS1]; simp
  obtain ⟨L', e3, _⟩ := can_sk (n := S.length) (m := S.length + 1) (Nat.le_trans G.few (by decide)) GW g hm S1 atn (by omega) (by rw [hS1]; simp) 60 (begS ws) [] (tot_lt GW g) .refl ⟨List.nodup_nil, fun _ h => nomatch h⟩
  have es : ∀ o, S1.set (S.length + 1) o = S ++ [skF (wide pl l) ws (S.length + 1), o] := fun o => by
    rw [hS1, List.set_append_right _ _ (by omega)]
    simp
  have es0 : S1.set (S.length + 1) (dnO [] (cB (wide pl l) ws)) = S1 := by rw [es, hS1]; simp [dnO]
  rw [es0, es] at e3
  have ok0 := sk_okI (S := S1) (n := S.length) (m := S.length + 1) (pl := wide pl l) (ws := ws) atn "can" rfl
  refine ⟨[skF (wide pl l) ws (S.length + 1), dnO L' (cB (wide pl l) ws)], ?_⟩
  unfold L_widened_3
  cases hc : servesB pl ws l with
  | true =>
    have hcb : cB (wide pl l) ws (begS ws) = .bl true := congrArg D.bl hc
    rw [hcb] at e3
    simp [e1, mk, ok0, e2, e3, -insSr]
  | false =>
    have hcb : cB (wide pl l) ws (begS ws) = .bl false := congrArg D.bl hc
    rw [hcb] at e3
    simp [e1, mk, ok0, e2, e3, -insSr]
theorem wid_in (G : GoodPlan pl ws) (hm : many ws (begS ws) ≤ 20000) (x1 x2 x5 x6 : Option D) (ok : Sto → Bool) : ∀ (xs : List (List Nat)) (x3 x4 : Option D) (S : Sto), (∀ T, ok (S ++ T) = true) →
    ∃ T, (∃ F, xs.find? (servesB pl ws) = some F ∧ loopF (gNm 3) L_widened_3 ok (xs.map lD) [some (plD pl ws), x1, x2, x3, x4, x5, x6] S = .rt (lD F) (S ++ T)) ∨
      (xs.find? (servesB pl ws) = none ∧ ∃ y3 y4, loopF (gNm 3) L_widened_3 ok (xs.map lD) [some (plD pl ws), x1, x2, x3, x4, x5, x6] S = .nx [some (plD pl ws), x1, x2, y3, y4, x5, x6] (S ++ T))
  | [], x3, x4, S, hok => by
    have h0 := hok []
    rw [List.append_nil] at h0
    refine ⟨[], .inr ⟨rfl, x3, x4, ?_⟩⟩
    rw [List.append_nil]
    show (if ok S then (OutS.nx _ S) else .stuck) = _
    rw [if_pos h0]
  | l :: xs, x3, x4, S, hok => by
    have h0 := hok []
    rw [List.append_nil] at h0
    obtain ⟨T, e⟩ := wid_one G hm l x1 x2 x4 x5 x6 S
    rw [List.find?_cons, List.map_cons]
    unfold loopF
    rw [if_pos h0]
    have eg : gNm 3 (lD l) [some (plD pl ws), x1, x2, x3, x4, x5, x6] S = some ([some (plD pl ws), x1, x2, some (lD l), x4, x5, x6], S) := rfl
    rw [eg]
    dsimp only
    rw [e]
    cases hc : servesB pl ws l with
    | true => exact ⟨T, .inl ⟨l, rfl, rfl⟩⟩
    | false =>
      obtain ⟨T2, h⟩ := wid_in G hm x1 x2 x5 x6 ok xs (some (lD l)) (some (plD (wide pl l) ws)) (S ++ T) fun T' => by rw [List.append_assoc]; exact hok _
      refine ⟨T ++ T2, ?_⟩
      rw [← List.append_assoc]
      exact h
theorem wid_out (G : GoodPlan pl ws) (hm : many ws (begS ws) ≤ 20000) (x5 x6 : Option D) (l : List Nat) (hl : l.length ≤ 12) (ok : Sto → Bool) : ∀ (ms : List Nat) (x2 x3 x4 : Option D) (S : Sto), (∀ m ∈ ms, m < 16) → (∀ S, ok S = true) →
    ∃ T, (∃ F, (ms.flatMap (Pn.choose l)).find? (servesB pl ws) = some F ∧ loopF (gNm 2) L_widened_4 ok (ms.map iD) [some (plD pl ws), some (.lst (l.map iD)), x2, x3, x4, x5, x6] S = .rt (lD F) (S ++ T)) ∨
      ((ms.flatMap (Pn.choose l)).find? (servesB pl ws) = none ∧ ∃ y2 y3 y4, loopF (gNm 2) L_widened_4 ok (ms.map iD) [some (plD pl ws), some (.lst (l.map iD)), x2, x3, x4, x5, x6] S = .nx [some (plD pl ws), some (.lst (l.map iD)), y2, y3, y4, x5, x6] (S ++ T))
  | [], x2, x3, x4, S, _, hok => by
    refine ⟨[], .inr ⟨rfl, x2, x3, x4, ?_⟩⟩
    rw [List.append_nil]
    show (if ok S then (OutS.nx _ S) else .stuck) = _
    rw [if_pos (hok S)]
  | m :: ms, x2, x3, x4, S, hms, hok => by
    obtain ⟨d, T1, e1, sq⟩ := chosen_ok m 16 l S (hms m List.mem_cons_self) hl
    obtain ⟨lv, it1, it2⟩ := sq.it
    have hk : ∀ T, okLive ⟨(Pn.choose l m).map lD, lv⟩ (S ++ T1 ++ T) = true := fun T => by
      rcases sq with rfl | ⟨n, rfl, h⟩
      · have : itOf (.lst ((Pn.choose l m).map lD)) (S ++ T1) = some ⟨(Pn.choose l m).map lD, []⟩ := rfl
        rw [this] at it1
        injection it1 with it1
        injection it1 with _ it1
        rw [← it1]
        rfl
      · have := it_at h
        rw [this] at it1
        injection it1 with it1
        injection it1 with _ it1
        rw [← it1]
        exact live_at (app_at h)
    obtain ⟨T2, h⟩ := wid_in G hm (some (.lst (l.map iD))) (some (iD m)) x5 x6 (okLive ⟨(Pn.choose l m).map lD, lv⟩) (Pn.choose l m) x3 x4 (S ++ T1) hk
    have eL : L_widened_4 [some (plD pl ws), some (.lst (l.map iD)), some (iD m), x3, x4, x5, x6] S = loopF (gNm 3) L_widened_3 (okLive ⟨(Pn.choose l m).map lD, lv⟩) ((Pn.choose l m).map lD) [some (plD pl ws), some (.lst (l.map iD)), some (iD m), x3, x4, x5, x6] (S ++ T1) := by
      unfold L_widened_4
      simp [iD, e1, it1]
    rw [List.map_cons, List.flatMap_cons, List.find?_append]
    unfold loopF
    rw [if_pos (hok S)]
    have eg : gNm 2 (iD m) [some (plD pl ws), some (.lst (l.map iD)), x2, x3, x4, x5, x6] S = some ([some (plD pl ws), some (.lst (l.map iD)), some (iD m), x3, x4, x5, x6], S) := rfl
    rw [eg]
    dsimp only
    rw [eL]
    rcases h with ⟨F, h1, h2⟩ | ⟨h1, y3, y4, h2⟩
    · rw [h2, h1]
      exact ⟨T1 ++ T2, .inl ⟨F, rfl, by rw [List.append_assoc]⟩⟩
    · rw [h2, h1]
      dsimp only
      obtain ⟨T3, h3⟩ := wid_out G hm x5 x6 l hl ok ms (some (iD m)) y3 y4 (S ++ T1 ++ T2) (fun m hm => hms m (List.mem_cons_of_mem _ hm)) hok
      refine ⟨T1 ++ T2 ++ T3, ?_⟩
      rw [← List.append_assoc, ← List.append_assoc, Option.none_or]
      exact h3
theorem eq_s (c : Nat) : decide ((⟨#[c]⟩ : Str) = "s") = decide (c = 115) := by
  by_cases h : c = 115
  · subst h; decide
  · rw [decide_eq_false h]
    refine decide_eq_false fun e => h ?_
    have := congrArg TL.tl e
    have e2 : ([c] : List Nat) = [115] := this
    injection e2
theorem widened_ok (G : GoodPlan pl ws) (hm : many ws (begS ws) ≤ 20000) (S : Sto) : ∃ T, (∃ F, widL pl ws = some F ∧ f_widened [plD pl ws] S = .ok (lD F) (S ++ T)) ∨ (widL pl ws = none ∧ f_widened [plD pl ws] S = .exc ⟨X_NoWay, []⟩ (S ++ T)) := by
  obtain ⟨hl1, hl2⟩ := G.gp.len
  have np : f_need_plan [plD pl ws] S = .ok .non (S ++ [O.lst (ws.map bg)]) := need_plan_ok G S
  obtain ⟨S1, hS1⟩ : ∃ S1, S1 = S ++ [O.lst (ws.map bg)] := ⟨_, rfl⟩
  rw [← hS1] at np
  have bo := begin_of_ok (pl := pl) (ws := ws) S1
  have nf := need_few_ok (pl := pl) hm S1
  have e3' : tooMany pl.cps.size = false := tm_of (by have : pl.cps.size = pl.length := rfl; omega)
  have src : srcD (.str pl) S1 = some (signs pl, []) := by
    show (if tooMany pl.cps.size then none else some (signs pl, [])) = _
    rw [e3']
    rfl
  have hsl := stepsL_len pl
  obtain ⟨S', l1, hS'⟩ := lcF_filt (own := [5, 6]) (g := gTp 2 (gNs [5, 6])) (tt := Lt_widened_1) (te := Le_widened_2) (ok := okLive ⟨enumD (signs pl), []⟩) (σ := [some (plD pl ws), none, none, none, none, none, none]) (List.range pl.length) (fun i => D.tup [iD i, .str ⟨#[(TL.tl pl).getD i 0]⟩]) iD (fun i => decide ((TL.tl pl).getD i 0 = 115)) (fun S' => S' = S1) (fun _ _ => rfl) (by
    rintro i hi S' rfl
    have e := eq_s ((TL.tl pl).getD i 0)
    refine ⟨[some (plD pl ws), none, none, none, none, some (iD i), some (.str ⟨#[(TL.tl pl).getD i 0]⟩)], rfl, _, ?_, rfl, fun _ => ?_⟩
    · simp [Lt_widened_1, e, -List.getD_eq_getElem?_getD]
    · simp [Le_widened_2]) S1 rfl
  rw [← enum_signs, hS'] at l1
  have l1' : lcF [5, 6] (gTp 2 (gNs [5, 6])) Lt_widened_1 Le_widened_2 (okLive ⟨enumD (signs pl), []⟩) (enumD (signs pl)) [some (plD pl ws), none, none, none, none, none, none] S1 = .ok ((stepsL pl).map iD) S1 := l1
  obtain ⟨T, h⟩ := wid_out G hm none none (stepsL pl) (by omega) (okLive ⟨rngD 0 ((stepsL pl).length + 1), []⟩) (List.range ((stepsL pl).length + 1)) none none none S1 (fun m hm => by rw [List.mem_range] at hm; omega) (fun _ => rfl)
  have er : (List.range ((stepsL pl).length + 1)).map iD = rngD 0 ((stepsL pl).length + 1) := (rngD0 _).symm
  rw [er] at h
  have tm1 : tooMany ((stepsL pl).length : Int).natAbs = false := tm_of (by omega)
  have tm2 : tooMany (((stepsL pl).length : Int) + 1).natAbs = false := tm_of (by omega)
  have tm3 : tooMany (stepsL pl).length = false := tm_of (by omega)
  have tn : (((stepsL pl).length : Int) + 1).toNat = (stepsL pl).length + 1 := by omega
  refine ⟨O.lst (ws.map bg) :: T, ?_⟩
  have eS : S1 ++ T = S ++ O.lst (ws.map bg) :: T := by rw [hS1, List.append_assoc]; rfl
  rw [eS] at h
  rcases h with ⟨F, h1, h2⟩ | ⟨h1, y2, y3, y4, h2⟩
  · refine .inl ⟨F, h1, ?_⟩
    unfold f_widened g_widened
    simp [np, bo, nf, src, l1', tm1, tm2, tm3, tn, h2]
  · refine .inr ⟨h1, ?_⟩
    unfold f_widened g_widened
    simp [np, bo, nf, src, l1', tm1, tm2, tm3, tn, h2]
end
end K07

namespace K07
open PySem PySem.Spec L2 Fx Pn
section
variable {pl : Str} {ws : List Wk} {s s0 : Pn.St} {n m : Nat} {L : List Pn.St} {S : Sto} {i : Nat} {w : Wk} {o : Option Nat}
/-! ### the law's own goings on -/
theorem l_next_ok (g : Leg (cap pl) ws s) (h1 : ws[i]? = some w) (h2 : s[i]? = some o) (S : Sto) : f__law_next [plD pl ws, stD s, .int (i : Nat)] S = .ok (nxD w o) S := by
  unfold f__law_next g__law_next
  have e1 := at_map (f := wk) h1
  have e2 := st_ix h2
  have e3 : opSl (.tup [.int (w.1 : Nat), .int (w.2.1 : Nat), .int (w.2.2 : Nat)]) none (some 2) S = some (.tup [.int (w.1 : Nat), .int (w.2.1 : Nat)]) := rfl
  cases o with
  | none => simp [e1, wk_def, e3, e2, oD, nxD]
  | some p =>
    have e4 := nx_int (g.way i w p h1 h2)
    by_cases c : w.1 < w.2.1
    · rw [if_pos c] at e4
      have c2 : ((w.2.1 : Nat) : Int) > ((w.1 : Nat) : Int) := by omega
      simp [e1, wk_def, e3, e2, oD, nxD, e4, c]
    · rw [if_neg c] at e4
      simp [e1, wk_def, e3, e2, oD, nxD, e4, c]
theorem l_may_ok (G : GoodPlan pl ws) (g : Leg (cap pl) ws s) (hi : i < s.length) (S : Sto) : f__law_may [plD pl ws, stD s, .int (i : Nat)] S = .ok (.bl (may (cap pl) ws s i)) S := by
  have h2 : s[i]? = some s[i] := List.getElem?_eq_getElem hi
  have hi' : i < ws.length := by rw [← g.len]; exact hi
  have h1 : ws[i]? = some ws[i] := List.getElem?_eq_getElem hi'
  generalize ws[i] = w at h1
  generalize s[i] = o at h2
  have e1 := l_next_ok g h1 h2 S
  unfold f__law_may g__law_may
  cases o with
  | none =>
    have e2 : may (cap pl) ws s i = false := by unfold may; rw [h1, h2]
    simp [e1, nxD, e2]
  | some p =>
    have e2 : may (cap pl) ws s i = decide (s.count (some (nx w p)) < cap pl (nx w p)) := by unfold may; rw [h1, h2]
    have hlt := nx_lt G g h1 h2
    obtain ⟨hl1, hl2⟩ := G.gp.len
    have tp : tooMany pl.length = false := tm_of (by omega)
    have e3 : ∀ S, opList [stD s] S = some (s.map oD) := fun _ => rfl
    have e4 : opCntL (.lst (s.map oD)) [.int (nx w p : Nat)] S = some (.int (s.count (some (nx w p)) : Nat), S) := st_cnt s (nx w p) S
    obtain ⟨sg, es, hs⟩ := G.gp.sign hlt
    have e5 := atI_n es
    have ecap : cap pl (nx w p) = if sg = 108 then 2 else 1 := by
      unfold cap
      rw [es]
      simp
    by_cases c : sg = 108
    · rw [if_pos c] at ecap
      have hh : (decide ((s.count (some (nx w p)) : Int) < 1 + 1)) = decide (s.count (some (nx w p)) < 2) := by rw [decide_eq_decide]; omega
      simp [e1, nxD, e2, e3, e4, tp, e5, sign_l, ecap, c, -Int.reduceAdd]
      omega
    · rw [if_neg c] at ecap
      have hh : (decide ((s.count (some (nx w p)) : Int) < 1 + 0)) = decide (s.count (some (nx w p)) < 1) := by rw [decide_eq_decide]; omega
      simp [e1, nxD, e2, e3, e4, tp, e5, sign_l, ecap, c, -Int.reduceAdd, -Int.add_zero]
      omega
theorem l_gone_ok {p : Nat} (g : Leg (cap pl) ws s) (h1 : ws[i]? = some w) (h2 : s[i]? = some (some p)) (S : Sto) : ∃ T, f__law_gone [plD pl ws, stD s, .int (i : Nat)] S = .ok (stD (go ws s i)) (S ++ T) := by
  have hi := (List.getElem?_eq_some_iff.mp h2).1
  have e1 := l_next_ok g h1 h2 (S ++ [.lst (s.map oD)])
  have e2 := at_map (f := wk) h1
  have e3 : go ws s i = s.set i (bp w p) := by unfold go; rw [h1, h2]
  have e4 : ∀ S, opList [stD s] S = some (s.map oD) := fun _ => rfl
  have e5 : ∀ x, opSetL (.ref S.length) (.int (i : Nat)) (oD x) (S ++ [.lst (s.map oD)]) = some (S ++ [.lst ((s.set i x).map oD)]) := by
    intro x
    unfold opSetL
    have hl : (S ++ [O.lst (s.map oD)])[S.length]? = some (.lst (s.map oD)) := by simp
    have hix : L2.ixN (s.map oD).length (i : Int) = some i := by
      unfold L2.ixN
      have q1 : (0 : Int) ≤ (i : Int) := Int.natCast_nonneg i
      have q2 : (i : Int) < (((s.map oD).length : Nat) : Int) := by rw [List.length_map]; omega
      rw [if_pos q1, if_pos q2]
      rfl
    rw [lstOr, hl]
    dsimp only
    rw [hix]
    dsimp only
    rw [List.set_append_right _ _ (Nat.le_refl _), List.map_set]
    simp
  refine ⟨[.lst ((s.set i (bp w p)).map oD)], ?_⟩
  have e6 : ∀ x, tupleD (.ref S.length) (S ++ [.lst ((s.set i x).map oD)]) = some (stD (s.set i x)) := by
    intro x
    show (seqL (.ref S.length) _).map D.tup = _
    rw [seqLr]
    simp [stD]
  unfold f__law_gone g__law_gone
  by_cases hn : nx w p = w.2.1
  · have hb : bp w p = none := by unfold bp; rw [if_pos hn]
    have hn2 : ((nx w p : Nat) : Int) = (w.2.1 : Int) := by omega
    have e5' := e5 none
    rw [show oD none = .non from rfl] at e5'
    rw [e3, hb]
    simp [e4, e1, nxD, e2, wk_def, wk1, hn2, e5', e6, -List.map_set]
  · have hb : bp w p = some (nx w p) := by unfold bp; rw [if_neg hn]
    have hn2 : ¬ ((nx w p : Nat) : Int) = (w.2.1 : Int) := by omega
    have e5' := e5 (some (nx w p))
    rw [show oD (some (nx w p)) = .int (nx w p : Nat) from rfl] at e5'
    rw [e3, hb]
    simp [e4, e1, nxD, e2, wk_def, wk1, hn2, e5', e6, -List.map_set]
theorem gone_bx {p : Nat} (g : Leg (cap pl) ws s) (h1 : ws[i]? = some w) (h2 : s[i]? = some (some p)) (ns : List Int) (z : Int) (R : Sto) : ∃ T, f__law_gone [plD pl ws, stD s, .int (i : Nat)] (bx ns z R) = .ok (stD (go ws s i)) (bx ns z (R ++ T)) := l_gone_ok g h1 h2 (bx ns z R)
end
end K07

namespace K07
open PySem PySem.Spec L2 Fx Pn
section
variable {pl : Str} {ws : List Wk} {s s0 : Pn.St} {n m : Nat} {L : List Pn.St} {S : Sto}
theorem st_nice : ∀ A : List Pn.St, niceA (A.map stD) = true ∧ depA (A.map stD) ≤ 1
  | [] => ⟨rfl, Nat.zero_le _⟩
  | s :: A => by
    obtain ⟨h1, h2⟩ := st_nice A
    have k : ∀ s : Pn.St, niceA (s.map oD) = true ∧ depA (s.map oD) = 0 := by
      intro s
      induction s with
      | nil => exact ⟨rfl, rfl⟩
      | cons o s ih =>
        rw [List.map_cons, niceA, depA, ih.1, ih.2]
        cases o <;> exact ⟨rfl, rfl⟩
    refine ⟨?_, ?_⟩
    · rw [List.map_cons, niceA, h1]
      show (niceA (s.map oD) && true) = true
      rw [(k s).1]
      rfl
    · rw [List.map_cons, depA]
      have : dep (stD s) = 1 := by show depA (s.map oD) + 1 = 1; rw [(k s).2]
      omega
theorem ne_nil_st {A : List Pn.St} (h : S[n]? = some (.lst (A.map stD))) : opNe (.ref n) (.lst []) S = some (.bl (!A.isEmpty)) := by
  have e1 : derefL S (.ref n) = .lst (A.map stD) := by unfold derefL; dsimp only; rw [h]
  have e2 : derefL S (.lst []) = .lst [] := rfl
  obtain ⟨h1, h2⟩ := st_nice A
  show (eqDeep (.ref n) (.lst []) S).map _ = _
  rw [eqDeep_nice (by rw [e1]; exact h1) rfl (by rw [e1]; show depA _ + 1 ≤ 64; omega) (by rw [e2]; decide), e1, e2]
  cases A with
  | nil => rfl
  | cons n ns =>
    show some (D.bl (!decide _)) = _
    rw [decide_eq_false (by simp)]
    rfl
/-- the store while they are sought -/
abbrev rx (S : Sto) (F A : List Pn.St) : Sto := S ++ [dnO F fun _ => .bl true, .lst (A.map stD)]
theorem rx_f (S : Sto) (F A : List Pn.St) : (rx S F A)[S.length]? = some (dnO F fun _ => .bl true) := by simp [rx]
theorem rx_a (S : Sto) (F A : List Pn.St) : (rx S F A)[S.length + 1]? = some (.lst (A.map stD)) := by simp [rx]
theorem rx_n (S : Sto) (F A : List Pn.St) (h : n < S.length) : (rx S F A)[n]? = S[n]? := by
  unfold rx
  rw [List.getElem?_append_left h]
theorem rx_setf (S : Sto) (F A F' : List Pn.St) : (rx S F A).set S.length (dnO F' fun _ => .bl true) = rx S F' A := by
  unfold rx
  rw [List.set_append_right _ _ (Nat.le_refl _)]
  simp
theorem rx_seta (S : Sto) (F A A' : List Pn.St) : (rx S F A).set (S.length + 1) (.lst (A'.map stD)) = rx S F A' := by
  unfold rx
  rw [List.set_append_right _ _ (by omega)]
  simp
theorem rx_pop (S : Sto) (F A : List Pn.St) (t : Pn.St) : opPop (.ref (S.length + 1)) [] (rx S F (A ++ [t])) = some (stD t, rx S F A) := by
  unfold opPop
  rw [lstOr, rx_a]
  have h1 : ((A ++ [t]).map stD)[((A ++ [t]).map stD).length - 1]? = some (stD t) := by simp
  have h2 : ((A ++ [t]).map stD).dropLast = A.map stD := by simp
  dsimp only
  rw [h1]
  dsimp only
  rw [h2, rx_seta]
theorem rx_app (S : Sto) (F A : List Pn.St) (t : Pn.St) (h : A.length < 100000) : opAppend (.ref (S.length + 1)) [stD t] (rx S F A) = some (.non, rx S F (A ++ [t])) := by
  unfold opAppend
  rw [lstOr, rx_a]
  dsimp only
  rw [if_pos (few_of (by rw [List.length_map]; exact h))]
  have : A.map stD ++ [stD t] = (A ++ [t]).map stD := by simp
  rw [this, rx_seta]
abbrev slR (n : Nat) (S : Sto) (s0 : Pn.St) (x : Option D) : Sl := [some (.ref n), some (stD s0), some (.ref S.length), some (.ref (S.length + 1)), x]
end
end K07

namespace K07
open PySem PySem.Spec L2 Fx Pn
/-- a loop over a range -/
theorem loop_up {gi : Nat} {b : FS} {ok : Sto → Bool} (n : Nat) (J : Nat → Sl → Sto → Prop) (h0 : ∀ k σ S, J k σ S → ok S = true) (h : ∀ k, k < n → ∀ σ S, J k σ S → ∃ σ' S', b (σ.set gi (some (.int (k : Nat)))) S = .nx σ' S' ∧ J (k + 1) σ' S') :
    ∀ σ S, J 0 σ S → ∃ σ' S', loopF (gNm gi) b ok (rngD 0 n) σ S = .nx σ' S' ∧ J n σ' S' := by
  intro σ S hJ
  refine loopF_inv (fun ds σ S => ∃ k, k ≤ n ∧ ds = (rngD 0 n).drop k ∧ J k σ S) (fun σ S => J n σ S) (fun ds σ S ⟨k, _, _, hk⟩ => h0 k σ S hk) ?_ ?_ (rngD 0 n) σ S ⟨0, Nat.zero_le _, by rw [List.drop_zero], hJ⟩
  · rintro σ S ⟨k, hk, hd, hJ⟩
    have : n ≤ k := by
      have := congrArg List.length hd
      rw [rngD0] at this
      simp at this
      omega
    have : k = n := by omega
    subst this
    exact hJ
  · rintro d ds σ S ⟨k, hk, hd, hJ⟩
    have hk2 : k < n := by
      rcases Nat.lt_or_ge k n with h | h
      · exact h
      · rw [List.drop_of_length_le (by rw [rngD0]; simpa using h)] at hd
        cases hd
    have hl : k < (rngD 0 n).length := by rw [rngD0]; simpa using hk2
    rw [List.drop_eq_getElem_cons hl] at hd
    obtain ⟨rfl, rfl⟩ := List.cons.inj hd
    have hg : (rngD 0 n)[k] = .int (k : Nat) := by simp [rngD0]
    obtain ⟨σ', S', e1, e2⟩ := h k hk2 σ S hJ
    exact ⟨_, S, rfl, .inl ⟨σ', S', by rw [hg]; exact e1, k + 1, hk2, rfl, e2⟩⟩
section
variable {pl : Str} {ws : List Wk} {s s0 : Pn.St} {n m : Nat} {L : List Pn.St} {S : Sto} {i : Nat} {w : Wk} {o : Option Nat}
/-! ### how many places are left -/
theorem tot_take : ∀ (ws : List Wk) (s : Pn.St) (k : Nat) (w : Wk) (o : Option Nat), ws[k]? = some w → s[k]? = some o → tot (ws.take (k + 1)) (s.take (k + 1)) = tot (ws.take k) (s.take k) + lf w o
  | [], _, _, _, _, h, _ => by simp at h
  | _ :: _, [], _, _, _, _, h => by simp at h
  | v :: ws, x :: s, 0, w, o, h1, h2 => by
    simp at h1 h2
    subst h1 h2
    simp [tot]
  | v :: ws, x :: s, k + 1, w, o, h1, h2 => by
    have := tot_take ws s k w o (by simpa using h1) (by simpa using h2)
    simp only [List.take_succ_cons, tot] at this ⊢
    omega
theorem l_left_ok (g : Leg (cap pl) ws s) (hl : s.length ≤ 5) (S : Sto) : f__law_left [plD pl ws, stD s] S = .ok (.int (tot ws s : Nat)) S := by
  have key := loop_up (gi := 3) (b := L__law_left_1) (ok := okLive ⟨rngD 0 s.length, []⟩) s.length
    (fun k σ S' => ∃ x, σ = [some (plD pl ws), some (stD s), some (.int (tot (ws.take k) (s.take k) : Nat)), x] ∧ S' = S) (fun _ _ _ _ => rfl)
    (by
      rintro k hk σ S' ⟨x, rfl, rfl⟩
      have h2 : s[k]? = some s[k] := List.getElem?_eq_getElem hk
      have hk' : k < ws.length := by rw [← g.len]; exact hk
      have h1 : ws[k]? = some ws[k] := List.getElem?_eq_getElem hk'
      generalize ws[k] = w at h1
      generalize s[k] = o at h2
      have e0 := tot_take ws s k w o h1 h2
      have e1 := at_map (f := wk) h1
      have e2 := fun S => st_ix h2 S
      refine ⟨_, S', ?_, some (.int (k : Nat)), rfl, rfl⟩
      rw [e0]
      unfold L__law_left_1
      cases o with
      | none => simp [e2, oD, lf]
      | some p =>
        have e3 : (if ((w.2.1 : Nat) : Int) - (p : Int) < 0 then -(((w.2.1 : Nat) : Int) - (p : Int)) else ((w.2.1 : Nat) : Int) - (p : Int)) = ((lf w (some p) : Nat) : Int) := by
          simp only [lf]
          split <;> omega
        have e4 : opAbs [.int (((w.2.1 : Nat) : Int) - (p : Int))] S' = some (.int ((lf w (some p) : Nat) : Int)) := by
          show some (D.int _) = _
          rw [e3]
        simp [e1, e2, oD, wk_def, wk1, e4])
    [some (plD pl ws), some (stD s), some (.int (0 : Nat)), none] S ⟨none, rfl, rfl⟩
  obtain ⟨σ', S', e, x, rfl, rfl⟩ := key
  have ht : tot (ws.take s.length) (s.take s.length) = tot ws s := by
    rw [List.take_of_length_le (by rw [g.len]; exact Nat.le_refl _), List.take_of_length_le (Nat.le_refl _)]
  rw [ht] at e
  have e : loopF (gNm 3) L__law_left_1 (okLive ⟨rngD 0 s.length, []⟩) (rngD 0 s.length) [some (plD pl ws), some (stD s), some (.int 0), none] S' = .nx [some (plD pl ws), some (stD s), some (.int (tot ws s : Nat)), x] S' := e
  have tm : tooMany s.length = false := tm_of (by omega)
  unfold f__law_left g__law_left
  simp [tm, e]
theorem isIn_tot (g : Leg (cap pl) ws s) : isIn s = decide (tot ws s = 0) := by
  have key : ∀ (ws : List Wk) (s : Pn.St), s.length = ws.length → (∀ (i : Nat) (w : Wk) (p : Nat), ws[i]? = some w → s[i]? = some (some p) → onWay w p) → isIn s = decide (tot ws s = 0) := by
    intro ws
    induction ws with
    | nil =>
      intro s hl _
      cases s with
      | nil => rfl
      | cons _ _ => cases hl
    | cons w ws ih =>
      intro s hl hw
      cases s with
      | nil => cases hl
      | cons o s =>
        have h1 := ih s (by simpa using hl) fun i w p a b => hw (i + 1) w p (by simpa using a) (by simpa using b)
        unfold isIn at h1 ⊢
        rw [List.all_cons, h1, tot]
        cases o with
        | none => simp [lf]
        | some p =>
          have := hw 0 w p rfl rfl
          unfold onWay at this
          have h3 : 0 < lf w (some p) := by simp only [lf]; omega
          have h4 : ¬ lf w (some p) + tot ws s = 0 := by omega
          rw [decide_eq_false h4]
          rfl
  exact key ws s g.len g.way
/-! ### all that can be come to -/
def laV (pl : Str) (ws : List Wk) (s : Pn.St) : D := .lst ((laters (cap pl) ws s).map stD)
abbrev ry (pl : Str) (ws : List Wk) (S : Sto) (F A : List Pn.St) (T : Sto) : Sto := S ++ (dnO F (laV pl ws) :: .lst (A.map stD) :: T)
theorem ry_f (F A : List Pn.St) (T : Sto) : (ry pl ws S F A T)[S.length]? = some (dnO F (laV pl ws)) := by simp [ry]
theorem ry_a (F A : List Pn.St) (T : Sto) : (ry pl ws S F A T)[S.length + 1]? = some (.lst (A.map stD)) := by simp [ry]
theorem ry_setf (F A F' : List Pn.St) (T : Sto) : (ry pl ws S F A T).set S.length (dnO F' (laV pl ws)) = ry pl ws S F' A T := by
  unfold ry
  rw [List.set_append_right _ _ (Nat.le_refl _)]
  simp
theorem ry_seta (F A A' : List Pn.St) (T : Sto) : (ry pl ws S F A T).set (S.length + 1) (.lst (A'.map stD)) = ry pl ws S F A' T := by
  unfold ry
  rw [List.set_append_right _ _ (by omega)]
  simp
theorem ry_pop (F A : List Pn.St) (T : Sto) (t : Pn.St) : opPop (.ref (S.length + 1)) [] (ry pl ws S F (A ++ [t]) T) = some (stD t, ry pl ws S F A T) := by
  unfold opPop
  rw [lstOr, ry_a]
  have h1 : ((A ++ [t]).map stD)[((A ++ [t]).map stD).length - 1]? = some (stD t) := by simp
  have h2 : ((A ++ [t]).map stD).dropLast = A.map stD := by simp
  dsimp only
  rw [h1]
  dsimp only
  rw [h2, ry_seta]
theorem ry_ext (F A B : List Pn.St) (T : Sto) (h : A.length + B.length < 100000) : opExtend (.ref (S.length + 1)) [.lst (B.map stD)] (ry pl ws S F A T) = some (.non, ry pl ws S F (A ++ B) T) := by
  have h2 : tooMany ((A.map stD).length + (B.map stD).length) = false := tm_of (by simp; omega)
  have h3 : A.map stD ++ B.map stD = (A ++ B).map stD := by simp
  unfold opExtend
  rw [lstOr, ry_a]
  show (if tooMany ((A.map stD).length + (B.map stD).length) then none else some (D.non, (ry pl ws S F A T).set (S.length + 1) (.lst (A.map stD ++ B.map stD)))) = _
  rw [h2, h3, ry_seta]
  rfl
theorem laters_len (g : Leg (cap pl) ws s) : (laters (cap pl) ws s).length ≤ ws.length := by
  unfold laters mays
  rw [List.length_map, ← g.len]
  exact Nat.le_trans (List.length_filter_le _ _) (by rw [List.length_range]; exact Nat.le_refl _)
abbrev slY (pl : Str) (ws : List Wk) (S : Sto) (s0 : Pn.St) (x y z : Option D) : Sl := [some (plD pl ws), some (stD s0), some (.ref S.length), some (.ref (S.length + 1)), x, y, z]
theorem reach_step (G : GoodPlan pl ws) (t : Pn.St) (gt : Leg (cap pl) ws t) (F A : List Pn.St) (T : Sto) (hF : F.length < 20000) (hA : A.length < 99000) (x y z : Option D) (s0 : Pn.St) :
    ∃ x' y' z' T', L__law_reach_4 (slY pl ws S s0 x y z) (ry pl ws S F (A ++ [t]) T) = .nx (slY pl ws S s0 x' y' z') (ry pl ws S (insL t F) (if t ∈ F then A else A ++ laters (cap pl) ws t) T') := by
  have e2 := ry_pop (pl := pl) (ws := ws) (S := S) F A T t
  have ls : (seqL (.ref (S.length + 1)) (ry pl ws S F (A ++ [t]) T)).isSome = true := by rw [seqLr, ry_a]; rfl
  have e1 := dn_in (ry_f (pl := pl) (ws := ws) (S := S) F A T) true t
  by_cases hin : t ∈ F
  · rw [decide_eq_true hin] at e1
    have ei : insL t F = F := if_pos hin
    refine ⟨some (stD t), y, z, T, ?_⟩
    rw [ei, if_pos hin]
    unfold L__law_reach_4
    simp [ls, e2, e1, -seqLr, -List.map_append]
  · rw [decide_eq_false hin] at e1
    have hln : t.length ≤ 5 := by rw [gt.len]; exact G.few
    have tm : tooMany t.length = false := tm_of (by omega)
    have l1 := mays_lc (pl := pl) (ws := ws) (s := t) (S := ry pl ws S F A T) (own := [6]) (gg := gNm 6) (tt := Lt__law_reach_1) (te := Le__law_reach_2) (σ := slY pl ws S s0 (some (stD t)) y z) (by
      intro k hk
      have e := l_may_ok G gt hk (ry pl ws S F A T)
      refine ⟨_, rfl, ?_, ?_⟩
      · simp [Lt__law_reach_1, wipe1, iD, e]
      · simp [Le__law_reach_2, wipe1, iD])
    obtain ⟨B, hB⟩ : ∃ B, B = ry pl ws S F A T := ⟨_, rfl⟩
    obtain ⟨T1, l2⟩ := lcF_grow (own := [6]) (g := gNm 6) (tt := fYes) (te := Le__law_reach_3) (ok := okLive ⟨(mays (cap pl) ws t).map iD, []⟩) (σ := slY pl ws S s0 (some (stD t)) (some (.lst ((mays (cap pl) ws t).map iD))) z)
      (mays (cap pl) ws t) iD (fun k => stD (go ws t k)) B (fun _ => rfl) (by
        intro k hk T2
        obtain ⟨w, p, h1, h2⟩ := mays_go hk
        obtain ⟨T3, e⟩ := l_gone_ok gt h1 h2 (B ++ T2)
        refine ⟨_, rfl, rfl, T2 ++ T3, ?_⟩
        rw [← List.append_assoc]
        simp only [Le__law_reach_3, wipe1, iD] at e ⊢
        simp [e])
    rw [hB] at l2
    have hT : ry pl ws S F A T ++ T1 = ry pl ws S F A (T ++ T1) := by simp [ry]
    rw [hT] at l2
    have hla : (mays (cap pl) ws t).map (fun k => stD (go ws t k)) = (laters (cap pl) ws t).map stD := by unfold laters; rw [List.map_map]; rfl
    rw [hla] at l2
    have e3 := dn_set (v := laV pl ws) (ry_f (pl := pl) (ws := ws) (S := S) F A (T ++ T1)) (by omega) t
    rw [ry_setf] at e3
    have hmem : t ∈ insL t F := mem_insL.mpr (.inr rfl)
    have e4 := dn_ix (v := laV pl ws) (ry_f (pl := pl) (ws := ws) (S := S) (insL t F) A (T ++ T1)) hmem
    have hll := laters_len gt
    have hfew := G.few
    have e5 := ry_ext (pl := pl) (ws := ws) (S := S) (insL t F) A (laters (cap pl) ws t) (T ++ T1) (by omega)
    have it1 : ∀ S, itOf (.lst ((mays (cap pl) ws t).map iD)) S = some ⟨(mays (cap pl) ws t).map iD, []⟩ := fun _ => rfl
    have ls2 : (seqL (.ref (S.length + 1)) (ry pl ws S (insL t F) A (T ++ T1))).isSome = true := by rw [seqLr, ry_a]; rfl
    refine ⟨some (stD t), some (.lst ((mays (cap pl) ws t).map iD)), z, T ++ T1, ?_⟩
    rw [if_neg hin]
    unfold laV at e3 e4
    unfold L__law_reach_4
    simp [ls, ls2, e2, e1, tm, l1, it1, l2, e3, e4, e5, -seqLr, -List.map_append]
theorem l_reach_ok (G : GoodPlan pl ws) (g0 : Leg (cap pl) ws s0) (hm : many ws s0 ≤ 15000) (S : Sto) :
    ∃ F T, f__law_reach [plD pl ws, stD s0] S = .ok (.ref S.length) (ry pl ws S F [] T) ∧ Kn pl ws s0 F ∧ ∀ s, Bh (cap pl) ws s0 s → s ∈ F := by
  have h0 := while_inv (t := Lw__law_reach_5) (b := L__law_reach_4)
    (fun k σ S' => ∃ (F A : List Pn.St) (T : Sto) (x y z : Option D), σ = slY pl ws S s0 x y z ∧ S' = ry pl ws S F A T ∧ Kn pl ws s0 F ∧ (∀ u ∈ A, Bh (cap pl) ws s0 u) ∧ (s0 ∈ F ∨ s0 ∈ A) ∧ (∀ u ∈ F, ∀ v ∈ laters (cap pl) ws u, v ∈ F ∨ v ∈ A) ∧ A.length + 5 * (15000 - F.length) ≤ k ∧ k ≤ 80000)
    (fun o => ∃ (F : List Pn.St) (T : Sto) (x y z : Option D), o = .nx (slY pl ws S s0 x y z) (ry pl ws S F [] T) ∧ Kn pl ws s0 F ∧ s0 ∈ F ∧ (∀ u ∈ F, ∀ v ∈ laters (cap pl) ws u, v ∈ F))
    (by
      rintro k σ S' ⟨F, A, T, x, y, z, rfl, rfl, h4, h5, h6, h7, h8, h9⟩
      have lF : F.length ≤ 15000 := Nat.le_trans (bh_many g0 h4.nd h4.bh) hm
      have e1 := ne_nil_st (ry_a (pl := pl) (ws := ws) (S := S) F A T)
      rcases List.eq_nil_or_concat A with rfl | ⟨A', t, rfl⟩
      · refine .inl ⟨ry pl ws S F [] T, ?_, F, T, x, y, z, rfl, h4, h6.resolve_right (by simp), fun u hu v hv => (h7 u hu v hv).resolve_right (by simp)⟩
        unfold Lw__law_reach_5
        have tm0 : tooMany 0 = false := rfl
        simp [e1, tm0]
      · rw [List.concat_eq_append] at *
        rw [List.length_append, List.length_singleton] at h8
        refine .inr ⟨ry pl ws S F (A' ++ [t]) T, ?_, .inl ?_⟩
        · unfold Lw__law_reach_5
          have tm0 : tooMany 0 = false := rfl
          have ie : (A' ++ [t]).isEmpty = false := by simp
          rw [ie] at e1
          simp [e1, tm0, -List.map_append]
        · have hbt := h5 t (by simp)
          have gt := g0.bh hbt
          obtain ⟨x', y', z', T', e⟩ := reach_step (S := S) G t gt F A' T (by omega) (by omega) x y z s0
          refine ⟨k - 1, _, _, by omega, e, insL t F, _, T', x', y', z', rfl, rfl, h4.ins hbt, ?_, ?_, ?_, ?_, by omega⟩
          · intro u hu
            split at hu
            · exact h5 u (by simp [hu])
            · rcases List.mem_append.mp hu with hu | hu
              · exact h5 u (by simp [hu])
              · obtain ⟨i, hi1, hi2⟩ := mem_laters.mp hu
                rw [hi2]
                exact .step hbt hi1
          · rcases h6 with h | h
            · exact .inl (mem_insL.mpr (.inl h))
            · rcases List.mem_append.mp h with h | h
              · right
                split
                · exact h
                · exact List.mem_append_left _ h
              · left
                rw [List.mem_singleton.mp h]
                exact mem_insL.mpr (.inr rfl)
          · intro u hu v hv
            have old : u ∈ F → v ∈ insL t F ∨ v ∈ (if t ∈ F then A' else A' ++ laters (cap pl) ws t) := fun hu => by
              rcases h7 u hu v hv with h | h
              · exact .inl (mem_insL.mpr (.inl h))
              · rcases List.mem_append.mp h with h | h
                · right
                  split
                  · exact h
                  · exact List.mem_append_left _ h
                · left
                  rw [List.mem_singleton.mp h]
                  exact mem_insL.mpr (.inr rfl)
            rcases mem_insL.mp hu with hu | hu
            · exact old hu
            · by_cases hin : t ∈ F
              · exact old (hu ▸ hin)
              · right
                rw [if_neg hin]
                subst hu
                exact List.mem_append_right _ hv
          · by_cases hin : t ∈ F
            · rw [if_pos hin, show insL t F = F from if_pos hin]
              omega
            · have hl := laters_len gt
              have hf := G.few
              have lF2 : (F ++ [t]).length ≤ 15000 := by
                have k2 := h4.ins hbt
                rw [show insL t F = F ++ [t] from if_neg hin] at k2
                exact Nat.le_trans (bh_many g0 k2.nd k2.bh) hm
              rw [if_neg hin, show insL t F = F ++ [t] from if_neg hin]
              rw [List.length_append, List.length_singleton] at lF2
              rw [List.length_append, List.length_append, List.length_singleton]
              omega) 100000 75001 (slY pl ws S s0 none none none) (ry pl ws S [] [s0] []) (by decide) ⟨[], [s0], [], none, none, none, rfl, rfl, ⟨List.nodup_nil, (fun u hu => nomatch hu)⟩, (fun u hu => by rw [List.mem_singleton.mp hu]; exact .refl), .inr (by simp), (fun u hu => nomatch hu), (by simp), (by omega)⟩
  obtain ⟨F, T, x, y, z, e, k4, k6, k7⟩ := h0
  refine ⟨F, T, ?_, k4, fun s hs => ?_⟩
  · have e' : sWhile Lw__law_reach_5 L__law_reach_4 100000 [some (plD pl ws), some (stD s0), some (.ref S.length), some (.ref (S.length + 1)), none, none, none] (S ++ [.dn [] [], .lst [stD s0]]) = .nx (slY pl ws S s0 x y z) (ry pl ws S F [] T) := e
    have tm1 : tooMany 1 = false := rfl
    unfold f__law_reach g__law_reach
    simp [tm1, e']
  · induction hs with
    | refl => exact k6
    | step _ h ih => exact k7 _ ih _ (mem_laters.mpr ⟨_, h, rfl⟩)
/-! ### from which of them all can come in -/
def totI (ws : List Wk) (s : Pn.St) : Int := (tot ws s : Nat)
def ordF (ws : List Wk) (F : List Pn.St) : List Pn.St := byK (F.map (totI ws)) F
theorem ordF_perm (F : List Pn.St) : (ordF ws F).Perm F := byK_map_perm _ _
theorem ordF_rise (F : List Pn.St) : (ordF ws F).Pairwise fun a b => tot ws a ≤ tot ws b := (byK_rise (totI ws) F).imp fun h => Int.ofNat_le.mp h
theorem st_ne_nil (A : List Pn.St) (S : Sto) : opNe (.lst (A.map stD)) (.lst []) S = some (.bl (!A.isEmpty)) := by
  obtain ⟨h1, h2⟩ := st_nice A
  obtain ⟨h3, h4⟩ := st_nice []
  have : eqAny (.lst (A.map stD)) (.lst []) S = some (decide (A.map stD = [])) := eq_lst h1 (by omega) rfl (by decide)
  show (eqAny (.lst (A.map stD)) (.lst []) S).map _ = _
  rw [this]
  cases A <;> rfl
abbrev slZ (pl : Str) (ws : List Wk) (S : Sto) (m : Nat) (s0 : Pn.St) (x y z : Option D) : Sl := [some (plD pl ws), some (stD s0), x, some (.ref S.length), some (.ref m), y, z]
theorem good_step (G : GoodPlan pl ws) (t : Pn.St) (gt : Leg (cap pl) ws t) (F Dn : List Pn.St) (S1 : Sto) (hf : S1[S.length]? = some (dnO F (laV pl ws))) (htF : t ∈ F) (hD : Dn.length < 20000) (htD : ∀ v ∈ laters (cap pl) ws t, v ∈ Dn) (y z : Option D) :
    ∃ y', L__law_good_4 (slZ pl ws S S1.length s0 (some (stD t)) y z) (S1 ++ [dnO Dn (cB pl ws)]) = .nx (slZ pl ws S S1.length s0 (some (stD t)) y' z) (S1 ++ [dnO (insL t Dn) (cB pl ws)]) := by
  have hlt : S.length < S1.length := (List.getElem?_eq_some_iff.mp hf).1
  have a1 : (S1 ++ [dnO Dn (cB pl ws)])[S.length]? = some (dnO F (laV pl ws)) := by rw [List.getElem?_append_left hlt]; exact hf
  have a2 : (S1 ++ [dnO Dn (cB pl ws)])[S1.length]? = some (dnO Dn (cB pl ws)) := by simp
  have e1 := dn_ix (v := laV pl ws) a1 htF
  have it1 : ∀ S, itOf (laV pl ws t) S = some ⟨(laters (cap pl) ws t).map stD, []⟩ := fun _ => rfl
  obtain ⟨S2, l1, rfl⟩ := lcF_filt (own := [6]) (g := gNm 6) (tt := Lt__law_good_2) (te := Le__law_good_3) (ok := okLive ⟨(laters (cap pl) ws t).map stD, []⟩) (σ := slZ pl ws S S1.length s0 (some (stD t)) y z)
    (laters (cap pl) ws t) stD stD (canS (cap pl) ws) (fun S' => S' = S1 ++ [dnO Dn (cB pl ws)]) (fun _ _ => rfl) (by
      rintro v hv S' rfl
      have e := dn_ix (v := cB pl ws) a2 (htD v hv)
      refine ⟨_, rfl, _, ?_, rfl, fun _ => ?_⟩
      · simp [Lt__law_good_2, wipe1, e, cB]
      · simp [Le__law_good_3, wipe1]) _ rfl
  have hl5 : t.length ≤ 5 := by rw [gt.len]; exact G.few
  have e2 := l_left_ok gt hl5 (S1 ++ [dnO Dn (cB pl ws)])
  have e3 := st_ne_nil ((laters (cap pl) ws t).filter (canS (cap pl) ws)) (S1 ++ [dnO Dn (cB pl ws)])
  have e4 := dn_set (v := cB pl ws) a2 (by omega) t
  have e5 : (S1 ++ [dnO Dn (cB pl ws)]).set S1.length (dnO (insL t Dn) (cB pl ws)) = S1 ++ [dnO (insL t Dn) (cB pl ws)] := by
    rw [List.set_append_right _ _ (Nat.le_refl _)]
    simp
  rw [e5] at e4
  have ec := canS_eq gt
  rw [isIn_tot gt] at ec
  have ea : (!((laters (cap pl) ws t).filter (canS (cap pl) ws)).isEmpty) = (laters (cap pl) ws t).any (canS (cap pl) ws) := by
    cases h : (laters (cap pl) ws t).any (canS (cap pl) ws) with
    | true =>
      obtain ⟨x, hx, hc⟩ := List.any_eq_true.mp h
      have hne : (laters (cap pl) ws t).filter (canS (cap pl) ws) ≠ [] := fun z => by
        have : x ∈ (laters (cap pl) ws t).filter (canS (cap pl) ws) := List.mem_filter.mpr ⟨hx, hc⟩
        rw [z] at this
        cases this
      cases hh : (laters (cap pl) ws t).filter (canS (cap pl) ws) with
      | nil => exact absurd hh hne
      | cons _ _ => rfl
    | false =>
      have : (laters (cap pl) ws t).filter (canS (cap pl) ws) = [] := List.filter_eq_nil_iff.mpr fun x hx hc => by
        have := List.any_eq_false.mp h x hx
        exact this hc
      rw [this]
      rfl
  rw [ea] at e3
  have tm0 : tooMany 0 = false := rfl
  refine ⟨some (.lst (((laters (cap pl) ws t).filter (canS (cap pl) ws)).map stD)), ?_⟩
  unfold L__law_good_4
  by_cases ht : tot ws t = 0
  · rw [decide_eq_true ht, Bool.true_or] at ec
    have hv : cB pl ws t = .bl true := by unfold cB; rw [ec]
    rw [hv] at e4
    simp [e1, it1, l1, e2, ht, e4]
  · rw [decide_eq_false ht, Bool.false_or] at ec
    have hv : cB pl ws t = .bl ((laters (cap pl) ws t).any (canS (cap pl) ws)) := by unfold cB; rw [ec]
    rw [hv] at e4
    have ht2 : ¬ ((tot ws t : Nat) : Int) = 0 := by omega
    simp [e1, it1, l1, e2, ht, e3, e4, tm0]
theorem l_good_ok (G : GoodPlan pl ws) (g0 : Leg (cap pl) ws s0) (hm : many ws s0 ≤ 15000) (S : Sto) :
    ∃ O T, f__law_good [plD pl ws, stD s0] S = .ok (.ref (S ++ T).length) (S ++ T ++ [dnO O (cB pl ws)]) ∧ Kn pl ws s0 O ∧ ∀ s, Bh (cap pl) ws s0 s → s ∈ O := by
  obtain ⟨F, T, er, kF, hF⟩ := l_reach_ok G g0 hm S
  obtain ⟨S1, hS1⟩ : ∃ S1, S1 = ry pl ws S F [] T := ⟨_, rfl⟩
  have hf : S1[S.length]? = some (dnO F (laV pl ws)) := by rw [hS1]; exact ry_f F [] T
  have hlt : S.length < S1.length := (List.getElem?_eq_some_iff.mp hf).1
  rw [← hS1] at er
  have hlF : F.length ≤ 15000 := Nat.le_trans (bh_many g0 kF.nd kF.bh) hm
  have op := ordF_perm (ws := ws) F
  have onl : (ordF ws F).length = F.length := op.length_eq
  have ond : (ordF ws F).Nodup := op.nodup_iff.mpr kF.nd
  obtain ⟨key, hkey⟩ : ∃ key : D → Int, ∀ s ∈ F, key (stD s) = totI ws s := ⟨fun d => match f__law_left [plD pl ws, d] [] with | .ok (.int k) _ => k | _ => 0, fun s hs => by
    have gs := g0.bh (kF.bh s hs)
    simp only [l_left_ok gs (by rw [gs.len]; exact G.few) []]
    rfl⟩
  have hf2 : (S1 ++ [O.dn [] []])[S.length]? = some (.dn (F.map stD) (F.map (laV pl ws))) := by rw [List.getElem?_append_left hlt]; exact hf
  have ks := kSortK_r (fb := Lk__law_good_1) (σ := slZ pl ws S S1.length s0 none none none) (S := S1 ++ [O.dn [] []]) (n := S.length) (ks := F.map stD) (ds := F.map (laV pl ws)) key (.inl hf2) (by
    intro d hd
    obtain ⟨s, hs, rfl⟩ := List.mem_map.mp hd
    have gs := g0.bh (kF.bh s hs)
    have e := l_left_ok gs (by rw [gs.len]; exact G.few) (S1 ++ [O.dn [] []])
    rw [hkey s hs]
    simp [Lk__law_good_1, e, totI])
  have hmap : (F.map stD).map key = F.map (totI ws) := by
    rw [List.map_map]
    exact List.map_congr_left hkey
  rw [hmap, byK_map] at ks
  have key2 := loopF_inv (g := gNm 2) (b := L__law_good_4) (ok := okLive ⟨(ordF ws F).map stD, []⟩)
    (fun ds σ S' => ∃ (Dn rest : List Pn.St) (x y z : Option D), ds = rest.map stD ∧ Dn ++ rest = ordF ws F ∧ σ = slZ pl ws S S1.length s0 x y z ∧ S' = S1 ++ [dnO Dn (cB pl ws)])
    (fun σ S' => ∃ x y z, σ = slZ pl ws S S1.length s0 x y z ∧ S' = S1 ++ [dnO (ordF ws F) (cB pl ws)]) (fun _ _ _ _ => rfl)
    (by
      rintro σ S' ⟨Dn, rest, x, y, z, h1, h2, rfl, rfl⟩
      have : rest = [] := List.map_eq_nil_iff.mp h1.symm
      subst this
      rw [List.append_nil] at h2
      exact ⟨x, y, z, rfl, by rw [h2]⟩)
    (by
      rintro d ds σ S' ⟨Dn, rest, x, y, z, h1, h2, rfl, rfl⟩
      cases rest with
      | nil => cases h1
      | cons t rest =>
        rw [List.map_cons] at h1
        obtain ⟨rfl, rfl⟩ := List.cons.inj h1
        have htO : t ∈ ordF ws F := by rw [← h2]; simp
        have htF : t ∈ F := op.mem_iff.mp htO
        have gt := g0.bh (kF.bh t htF)
        have hDl : Dn.length ≤ F.length := by
          rw [← onl, ← h2, List.length_append]
          omega
        have hin : t ∉ Dn := fun hh => by
          rw [← h2] at ond
          exact (List.nodup_append.mp ond).2.2 t hh t List.mem_cons_self rfl
        have hlat : ∀ v ∈ laters (cap pl) ws t, v ∈ Dn := fun v hv => by
          obtain ⟨gv, hvt⟩ := gt.laters hv
          obtain ⟨i, hi1, hi2⟩ := mem_laters.mp hv
          have hvF : v ∈ ordF ws F := op.mem_iff.mpr (hF v (by rw [hi2]; exact .step (kF.bh t htF) hi1))
          rw [← h2] at hvF
          rcases List.mem_append.mp hvF with h | h
          · exact h
          · exfalso
            have hr := ordF_rise (ws := ws) F
            rw [← h2] at hr
            have hr2 := (List.pairwise_append.mp hr).2.1
            rw [List.pairwise_cons] at hr2
            rcases List.mem_cons.mp h with rfl | h
            · omega
            · have := hr2.1 v h
              omega
        obtain ⟨y', e⟩ := good_step (S := S) (s0 := s0) G t gt F Dn S1 hf htF (by omega) hlat y z
        refine ⟨_, _, rfl, .inl ⟨_, _, e, Dn ++ [t], rest, some (stD t), y', z, rfl, by rw [List.append_assoc]; exact h2, rfl, ?_⟩⟩
        rw [show insL t Dn = Dn ++ [t] from if_neg hin])
    ((ordF ws F).map stD) (slZ pl ws S S1.length s0 none none none) (S1 ++ [dnO [] (cB pl ws)]) ⟨[], ordF ws F, none, none, none, rfl, rfl, rfl, rfl⟩
  obtain ⟨σ', S', el, x, y, z, rfl, rfl⟩ := key2
  have el2 : loopF (gNm 2) L__law_good_4 (okLive ⟨(ordF ws F).map stD, []⟩) ((ordF ws F).map stD) [some (plD pl ws), some (stD s0), none, some (.ref S.length), some (.ref S1.length), none, none] (S1 ++ [O.dn [] []]) = .nx (slZ pl ws S S1.length s0 x y z) (S1 ++ [dnO (ordF ws F) (cB pl ws)]) := el
  have ks2 : kSortK Lk__law_good_1 [some (plD pl ws), some (stD s0), none, some (.ref S.length), some (.ref S1.length), none, none] (.ref S.length) (S1 ++ [O.dn [] []]) = .ok ((ordF ws F).map stD) (S1 ++ [O.dn [] []]) := ks
  have it : ∀ S, itOf (.lst ((ordF ws F).map stD)) S = some ⟨(ordF ws F).map stD, []⟩ := fun _ => rfl
  have hS1' : S1 = S ++ (dnO F (laV pl ws) :: .lst ([] : List D) :: T) := hS1
  refine ⟨ordF ws F, dnO F (laV pl ws) :: .lst [] :: T, ?_, ⟨ond, fun s hs => kF.bh s (op.mem_iff.mp hs)⟩, fun s hs => op.mem_iff.mpr (hF s hs)⟩
  rw [← hS1']
  have tm2 : tooMany 2 = false := rfl
  unfold f__law_good g__law_good
  simp [er, tm2, ks2, it, el2]
end
end K07

namespace K07
open PySem PySem.Spec L2 Fx Pn
def okA : Nat → D → Prop
  | 0, _ => False
  | n + 1, d => match d with
    | .int _ => True
    | .bl _ => True
    | .str _ => True
    | .non => True
    | .tup xs => xs.length ≤ 100000 ∧ ∀ x ∈ xs, okA n x
    | .lst xs => xs.length ≤ 100000 ∧ ∀ x ∈ xs, okA n x
    | _ => False
theorem alike_loop (n : Nat) (rec : FF) (xs : List D) (d : D) (S : Sto) (hix : ∀ k : Nat, ∀ S, opIx d (.int (k : Nat)) S = L2.atI xs (k : Nat)) (hr : ∀ x ∈ xs, ∀ S, rec [x, x] S = .ok (.bl true) S) (c : Option D) :
    ∃ c', loopF (gNm 2) (L__law_alike_1 rec) (okLive ⟨rngD 0 xs.length, []⟩) (rngD 0 xs.length) [some d, some d, c] S = .nx [some d, some d, c'] S := by
  obtain ⟨σ', S', e, c', rfl, rfl⟩ := loopF_inv (g := gNm 2) (b := L__law_alike_1 rec) (ok := okLive ⟨rngD 0 xs.length, []⟩)
    (fun ds σ S' => ∃ (i : Nat) (c : Option D), ds = (rngD 0 xs.length).drop i ∧ σ = [some d, some d, c] ∧ S' = S) (fun σ S' => ∃ c, σ = [some d, some d, c] ∧ S' = S) (fun _ _ _ _ => rfl) (fun _ _ ⟨_, c, _, h1, h2⟩ => ⟨c, h1, h2⟩)
    (by
      rintro d0 ds σ S' ⟨i, c, hd, rfl, rfl⟩
      obtain ⟨hget, hds⟩ := drop_head hd
      rw [rngD0, List.getElem?_map] at hget
      obtain ⟨k, hk, rfl⟩ := Option.map_eq_some_iff.mp hget
      obtain ⟨hk1, hk2⟩ := List.getElem?_eq_some_iff.mp hk
      simp at hk1 hk2
      subst hk2
      have hx := hr xs[i] (List.getElem_mem hk1) S'
      have e1 := hix i S'
      rw [atI_nat hk1] at e1
      refine ⟨[some d, some d, some (.int (i : Nat))], S', rfl, .inl ⟨[some d, some d, some (.int (i : Nat))], S', ?_, i + 1, _, hds, rfl, rfl⟩⟩
      simp [L__law_alike_1, e1, hx])
    (rngD 0 xs.length) [some d, some d, c] S ⟨0, c, rfl, rfl, rfl⟩
  exact ⟨c', e⟩
theorem alike_ok : ∀ (n : Nat) (d : D), okA n d → ∀ S, f__law_alike n [d, d] S = .ok (.bl true) S
  | 0, _, h, _ => h.elim
  | n + 1, d, h, S => by
    have ih := alike_ok n
    show fDef 3 (g__law_alike (f__law_alike n)) [d, d] S = _
    unfold g__law_alike
    cases d with
    | int i =>
      have nn : Fx.isNon (.int i) = false := rfl
      simp [tyN, Ty.is, nn]
    | bl b =>
      have nn : Fx.isNon (.bl b) = false := rfl
      have ee : opEq (.bl b) (.bl b) S = some (.bl true) := by cases b <;> rfl
      simp [tyN, Ty.is, nn, ee]
    | str i =>
      have nn : Fx.isNon (.str i) = false := rfl
      simp [tyN, Ty.is, nn]
    | non =>
      have nn : Fx.isNon .non = true := rfl
      simp [nn]
    | tup xs =>
      obtain ⟨hl, hx⟩ := h
      have nn : Fx.isNon (.tup xs) = false := rfl
      have tm : tooMany xs.length = false := tm_of (by omega)
      obtain ⟨c', e⟩ := alike_loop n (f__law_alike n) xs (.tup xs) S (fun _ _ => rfl) (fun x hx' S => ih x (hx x hx') S) none
      simp [tyN, Ty.is, nn, tm, e]
    | lst xs =>
      obtain ⟨hl, hx⟩ := h
      have nn : Fx.isNon (.lst xs) = false := rfl
      have tm : tooMany xs.length = false := tm_of (by omega)
      obtain ⟨c', e⟩ := alike_loop n (f__law_alike n) xs (.lst xs) S (fun _ _ => rfl) (fun x hx' S => ih x (hx x hx') S) none
      simp [tyN, Ty.is, nn, tm, e]
    | _ => exact h.elim

/-! ### the law -/
end K07

namespace K07
open PySem PySem.Spec L2 Fx Pn
/-! ### all lists of steps, sorted -/
def subsF : List (List Nat) → List Nat → List (List Nat)
  | acc, [] => acc
  | acc, x :: r => subsF (acc ++ acc.map (· ++ [x])) r
theorem sub_snoc {y p : List Nat} {x : Nat} : List.Sublist y (p ++ [x]) ↔ List.Sublist y p ∨ ∃ z, y = z ++ [x] ∧ List.Sublist z p := by
  constructor
  · intro h
    obtain ⟨a, b, rfl, h1, h2⟩ := List.sublist_append_iff.mp h
    cases b with
    | nil => rw [List.append_nil]; exact .inl h1
    | cons c b =>
      have hl := h2.length_le
      have hb : b = [] := by
        cases b with
        | nil => rfl
        | cons _ _ => simp at hl
      subst hb
      have : c = x := by simpa using h2.subset List.mem_cons_self
      subst this
      exact .inr ⟨a, rfl, h1⟩
  · rintro (h | ⟨z, rfl, h⟩)
    · exact h.trans (List.sublist_append_left _ _)
    · exact List.Sublist.append h (List.Sublist.refl _)
theorem nodup_app {α : Type} {a b : List α} (h1 : a.Nodup) (h2 : b.Nodup) (h : ∀ x ∈ a, x ∉ b) : (a ++ b).Nodup :=
  List.nodup_append.mpr ⟨h1, h2, fun x hx y hy e => h x hx (e ▸ hy)⟩
theorem nodup_map_inj {α β : Type} {f : α → β} (hf : ∀ x y, f x = f y → x = y) : ∀ {l : List α}, l.Nodup → (l.map f).Nodup
  | [], _ => List.nodup_nil
  | x :: l, h => by
    rw [List.nodup_cons] at h
    rw [List.map_cons, List.nodup_cons]
    refine ⟨fun hm => ?_, nodup_map_inj hf h.2⟩
    obtain ⟨y, hy, e⟩ := List.mem_map.mp hm
    exact h.1 (hf _ _ e ▸ hy)
theorem subsF_ok : ∀ (l p : List Nat) (acc : List (List Nat)), (p ++ l).Nodup → acc.Nodup → (∀ y, y ∈ acc ↔ List.Sublist y p) → (subsF acc l).Nodup ∧ ∀ y, y ∈ subsF acc l ↔ List.Sublist y (p ++ l)
  | [], p, acc, _, h2, h3 => by rw [List.append_nil]; exact ⟨h2, h3⟩
  | x :: l, p, acc, h1, h2, h3 => by
    have e : p ++ x :: l = (p ++ [x]) ++ l := by simp
    rw [e] at h1 ⊢
    unfold subsF
    have hxp : x ∉ p := fun hx => by
      have h4 := (List.nodup_append.mp h1).1
      exact (List.nodup_append.mp h4).2.2 x hx x (by simp) rfl
    refine subsF_ok l (p ++ [x]) _ h1 (nodup_app h2 (nodup_map_inj (fun a b e => List.append_cancel_right e) h2) fun y hy hy2 => ?_) fun y => ?_
    · obtain ⟨z, _, rfl⟩ := List.mem_map.mp hy2
      exact hxp (((h3 _).mp hy).subset (by simp))
    · rw [sub_snoc, List.mem_append, h3, List.mem_map]
      constructor
      · rintro (h | ⟨z, hz, rfl⟩)
        · exact .inl h
        · exact .inr ⟨z, rfl, (h3 z).mp hz⟩
      · rintro (h | ⟨z, rfl, hz⟩)
        · exact .inl h
        · exact .inr ⟨z, (h3 z).mpr hz, rfl⟩
theorem subsF_len : ∀ (l : List Nat) (acc : List (List Nat)), (subsF acc l).length = acc.length * 2 ^ l.length
  | [], acc => by simp [subsF]
  | x :: l, acc => by
    unfold subsF
    rw [subsF_len l, List.length_append, List.length_map, List.length_cons, Nat.pow_succ]
    have : (acc.length + acc.length) * 2 ^ l.length = acc.length * 2 * 2 ^ l.length := by rw [Nat.mul_two]
    rw [this, Nat.mul_assoc, Nat.mul_comm 2]
theorem subsF_app : ∀ (a b : List Nat) (acc : List (List Nat)), subsF acc (a ++ b) = subsF (subsF acc a) b
  | [], _, _ => rfl
  | x :: a, b, acc => by
    show subsF _ (a ++ b) = subsF (subsF _ a) b
    exact subsF_app a b _
/-- shorter, or as long and earlier -/
def ltL (x y : List Nat) : Prop := x.length < y.length ∨ x.length = y.length ∧ (x.map Int.ofNat) < (y.map Int.ofNat)
theorem choose_lt : ∀ (m : Nat) (l : List Nat), l.Pairwise (· < ·) → (Pn.choose l m).Pairwise fun x y => (x.map Int.ofNat) < (y.map Int.ofNat)
  | 0, l, _ => by
    rw [Pn.choose]
    exact List.pairwise_singleton _ _
  | m + 1, l, h => by
    rw [Pn.choose, List.pairwise_flatMap]
    refine ⟨fun p _ => ?_, ?_⟩
    · rw [List.pairwise_map]
      refine (choose_lt m (l.drop (p + 1)) (h.sublist (List.drop_sublist _ _))).imp fun {x y} hxy => ?_
      rw [List.map_cons, List.map_cons]
      exact List.Lex.cons hxy
    · have hr : (List.range l.length).Pairwise (fun a b => a < b ∧ b < l.length) := by
        rw [List.pairwise_iff_getElem]
        intro i j hi hj hij
        rw [List.length_range] at hi hj
        simp [List.getElem_range]
        exact ⟨hij, hj⟩
      refine hr.imp fun {a b} hab x hx y hy => ?_
      obtain ⟨x', _, rfl⟩ := List.mem_map.mp hx
      obtain ⟨y', _, rfl⟩ := List.mem_map.mp hy
      rw [List.map_cons, List.map_cons]
      refine List.Lex.rel ?_
      have ha : a < l.length := by omega
      have e1 : l.getD a 0 = l[a] := by rw [List.getD_eq_getElem?_getD, List.getElem?_eq_getElem ha]; rfl
      have e2 : l.getD b 0 = l[b] := by rw [List.getD_eq_getElem?_getD, List.getElem?_eq_getElem hab.2]; rfl
      rw [e1, e2]
      have := (List.pairwise_iff_getElem.mp h) a b ha hab.2 hab.1
      exact Int.ofNat_lt.mpr this
theorem cands_lt (l : List Nat) (h : l.Pairwise (· < ·)) : (cands l).Pairwise ltL := by
  unfold cands
  rw [List.pairwise_flatMap]
  refine ⟨fun m _ => ?_, ?_⟩
  · have h1 := choose_lt m l h
    have h2 : (Pn.choose l m).Pairwise fun x y => x.length = m ∧ y.length = m := by
      rw [List.pairwise_iff_getElem]
      intro i j hi hj _
      exact ⟨(choose_sub m l _ (List.getElem_mem hi)).2, (choose_sub m l _ (List.getElem_mem hj)).2⟩
    exact h1.imp₂ (S := fun x y => x.length = m ∧ y.length = m) (fun a b h1 h2 => .inr ⟨by omega, h1⟩) h2
  · have hr : (List.range (l.length + 1)).Pairwise (· < ·) := List.pairwise_lt_range
    refine hr.imp fun {a b} hab x hx y hy => .inl ?_
    rw [(choose_sub a l x hx).2, (choose_sub b l y hy).2]
    exact hab
theorem lex_irr : ∀ x : List Int, ¬ x < x := fun x h => List.lt_irrefl x h
theorem ltL_irr (x : List Nat) : ¬ ltL x x := fun h => h.elim (fun h => Nat.lt_irrefl _ h) fun h => lex_irr _ h.2
theorem ltL_asymm {x y : List Nat} (h : ltL x y) : ¬ ltL y x := fun k => by
  rcases h with h | h <;> rcases k with k | k
  · omega
  · omega
  · omega
  · exact List.lt_asymm h.2 k.2
instance (x y : List Nat) : Decidable (ltL x y) := inferInstanceAs (Decidable (_ ∨ _))
theorem sorted_uniq {α : Type} {le : α → α → Bool} : ∀ {a b : List α}, a.Perm b → a.Pairwise (fun x y => le x y = true) → b.Pairwise (fun x y => le x y = true) → (∀ x ∈ a, ∀ y ∈ a, le x y = true → le y x = true → x = y) → a = b
  | [], b, p, _, _, _ => by rw [List.nil_perm.mp p]
  | x :: a, [], p, _, _, _ => by have := p.length_eq; simp at this
  | x :: a, y :: b, p, h1, h2, h => by
    rw [List.pairwise_cons] at h1 h2
    have e : x = y := by
      rcases List.mem_cons.mp (p.mem_iff.mp List.mem_cons_self : x ∈ y :: b) with e | hx
      · exact e
      · rcases List.mem_cons.mp (p.mem_iff.mpr List.mem_cons_self : y ∈ x :: a) with e | hy
        · exact e.symm
        · exact h x List.mem_cons_self y (List.mem_cons_of_mem _ hy) (h1.1 y hy) (h2.1 x hx)
    subst e
    rw [sorted_uniq (List.Perm.cons_inv p) h1.2 h2.2 fun u hu v hv => h u (List.mem_cons_of_mem _ hu) v (List.mem_cons_of_mem _ hv)]
/-- the key by which lists are sorted -/
def keyD (x : List Nat) : D := .tup [.int (x.length : Nat), lD x]
def keyP (x : List Nat) : PyData := .tuple [.int (x.length : Nat), .list ((x.map Int.ofNat).map PyData.int)]
theorem pds_ints (r : Nat → Option PyData) : ∀ x : List Nat, pds r (x.map iD) = some ((x.map Int.ofNat).map PyData.int)
  | [] => rfl
  | k :: x => by
    rw [List.map_cons, pds, pds_ints r x]
    rfl
theorem keyD_pd (x : List Nat) : pd0 (keyD x) = some (keyP x) := by
  unfold keyD lD keyP
  simp only [pd, pds, pds_ints, Option.map_some]
theorem keysD_pd : ∀ l : List (List Nat), pds0 (l.map keyD) = some (l.map keyP)
  | [] => rfl
  | x :: l => by
    have e1 := keyD_pd x
    have e2 := keysD_pd l
    rw [List.map_cons]
    show (match pd0 (keyD x), pds0 (l.map keyD) with
      | some p, some ps => some (p :: ps)
      | _, _ => none) = _
    rw [e1, e2]
    rfl
theorem alike_keys (x y : List Nat) : PySem.W.alike (keyP x) (keyP y) = true := by
  unfold keyP
  simp only [PySem.W.alike, PySem.W.alikeAll, PySem.W.alike_ints, Bool.and_self]
theorem okKeys_all (l : List (List Nat)) : okKeys (l.map keyP) = true := by
  unfold okKeys
  rw [Bool.and_eq_true, List.all_eq_true, List.all_eq_true]
  refine ⟨fun p hp => ?_, fun p hp => ?_⟩
  · obtain ⟨x, _, rfl⟩ := List.mem_map.mp hp
    rw [List.all_eq_true]
    intro q hq
    obtain ⟨y, _, rfl⟩ := List.mem_map.mp hq
    exact alike_keys x y
  · obtain ⟨x, _, rfl⟩ := List.mem_map.mp hp
    have hd : (keyP x).depth ≤ 60 := by
      unfold keyP
      simp [PyData.depth, PyData.depthAll, PySem.W.depth_ints, -List.map_map]
    rw [Bool.and_eq_true]
    exact ⟨rfl, decide_eq_true hd⟩
theorem lt_keys (x y : List Nat) : PySem.W.dataLt (keyP x) (keyP y) = decide (ltL x y) := by
  have h' : PySem.W.alike (.list ((x.map Int.ofNat).map PyData.int)) (.list ((y.map Int.ofNat).map PyData.int)) = true := by
    rw [PySem.W.alike]
    exact PySem.W.alike_ints _ _
  unfold keyP
  rw [PySem.W.dataLt_pair (x := .int (x.length : Nat)) (x' := .int (y.length : Nat)) rfl h', PySem.W.dataLt_int, PySem.W.dataLt_list]
  have hr := PySem.W.dataLt_ints (x.map Int.ofNat) (y.map Int.ofNat)
  unfold PySem.W.rowLt at hr
  rw [hr]
  have e1 : PyData.eqv (.int (x.length : Nat)) (.int (y.length : Nat)) = decide (x.length = y.length) := by
    show decide (((x.length : Nat) : Int) = ((y.length : Nat) : Int)) = _
    rw [decide_eq_decide]
    omega
  rw [e1]
  by_cases hl : x.length = y.length
  · rw [if_pos (decide_eq_true hl)]
    have e2 : decide (ltL x y) = decide ((x.map Int.ofNat) < (y.map Int.ofNat)) := by
      rw [decide_eq_decide]
      unfold ltL
      constructor
      · rintro (h | h)
        · omega
        · exact h.2
      · exact fun h => .inr ⟨hl, h⟩
    rw [e2]
    by_cases he : PyData.eqv (.list ((x.map Int.ofNat).map PyData.int)) (.list ((y.map Int.ofNat).map PyData.int)) = true
    · rw [if_pos he]
      have ht := (PySem.W.toksAll_eqv _ _ (PySem.W.alike_ints (x.map Int.ofNat) (y.map Int.ofNat))).1 (by rw [PyData.eqv] at he; exact he)
      rw [← hr, ht, PyProof.Rows.lex_irrefl]
    · rw [if_neg he]
  · rw [if_neg (by simp [hl])]
    rw [decide_eq_decide]
    unfold ltL
    constructor
    · intro h
      exact .inl (by omega)
    · rintro (h | h)
      · omega
      · exact absurd h.1 hl
theorem ltL_tot {x y : List Nat} (h1 : ¬ ltL x y) (h2 : ¬ ltL y x) : x = y := by
  unfold ltL at h1 h2
  have hl : x.length = y.length := by omega
  have h3 : ¬ (x.map Int.ofNat) < (y.map Int.ofNat) := fun h => h1 (.inr ⟨hl, h⟩)
  have h4 : ¬ (y.map Int.ofNat) < (x.map Int.ofNat) := fun h => h2 (.inr ⟨hl.symm, h⟩)
  have e : x.map Int.ofNat = y.map Int.ofNat := List.le_antisymm h4 h3
  exact (List.map_inj_right (fun a b h => Int.ofNat.inj h)).mp e
theorem sortD_cands {l : List Nat} (h : l.Pairwise (· < ·)) : sortD ((subsF [[]] l).map keyP) ((subsF [[]] l).map lD) = (cands l).map lD := by
  obtain ⟨g, hg⟩ : ∃ g : List Nat → PyData × D, g = fun x => (keyP x, lD x) := ⟨_, rfl⟩
  have hz : ∀ L : List (List Nat), (L.map keyP).zip (L.map lD) = L.map g := fun L => by
    rw [List.zip_map', hg]
  have hn : ([] ++ l).Nodup := by
    rw [List.nil_append]
    exact h.imp fun hab => by omega
  obtain ⟨nd, hm⟩ := subsF_ok l [] [[]] hn (by simp) (fun y => by simp)
  have nc : (cands l).Nodup := (cands_lt l h).imp fun {a b} hab => by intro e; subst e; exact ltL_irr _ hab
  have hp : (subsF [[]] l).Perm (cands l) := by
    rw [List.perm_ext_iff_of_nodup nd nc]
    intro y
    rw [hm, List.nil_append, mem_cands]
  have tl := PySem.W.sortLe_total (PyProof.Rows.listOrd PyProof.Rows.itemOrd) false (fun p : PyData × D => PySem.W.keyToks p.1)
  have hle : ∀ x y, PySem.W.dataLe false (fun p : PyData × D => p.1) (g x) (g y) = !decide (ltL y x) := fun x y => by
    rw [PySem.W.dataLe_eq]
    show (!PySem.W.dataLt (g y).1 (g x).1) = _
    rw [hg]
    show (!PySem.W.dataLt (keyP y) (keyP x)) = _
    rw [lt_keys]
  unfold sortD
  rw [hz]
  have e : ((subsF [[]] l).map g).mergeSort (PySem.W.dataLe false fun p : PyData × D => p.1) = (cands l).map g := by
    refine sorted_uniq (le := PySem.W.dataLe false fun p : PyData × D => p.1) ((List.mergeSort_perm _ _).trans (hp.map g)) ?_ ?_ ?_
    · exact List.pairwise_mergeSort (le := PySem.W.dataLe false fun p : PyData × D => p.1) (fun a b c => tl.trans a b c) (fun a b => by
        rcases tl.total a b with h | h
        · exact Bool.or_eq_true_iff.mpr (.inl h)
        · exact Bool.or_eq_true_iff.mpr (.inr h)) _
    · rw [List.pairwise_map]
      refine (cands_lt l h).imp fun {a b} hab => ?_
      rw [hle, decide_eq_false (ltL_asymm hab)]
      rfl
    · intro a ha b hb h1 h2
      obtain ⟨x, _, rfl⟩ := List.mem_map.mp (List.mem_mergeSort.mp ha)
      obtain ⟨y, _, rfl⟩ := List.mem_map.mp (List.mem_mergeSort.mp hb)
      rw [hle] at h1 h2
      have k1 : ¬ ltL y x := by simpa using h1
      have k2 : ¬ ltL x y := by simpa using h2
      rw [ltL_tot k2 k1]
  rw [e, List.map_map, hg]
  rfl
theorem keysDD_map {fb : FE} {σ : Sl} {S : Sto} {α : Type} (enc key : α → D) : ∀ l : List α, (∀ x ∈ l, fb (σ ++ [some (enc x)]) S = .ok (key x) S) → keysDD fb σ S (l.map enc) = some (l.map key)
  | [], _ => rfl
  | x :: l, h => by
    have e1 : keyDD fb σ S (enc x) = some (key x) := by
      unfold keyDD
      rw [h x List.mem_cons_self]
      dsimp only
      rw [if_pos (stoEq_self S)]
    show (keyDD fb σ S (enc x)).bind (fun k => (keysDD fb σ S (l.map enc)).map (k :: ·)) = _
    rw [e1, keysDD_map enc key l fun y hy => h y (List.mem_cons_of_mem _ hy)]
    rfl
theorem subsF_ml : ∀ (l : List Nat) (m : Nat) (acc : List (List Nat)), (∀ y ∈ acc, y.length ≤ m) → ∀ y ∈ subsF acc l, y.length ≤ m + l.length
  | [], m, acc, h, y, hy => h y hy
  | x :: l, m, acc, h, y, hy => by
    have := subsF_ml l (m + 1) (acc ++ acc.map (· ++ [x])) (fun z hz => by
      rcases List.mem_append.mp hz with hz | hz
      · exact Nat.le_succ_of_le (h z hz)
      · obtain ⟨u, hu, rfl⟩ := List.mem_map.mp hz
        rw [List.length_append, List.length_singleton]
        have := h u hu
        omega) y hy
    rw [List.length_cons]
    omega
theorem lists_ok (l : List Nat) (hl : l.length ≤ 12) (hr : l.Pairwise (· < ·)) (S : Sto) : f__law_lists [.lst (l.map iD)] S = .ok (.lst ((cands l).map lD)) S := by
  have pw : ∀ n, n ≤ 12 → 2 ^ n ≤ 4096 := fun n h => Nat.le_trans (Nat.pow_le_pow_right (by omega) h) (by decide)
  obtain ⟨σ', S', e, x2, x3, rfl, rfl⟩ := loopF_inv (g := gNm 2) (b := L__law_lists_2) (ok := okLive ⟨l.map iD, []⟩)
    (fun ds σ S' => ∃ a b x2 x3, a ++ b = l ∧ ds = b.map iD ∧ σ = [some (.lst (l.map iD)), some (.lst ((subsF [[]] a).map lD)), x2, x3] ∧ S' = S)
    (fun σ S' => ∃ x2 x3, σ = [some (.lst (l.map iD)), some (.lst ((subsF [[]] l).map lD)), x2, x3] ∧ S' = S) (fun _ _ _ _ => rfl)
    (by
      rintro σ S' ⟨a, b, x2, x3, h1, h2, rfl, rfl⟩
      have : b = [] := List.map_eq_nil_iff.mp h2.symm
      subst this
      rw [List.append_nil] at h1
      subst h1
      exact ⟨x2, x3, rfl, rfl⟩)
    (by
      rintro d ds σ S' ⟨a, b, x2, x3, h1, h2, rfl, rfl⟩
      cases b with
      | nil => cases h2
      | cons x b =>
        rw [List.map_cons] at h2
        obtain ⟨rfl, rfl⟩ := List.cons.inj h2
        obtain ⟨acc, hacc⟩ : ∃ acc, acc = subsF [[]] a := ⟨_, rfl⟩
        have hal : a.length ≤ 12 := by
          have := congrArg List.length h1
          rw [List.length_append] at this
          omega
        have hlen : acc.length ≤ 4096 := by
          rw [hacc, subsF_len, List.length_singleton, Nat.one_mul]
          exact pw _ hal
        have hml : ∀ y ∈ acc, y.length ≤ 12 := fun y hy => by
          rw [hacc] at hy
          have := subsF_ml a 0 [[]] (by simp) y hy
          omega
        have l1 := lcF_map (own := [3]) (g := gNm 3) (tt := fYes) (te := Le__law_lists_1) (ok := okLive ⟨acc.map lD, []⟩) (σ := [some (.lst (l.map iD)), some (.lst (acc.map lD)), some (iD x), x3]) (S := S') acc lD (fun y => lD (y ++ [x])) rfl (by
          intro y hy
          have e : opCat (lD y) (.lst [iD x]) S' = some ((y ++ [x]).map iD) := by
            have e1 : seqM (lD y) S' = some (y.map iD) := rfl
            have e2 : seqM (.lst [iD x]) S' = some [iD x] := rfl
            unfold opCat
            rw [e1, e2]
            dsimp only
            rw [tm_of (by have := hml y hy; rw [List.length_map, List.length_singleton]; omega), List.map_append]
            rfl
          have tm1 : tooMany 1 = false := rfl
          refine ⟨_, rfl, rfl, ?_⟩
          simp [Le__law_lists_1, wipe1, e, tm1]
          unfold lD
          rw [List.map_append]
          rfl)
        have e2 : opCat (.lst (acc.map lD)) (.lst (acc.map fun y => lD (y ++ [x]))) S' = some ((subsF [[]] (a ++ [x])).map lD) := by
          have e1 : seqM (.lst (acc.map lD)) S' = some (acc.map lD) := rfl
          have e2 : seqM (.lst (acc.map fun y => lD (y ++ [x]))) S' = some (acc.map fun y => lD (y ++ [x])) := rfl
          unfold opCat
          rw [e1, e2]
          dsimp only
          rw [tm_of (by rw [List.length_map, List.length_map]; omega), subsF_app, ← hacc]
          show some _ = some ((acc ++ acc.map (· ++ [x])).map lD)
          rw [List.map_append, List.map_map]
          rfl
        have itA : ∀ S, itOf (.lst (acc.map lD)) S = some ⟨acc.map lD, []⟩ := fun _ => rfl
        refine ⟨_, _, rfl, .inl ⟨[some (.lst (l.map iD)), some (.lst ((subsF [[]] (a ++ [x])).map lD)), some (iD x), x3], S', ?_, a ++ [x], b, _, _, by rw [List.append_assoc]; exact h1, rfl, rfl, rfl⟩⟩
        rw [← hacc]
        unfold L__law_lists_2
        simp [itA, l1, e2]) (l.map iD) [some (.lst (l.map iD)), some (.lst ([[]].map lD)), none, none] S ⟨[], l, none, none, rfl, rfl, rfl, rfl⟩
  have hk : keysDD Lk__law_lists_3 [some (.lst (l.map iD)), some (.lst ((subsF [[]] l).map lD)), x2, x3] S' ((subsF [[]] l).map lD) = some ((subsF [[]] l).map keyD) := by
    refine keysDD_map lD keyD _ fun y hy => ?_
    have tm2 : tooMany 2 = false := rfl
    have ln : lenD (lD y) S' = some (.int (y.length : Nat)) := by
      show some (D.int ((y.map iD).length : Nat)) = _
      rw [List.length_map]
    unfold Lk__law_lists_3
    simp [ln, tm2]
    rfl
  have ks : kSortD Lk__law_lists_3 [some (.lst (l.map iD)), some (.lst ((subsF [[]] l).map lD)), x2, x3] (.lst ((subsF [[]] l).map lD)) S' = .ok ((cands l).map lD) S' := by
    show outSortD _ _ _ _ = _
    unfold outSortD
    rw [show seqL (.lst ((subsF [[]] l).map lD)) S' = some ((subsF [[]] l).map lD) from rfl]
    dsimp only
    rw [hk]
    dsimp only
    rw [keysD_pd]
    dsimp only
    rw [if_pos (okKeys_all _), sortD_cands hr]
  have tm0 : tooMany 0 = false := rfl
  have tm1 : tooMany 1 = false := rfl
  have itL : ∀ S, itOf (.lst (l.map iD)) S = some ⟨l.map iD, []⟩ := fun _ => rfl
  have e' : loopF (gNm 2) L__law_lists_2 (okLive ⟨l.map iD, []⟩) (l.map iD) [some (.lst (l.map iD)), some (.lst [.lst []]), none, none] S' = .nx [some (.lst (l.map iD)), some (.lst ((subsF [[]] l).map lD)), x2, x3] S' := e
  unfold f__law_lists g__law_lists
  simp [tm0, tm1, itL, e', ks]
section
variable {pl : Str} {ws : List Wk} {s : Pn.St} {S : Sto} {i : Nat}
theorem sgn {q : Nat} (hl : pl.length ≤ 12) (hq : q < pl.length) (S : Sto) : opIx (.str pl) (.int (q : Nat)) S = some (.str ⟨#[(TL.tl pl).getD q 0]⟩) := by
  have tml : tooMany pl.length = false := tm_of (by omega)
  have hc : (TL.tl pl)[q]? = some ((TL.tl pl).getD q 0) := by
    have : q < (TL.tl pl).length := by rw [← TL.len_tl]; exact hq
    rw [List.getD_eq_getElem?_getD, List.getElem?_eq_getElem this]
    rfl
  show (if tooMany pl.length then none else (L2.atI pl.cps.toList (q : Nat)).map fun c => D.str ⟨#[c]⟩) = _
  rw [tml, atI_n hc]
  rfl
theorem lw_one (G : GoodPlan pl ws) (hm : many ws (begS ws) ≤ 15000) (l : List Nat) (x3 x4 x5 : Option D) (S : Sto) :
    ∃ T, L__law_widened_5 [some (plD pl ws), some (stD (begS ws)), some (lD l), x3, x4, x5] S = if servesB pl ws l = true then .rt (lD l) (S ++ T) else .nx [some (plD pl ws), some (stD (begS ws)), some (lD l), some (plD (wide pl l) ws), x4, x5] (S ++ T) := by
  obtain ⟨hp1, hp2⟩ := G.gp.len
  have GW := G.wide l
  have g := begS_leg GW
  have l1 := lcF_map (own := [5]) (g := gNm 5) (tt := fYes) (te := Le__law_widened_4) (ok := okLive ⟨rngD 0 pl.length, []⟩) (σ := [some (plD pl ws), some (stD (begS ws)), some (lD l), x3, x4, x5]) (S := S) (List.range pl.length) iD (fun i => D.str (lSign pl l i)) rfl (by
    intro i hi
    have e := in_lA i l S
    have es := sgn (pl := pl) (by omega) (List.mem_range.mp hi) S
    refine ⟨_, rfl, rfl, ?_⟩
    by_cases h : i ∈ l
    · have e' : opIn (.int (i : Nat)) (lD l) S = some (.bl true) := by rw [show opIn (.int (i : Nat)) (lD l) S = _ from e, decide_eq_true h]
      have eg : lSign pl l i = "l" := if_pos h
      simp [Le__law_widened_4, wipe1, iD, e', eg]
    · have e' : opIn (.int (i : Nat)) (lD l) S = some (.bl false) := by rw [show opIn (.int (i : Nat)) (lD l) S = _ from e, decide_eq_false h]
      have eg : lSign pl l i = ⟨#[(TL.tl pl).getD i 0]⟩ := if_neg h
      simp [Le__law_widened_4, wipe1, iD, e', eg, es, -List.getD_eq_getElem?_getD, -oIxS])
  have l1' : lcF [5] (gNm 5) fYes Le__law_widened_4 (okLive ⟨rngD 0 pl.length, []⟩) (rngD 0 pl.length) [some (plD pl ws), some (stD (begS ws)), some (lD l), x3, x4, x5] S = .ok ((List.range pl.length).map fun i => D.str (lSign pl l i)) S := by
    rw [rngD0]
    exact l1
  have j := wide_join (pl := pl) (by omega) l S
  have tm2 : tooMany 2 = false := rfl
  have tn : tooMany pl.length = false := tm_of (by omega)
  have tn' : tooMany pl.cps.size = false := tn
  obtain ⟨O, T, eg, _, hO⟩ := l_good_ok GW g hm S
  have pe : D.tup [D.str (wide pl l), D.tup (ws.map wk)] = plD (wide pl l) ws := rfl
  have hin : begS ws ∈ O := hO _ .refl
  have hat : (S ++ T ++ [dnO O (cB (wide pl l) ws)])[(S ++ T).length]? = some (dnO O (cB (wide pl l) ws)) := by simp
  have ix := dn_ix (v := cB (wide pl l) ws) hat hin
  refine ⟨T ++ [dnO O (cB (wide pl l) ws)], ?_⟩
  rw [← List.append_assoc]
  unfold L__law_widened_5
  cases hc : servesB pl ws l with
  | true =>
    have hcb : cB (wide pl l) ws (begS ws) = .bl true := congrArg D.bl hc
    rw [hcb] at ix
    simp [tn, tn', l1', j, tm2, pe, eg, ix, -List.append_assoc, -List.length_append]
  | false =>
    have hcb : cB (wide pl l) ws (begS ws) = .bl false := congrArg D.bl hc
    rw [hcb] at ix
    simp [tn, tn', l1', j, tm2, pe, eg, ix, -List.append_assoc, -List.length_append]
theorem lw_in (G : GoodPlan pl ws) (hm : many ws (begS ws) ≤ 15000) (x4 x5 : Option D) (ok : Sto → Bool) (hok : ∀ S, ok S = true) : ∀ (xs : List (List Nat)) (x2 x3 : Option D) (S : Sto),
    ∃ T, (∃ F, xs.find? (servesB pl ws) = some F ∧ loopF (gNm 2) L__law_widened_5 ok (xs.map lD) [some (plD pl ws), some (stD (begS ws)), x2, x3, x4, x5] S = .rt (lD F) (S ++ T)) ∨
      (xs.find? (servesB pl ws) = none ∧ ∃ y2 y3, loopF (gNm 2) L__law_widened_5 ok (xs.map lD) [some (plD pl ws), some (stD (begS ws)), x2, x3, x4, x5] S = .nx [some (plD pl ws), some (stD (begS ws)), y2, y3, x4, x5] (S ++ T))
  | [], x2, x3, S => by
    refine ⟨[], .inr ⟨rfl, x2, x3, ?_⟩⟩
    rw [List.append_nil]
    show (if ok S then (OutS.nx _ S) else .stuck) = _
    rw [if_pos (hok S)]
  | l :: xs, x2, x3, S => by
    obtain ⟨T, e⟩ := lw_one G hm l x3 x4 x5 S
    rw [List.find?_cons, List.map_cons]
    unfold loopF
    rw [if_pos (hok S)]
    have eg : gNm 2 (lD l) [some (plD pl ws), some (stD (begS ws)), x2, x3, x4, x5] S = some ([some (plD pl ws), some (stD (begS ws)), some (lD l), x3, x4, x5], S) := rfl
    rw [eg]
    dsimp only
    rw [e]
    cases hc : servesB pl ws l with
    | true => exact ⟨T, .inl ⟨l, rfl, rfl⟩⟩
    | false =>
      obtain ⟨T2, h⟩ := lw_in G hm x4 x5 ok hok xs (some (lD l)) (some (plD (wide pl l) ws)) (S ++ T)
      refine ⟨T ++ T2, ?_⟩
      rw [← List.append_assoc]
      exact h
def optD : Option (List Nat) → D
  | some F => lD F
  | none => .non
theorem lwid_ok (G : GoodPlan pl ws) (hm : many ws (begS ws) ≤ 15000) (S : Sto) : ∃ T, f__law_widened [plD pl ws] S = .ok (optD (widL pl ws)) (S ++ T) := by
  obtain ⟨hp1, hp2⟩ := G.gp.len
  have hsl := stepsL_len pl
  have itw : ∀ S, itOf (.tup (ws.map wk)) S = some ⟨ws.map wk, []⟩ := fun _ => rfl
  have l1 := lcF_map (own := [4]) (g := gNm 4) (tt := fYes) (te := Le__law_widened_1) (ok := okLive ⟨ws.map wk, []⟩) (σ := [some (plD pl ws), none, none, none, none, none]) (S := S) ws wk (fun w => .int (w.1 : Nat)) rfl (by
    intro w _
    refine ⟨_, rfl, rfl, ?_⟩
    simp [Le__law_widened_1, wipe1, wk_def, wk0])
  have tp : ∀ S, tupleD (.lst (ws.map fun w => D.int (w.1 : Nat))) S = some (stD (begS ws)) := fun S => by
    show some (D.tup (ws.map fun w => D.int (w.1 : Nat))) = some (D.tup ((ws.map fun w => some w.1).map oD))
    rw [List.map_map]
    rfl
  obtain ⟨S', l2, hS'⟩ := lcF_filt (own := [5]) (g := gNm 5) (tt := Lt__law_widened_2) (te := Le__law_widened_3) (ok := okLive ⟨rngD 0 pl.length, []⟩) (σ := [some (plD pl ws), some (stD (begS ws)), none, none, none, none]) (List.range pl.length) iD iD (fun i => decide ((TL.tl pl).getD i 0 = 115)) (fun S' => S' = S) (fun _ _ => rfl) (by
    rintro i hi S' rfl
    have e := eq_s ((TL.tl pl).getD i 0)
    have es := sgn (pl := pl) (by omega) (List.mem_range.mp hi) S'
    refine ⟨_, rfl, _, ?_, rfl, fun _ => ?_⟩
    · simp [Lt__law_widened_2, wipe1, iD, es, e, -List.getD_eq_getElem?_getD, -oIxS]
    · simp [Le__law_widened_3, wipe1, iD]) S rfl
  subst hS'
  have l2' : lcF [5] (gNm 5) Lt__law_widened_2 Le__law_widened_3 (okLive ⟨rngD 0 pl.length, []⟩) (rngD 0 pl.length) [some (plD pl ws), some (stD (begS ws)), none, none, none, none] S' = .ok ((stepsL pl).map iD) S' := by
    rw [rngD0]
    exact l2
  have hrise : (stepsL pl).Pairwise (· < ·) := List.pairwise_lt_range.sublist List.filter_sublist
  have l3 := lists_ok (stepsL pl) (by omega) hrise S'
  have itC : ∀ S, itOf (.lst ((cands (stepsL pl)).map lD)) S = some ⟨(cands (stepsL pl)).map lD, []⟩ := fun _ => rfl
  obtain ⟨T, h⟩ := lw_in G hm none none (okLive ⟨(cands (stepsL pl)).map lD, []⟩) (fun _ => rfl) (cands (stepsL pl)) none none S'
  have tn : tooMany pl.length = false := tm_of (by omega)
  have tn' : tooMany pl.cps.size = false := tn
  refine ⟨T, ?_⟩
  unfold widL
  rcases h with ⟨F, h1, h2⟩ | ⟨h1, y2, y3, h2⟩
  · rw [h1]
    unfold f__law_widened g__law_widened
    simp [itw, l1, tp, tn, tn', l2', l3, itC, h2, optD]
  · rw [h1]
    unfold f__law_widened g__law_widened
    simp [itw, l1, tp, tn, tn', l2', l3, itC, h2, optD]
theorem okA_opt (F : List Nat) (h : F.length ≤ 100000) : okA 10 (lD F) := by
  show (F.map iD).length ≤ 100000 ∧ ∀ x ∈ F.map iD, okA 9 x
  refine ⟨by rw [List.length_map]; exact h, fun x hx => ?_⟩
  obtain ⟨k, _, rfl⟩ := List.mem_map.mp hx
  exact True.intro
theorem okA_no : okA 10 (.tup [.str "NoWay", .int 0]) := by
  refine ⟨by decide, fun x hx => ?_⟩
  simp only [List.mem_cons, List.not_mem_nil, or_false] at hx
  rcases hx with rfl | rfl <;> exact True.intro
abbrev sl (a0 : Option D) (pl : Str) (ws : List Wk) (x4 : Option D) : Sl := [a0, some (.ref 1), some (plD pl ws), some (optD (widL pl ws)), x4]
theorem again_step (G : GoodPlan pl ws) (hm : many ws (begS ws) ≤ 15000) (a0 x4 : Option D) (ns : List Int) (z : Int) (R : Sto) : ∃ R', L_law_2 (sl a0 pl ws x4) (bx ns z R) = .nx (sl a0 pl ws x4) (bx ns z R') := by
  obtain ⟨T, h⟩ := widened_ok G (Nat.le_trans hm (by decide)) (bx ns z R)
  have hsl := stepsL_len pl
  have few := G.gp.len
  have tm2 : tooMany 2 = false := rfl
  refine ⟨R ++ T, ?_⟩
  rcases h with ⟨F, h1, e⟩ | ⟨h1, e⟩
  · have e' : f_widened [plD pl ws] (bx ns z R) = .ok (lD F) (bx ns z (R ++ T)) := e
    have hF : F.length ≤ 100000 := by
      have h2 := (mem_cands.mp (List.mem_of_find?_eq_some h1)).length_le
      omega
    have td : fTold (fun c => ht_StairError.lookup c) R__law_told Lm_law_1 (sl a0 pl ws x4) (bx ns z R) = .ok (lD F) (bx ns z (R ++ T)) := told_ok (by simp [Lm_law_1, e'])
    have al := alike_ok 10 (lD F) (okA_opt F hF) (bx ns z (R ++ T))
    have o1 : ∀ S, opNotN (lD F) .non S = some (.bl true) := fun _ => rfl
    unfold sl at td ⊢
    rw [h1] at td ⊢
    unfold optD at td ⊢
    unfold L_law_2
    simp [td, o1, al]
  · have e' : f_widened [plD pl ws] (bx ns z R) = .exc ⟨X_NoWay, []⟩ (bx ns z (R ++ T)) := e
    have td : fTold (fun c => ht_StairError.lookup c) R__law_told Lm_law_1 (sl a0 pl ws x4) (bx ns z R) = .ok (.tup [.str "NoWay", .int 0]) (bx ns z (R ++ T)) := told_exc (x := ⟨X_NoWay, []⟩) (fs := []) (by simp [Lm_law_1, e']) rfl rfl rfl
    have al := alike_ok 10 (.tup [.str "NoWay", .int 0]) okA_no (bx ns z (R ++ T))
    have o1 : ∀ S, opNotN .non .non S = some (.bl false) := fun _ => rfl
    unfold sl at td ⊢
    rw [h1] at td ⊢
    unfold optD at td ⊢
    unfold L_law_2
    simp [td, o1, al, tm2]
theorem law_true : ∀ ns : List Int, ns.length ≤ 63 → ∃ S, f_law [.scr (ns.map D.int)] [] = .ok (.bl true) S := by
  intro ns0 _
  obtain ⟨z0, e0⟩ := begun_ok ns0
  obtain ⟨pl1, ws1, ns1, z1, x1, y1, e1, G1, hpl1, hws1⟩ := plan_ok (L := 7) (C := 3) (Ld := 1) (by decide) (by decide) (by decide) (by decide) (by decide) (by decide) ns0 z0 []
  obtain ⟨R1, hR1⟩ : ∃ R1, R1 = ([] : Sto) ++ [x1, y1] := ⟨_, rfl⟩
  rw [← hR1] at e1
  obtain ⟨pl2, ws2, ns2, z2, x2, y2, e2, G2, hpl2, hws2⟩ := plan_ok (L := 5) (C := 4) (Ld := 1) (by decide) (by decide) (by decide) (by decide) (by decide) (by decide) ns1 z1 R1
  obtain ⟨t, ns3, z3, e3, h0, h1⟩ := take_ok ns2 z2 (R1 ++ [x2, y2]) 2 (by decide) (by decide)
  have pe1 : D.tup [D.str pl1, D.tup (ws1.map wk)] = plD pl1 ws1 := rfl
  have pe2 : D.tup [D.str pl2, D.tup (ws2.map wk)] = plD pl2 ws2 := rfl
  rw [pe1] at e1
  rw [pe2] at e2
  have fit : ∀ (pl : Str) (ws : List Wk) (a b : Nat), GoodPlan pl ws → pl.length ≤ a → ws.length ≤ b → a ^ b ≤ 15000 → 1 ≤ a → many ws (begS ws) ≤ 15000 := fun pl ws a b G h1 h2 h3 ha => by
    obtain ⟨hl1, hl2⟩ := G.gp.len
    have h := many_le ws (begS ws) pl.length (fun w hw => ⟨(G.part.at_ w hw).1, (G.part.at_ w hw).2.1⟩) (begS_leg G).way (by omega)
    have h4 : pl.length ^ ws.length ≤ a ^ ws.length := Nat.pow_le_pow_left h1 _
    have h5 : a ^ ws.length ≤ a ^ b := Nat.pow_le_pow_right ha h2
    omega
  have pk : ∃ pl ws, GoodPlan pl ws ∧ many ws (begS ws) ≤ 15000 ∧ L2.atI [plD pl1 ws1, plD pl2 ws2] t = some (plD pl ws) := by
    have : t = 0 ∨ t = 1 := by omega
    rcases this with rfl | rfl
    · exact ⟨pl1, ws1, G1, fit pl1 ws1 7 3 G1 (by omega) (by omega) (by decide) (by decide), rfl⟩
    · exact ⟨pl2, ws2, G2, fit pl2 ws2 5 4 G2 (by omega) (by omega) (by decide) (by decide), rfl⟩
  obtain ⟨pl, ws, G, hm, pk1⟩ := pk
  obtain ⟨R3, hR3⟩ : ∃ R3, R3 = R1 ++ [x2, y2] := ⟨_, rfl⟩
  rw [← hR3] at e2 e3
  obtain ⟨T4, e4⟩ := lwid_ok G hm (bx ns3 z3 R3)
  have e4' : f__law_widened [plD pl ws] (bx ns3 z3 R3) = .ok (optD (widL pl ws)) (bx ns3 z3 (R3 ++ T4)) := e4
  obtain ⟨σ', S', el, x5, R5, rfl, rfl⟩ := loopF_inv (g := gNm 4) (b := L_law_2) (ok := okLive ⟨rngD 0 2, []⟩)
    (fun ds σ S => ∃ x5 R', σ = sl (some (.scr (ns0.map D.int))) pl ws x5 ∧ S = bx ns3 z3 R')
    (fun σ S => ∃ x5 R', σ = sl (some (.scr (ns0.map D.int))) pl ws x5 ∧ S = bx ns3 z3 R') (fun _ _ _ _ => rfl) (fun _ _ h => h)
    (by
      rintro d ds σ S ⟨x5, R', rfl, rfl⟩
      obtain ⟨R6, e⟩ := again_step G hm (some (.scr (ns0.map D.int))) (some d) ns3 z3 R'
      exact ⟨_, _, rfl, .inl ⟨_, _, e, some d, R6, rfl, rfl⟩⟩)
    (rngD 0 2) (sl (some (.scr (ns0.map D.int))) pl ws none) (bx ns3 z3 (R3 ++ T4)) ⟨none, _, rfl, rfl⟩
  have tm2 : tooMany 2 = false := rfl
  refine ⟨bx ns3 z3 R5, ?_⟩
  unfold f_law g_law
  simp [e0, e1, e2, e3, tm2, pk1, e4', el]
end
end K07

set_option maxHeartbeats 0
namespace K07
open PySem PySem.Spec L2 Fx
variable {P : Program} {w : World} {K : PySem.W.Frag} {mg : PySem.Str → Option Value} {base : Heap} {cl : Nat → Addr}
theorem ok_law (fc : Fc P w K mg cl tb base ct) {f : Addr} {fd : FuncData} (F : FunD K "law" "law" (defArgs s_law) (defBody s_law) (defScope s_law) [] [] f fd) : fd.code = .ref (ct 2).1 → FnOk P w K mg base (L2.CX P w) 69 f fd ["_law_script"] (spF ⟨P, w, K, cl, tb⟩ 1 f_law) :=
  fun hcode => fn_bodyC N_law ["_law_script"] F hcode S_law fun A outer s H E hr => (fun (h : Here (cxOf (L2.CX P w) P w K mg base N_law "law" (defScope s_law) f (.ref (ct 2).1) A outer s H E) (fun cls d _ H => E cls d H) 68) =>
  (jss_cons (js_set 1 S_law.nd (je_call (c__law_begun fc) h (by decide) (ja_cons (je_var 0) ja_nil)))
  (jss_cons (js_set 2 S_law.nd (je_ix (je_frz (jl_lst (ja_cons (je_call (c__law_plan fc) h (by decide) (ja_cons (je_var 1) (ja_cons je_int (ja_cons je_int (ja_cons je_int ja_nil))))) (ja_cons (je_call (c__law_plan fc) h (by decide) (ja_cons (je_var 1) (ja_cons je_int (ja_cons je_int (ja_cons je_int ja_nil))))) ja_nil)))) (je_call (c__law_take fc) h (by decide) (ja_cons (je_var 1) (ja_cons je_int ja_nil)))))
  (jss_cons (js_set 3 S_law.nd (je_call (c__law_widened fc) h (by decide) (ja_cons (je_var 2) ja_nil)))
  (jss_cons (js_for h.own rfl (ji_range1 fc.fr_range (ja_cons je_int ja_nil)) (jg_name 4 S_law.nd) (jss_one (js_if (jt_not (jt_val (je_call (c__law_alike fc _) h (by decide) (ja_cons (je_told (k := 66) (cb := 1) (i := 1) (gs := U__law_told) h (by decide) (c__law_told fc) fc.m_StairError fc.ht_StairError (su__law_told fc) H__law_told fc.tab2 rfl fc.tbm2 fc.tbu2 (fun A2 o2 s2 H2 E2 f2 c2 hl2 => (je_call (c_widened fc) hl2 (by decide) (ja_cons (je_var 2) ja_nil))) S__law_told.nd (fun _ _ _ _ _ => rfl)) (ja_cons (je_if (jt_c1 o_isNot (je_var 3) je_non) (je_var 3) (je_tup (ja_cons je_str (ja_cons je_int ja_nil)))) ja_nil))))) (jss_one (js_ret je_bl)) jss_nil)))
  (jss_one (js_ret je_bl))))))) (here_def hr)
theorem fc_of {P : Program} {w : World} {K : PySem.W.Frag} {h : Heap} {mg : PySem.Str → Option Value} {base : Heap} (X : K.In h) (G : h.Ns mainGlobals mg) (c : He.SaysX fa fn ts tf ex w h K) (hTB : ∀ p ∈ tf.map (He.cT K), LamX.TabB base mg p.1 p.2) : Fc P w K mg (clsOf K) (tbOf K) base (ctOf K) where
  tab0 := hTB (He.cT K ("_law_good", none)) (List.mem_map.mpr ⟨("_law_good", none), List.mem_of_getElem? (i := 0) rfl, rfl⟩)
  tbm0 := List.mem_of_getElem? (i := 0) rfl
  tbu0 := tbB_ok (band_l (band_r (band_r (band_r (band_r (band_r (band_r (band_r (band_r (band_r (band_r (band_r (band_r (band_r (band_r (band_r (band_r (band_r (band_r (band_r c.more))))))))))))))))))))
  tab1 := hTB (He.cT K ("_law_lists", none)) (List.mem_map.mpr ⟨("_law_lists", none), List.mem_of_getElem? (i := 1) rfl, rfl⟩)
  tbm1 := List.mem_of_getElem? (i := 1) rfl
  tbu1 := tbB_ok (band_l (band_r (band_r (band_r (band_r (band_r (band_r (band_r (band_r (band_r (band_r (band_r (band_r (band_r (band_r (band_r (band_r (band_r (band_r (band_r (band_r c.more)))))))))))))))))))))
  tab2 := hTB (He.cT K ("law", none)) (List.mem_map.mpr ⟨("law", none), List.mem_of_getElem? (i := 2) rfl, rfl⟩)
  tbm2 := List.mem_of_getElem? (i := 2) rfl
  tbu2 := tbB_ok (band_l (band_r (band_r (band_r (band_r (band_r (band_r (band_r (band_r (band_r (band_r (band_r (band_r (band_r (band_r (band_r (band_r (band_r (band_r (band_r (band_r (band_r c.more))))))))))))))))))))))
  fr_ValueError := He.free_ok X G (c.t.d.fact 0 (f := .free "ValueError") rfl)
  fr_abs := He.free_ok X G (c.t.d.fact 1 (f := .free "abs") rfl)
  fr_all := He.free_ok X G (c.t.d.fact 2 (f := .free "all") rfl)
  fr_any := He.free_ok X G (c.t.d.fact 3 (f := .free "any") rfl)
  fr_bool := He.free_ok X G (c.t.d.fact 4 (f := .free "bool") rfl)
  fr_enumerate := He.free_ok X G (c.t.d.fact 5 (f := .free "enumerate") rfl)
  fr_int := He.free_ok X G (c.t.d.fact 6 (f := .free "int") rfl)
  fr_isinstance := He.free_ok X G (c.t.d.fact 7 (f := .free "isinstance") rfl)
  fr_len := He.free_ok X G (c.t.d.fact 8 (f := .free "len") rfl)
  fr_list := He.free_ok X G (c.t.d.fact 9 (f := .free "list") rfl)
  fr_range := He.free_ok X G (c.t.d.fact 10 (f := .free "range") rfl)
  fr_sorted := He.free_ok X G (c.t.d.fact 11 (f := .free "sorted") rfl)
  fr_str := He.free_ok X G (c.t.d.fact 12 (f := .free "str") rfl)
  fr_tuple := He.free_ok X G (c.t.d.fact 13 (f := .free "tuple") rfl)
  fr_zip := He.free_ok X G (c.t.d.fact 14 (f := .free "zip") rfl)
  i_LEAST_PLACES := He.int_ok X G (c.t.d.fact 15 (f := .int "LEAST_PLACES" (2)) rfl)
  i_MOST_LOAD := He.int_ok X G (c.t.d.fact 16 (f := .int "MOST_LOAD" (3)) rfl)
  i_MOST_PLACES := He.int_ok X G (c.t.d.fact 17 (f := .int "MOST_PLACES" (12)) rfl)
  i_MOST_STATES := He.int_ok X G (c.t.d.fact 18 (f := .int "MOST_STATES" (20000)) rfl)
  i_MOST_WALKERS := He.int_ok X G (c.t.d.fact 19 (f := .int "MOST_WALKERS" (5)) rfl)
  s_LANDING := He.str_ok X G (c.t.d.fact 20 (f := .str "LANDING" "l") rfl)
  s_STEP := He.str_ok X G (c.t.d.fact 21 (f := .str "STEP" "s") rfl)
  t_ROOM := tabAt_of (band_l c.more) (He.glo_ok X G (c.t.d.fact 53 (f := .glo "ROOM") rfl)) (c.t.tab 0)
  fl_number := fldB_ok (band_l (band_r c.more))
  fl_part := fldB_ok (band_l (band_r (band_r c.more)))
  fl_row := fldB_ok (band_l (band_r (band_r (band_r c.more))))
  ht_StairError := hitB_ok (band_l (band_r (band_r (band_r (band_r c.more)))))
  B_StairError := iniB_ok (band_l (band_r (band_r (band_r (band_r (band_r c.more))))))
  kt_BadCount := kitB_ok (band_l (band_r (band_r (band_r (band_r (band_r (band_r c.more)))))))
  kt_BadDay := kitB_ok (band_l (band_r (band_r (band_r (band_r (band_r (band_r (band_r c.more))))))))
  kt_BadPlan := kitB_ok (band_l (band_r (band_r (band_r (band_r (band_r (band_r (band_r (band_r c.more)))))))))
  kt_BadRule := kitB_ok (band_l (band_r (band_r (band_r (band_r (band_r (band_r (band_r (band_r (band_r c.more))))))))))
  kt_BadState := kitB_ok (band_l (band_r (band_r (band_r (band_r (band_r (band_r (band_r (band_r (band_r (band_r c.more)))))))))))
  kt_BadText := kitB_ok (band_l (band_r (band_r (band_r (band_r (band_r (band_r (band_r (band_r (band_r (band_r (band_r c.more))))))))))))
  kt_BadWalk := kitB_ok (band_l (band_r (band_r (band_r (band_r (band_r (band_r (band_r (band_r (band_r (band_r (band_r (band_r c.more)))))))))))))
  kt_NoRoom := kitB_ok (band_l (band_r (band_r (band_r (band_r (band_r (band_r (band_r (band_r (band_r (band_r (band_r (band_r (band_r c.more))))))))))))))
  kt_NoWalker := kitB_ok (band_l (band_r (band_r (band_r (band_r (band_r (band_r (band_r (band_r (band_r (band_r (band_r (band_r (band_r (band_r c.more)))))))))))))))
  kt_NoWay := kitB_ok (band_l (band_r (band_r (band_r (band_r (band_r (band_r (band_r (band_r (band_r (band_r (band_r (band_r (band_r (band_r (band_r c.more))))))))))))))))
  kt_TooMany := kitB_ok (band_l (band_r (band_r (band_r (band_r (band_r (band_r (band_r (band_r (band_r (band_r (band_r (band_r (band_r (band_r (band_r (band_r c.more)))))))))))))))))
  kv_ValueError := kitVB_ok (band_l (band_r (band_r (band_r (band_r (band_r (band_r (band_r (band_r (band_r (band_r (band_r (band_r (band_r (band_r (band_r (band_r (band_r c.more))))))))))))))))))
  T_BadPlan := oexB_ok (band_l (band_r (band_r (band_r (band_r (band_r (band_r (band_r (band_r (band_r (band_r (band_r (band_r (band_r (band_r (band_r (band_r (band_r (band_r c.more)))))))))))))))))))
  m_BadCount := (He.glo_ok X G (c.t.d.fact 61 (f := .glo "BadCount") rfl))
  m_BadDay := (He.glo_ok X G (c.t.d.fact 58 (f := .glo "BadDay") rfl))
  m_BadPlan := (He.glo_ok X G (c.t.d.fact 56 (f := .glo "BadPlan") rfl))
  m_BadRule := (He.glo_ok X G (c.t.d.fact 60 (f := .glo "BadRule") rfl))
  m_BadState := (He.glo_ok X G (c.t.d.fact 57 (f := .glo "BadState") rfl))
  m_BadText := (He.glo_ok X G (c.t.d.fact 59 (f := .glo "BadText") rfl))
  m_BadWalk := (He.glo_ok X G (c.t.d.fact 62 (f := .glo "BadWalk") rfl))
  m_NoRoom := (He.glo_ok X G (c.t.d.fact 63 (f := .glo "NoRoom") rfl))
  m_NoWalker := (He.glo_ok X G (c.t.d.fact 64 (f := .glo "NoWalker") rfl))
  m_NoWay := (He.glo_ok X G (c.t.d.fact 65 (f := .glo "NoWay") rfl))
  m_StairError := (He.glo_ok X G (c.t.d.fact 55 (f := .glo "StairError") rfl))
  m_TooMany := (He.glo_ok X G (c.t.d.fact 66 (f := .glo "TooMany") rfl))
  n_BadPlan_number := He.eqO_ok (c.t.d.fact 74 (f := .noat "BadPlan" "number") rfl)
  n_BadPlan_part := He.eqO_ok (c.t.d.fact 75 (f := .noat "BadPlan" "part") rfl)
  x0_NoWay := let ⟨q, k, b, t⟩ := He.exc_ok (c.t.d.fact 76 (f := .exc "NoWay") rfl); ⟨q, k, b, t, (He.glo_ok X G (c.t.d.fact 65 (f := .glo "NoWay") rfl))⟩
  x0_TooMany := let ⟨q, k, b, t⟩ := He.exc_ok (c.t.d.fact 77 (f := .exc "TooMany") rfl); ⟨q, k, b, t, (He.glo_ok X G (c.t.d.fact 66 (f := .glo "TooMany") rfl))⟩
  a_known := ⟨fun n hn => match n, hn with | 0, _ => ⟨He.cls_ok (c.t.d.fact 67 (f := .cls "Seeker") rfl), He.noat_ok (c.t.d.fact 68 (f := .noat "Seeker" "known") rfl)⟩ | n + 1, h => absurd h (by omega)⟩
  a_plan := ⟨fun n hn => match n, hn with | 0, _ => ⟨He.cls_ok (c.t.d.fact 67 (f := .cls "Seeker") rfl), He.noat_ok (c.t.d.fact 69 (f := .noat "Seeker" "plan") rfl)⟩ | n + 1, h => absurd h (by omega)⟩
  d__law_alike := let ⟨fd, F⟩ := c.t.d.def_ 0 (d := dd__law_alike) rfl; ⟨_, fd, F, He.glo_ok X G (c.t.d.fact 22 (f := .glo "_law_alike") rfl)⟩
  d__law_begun := let ⟨fd, F⟩ := c.t.d.def_ 1 (d := dd__law_begun) rfl; ⟨_, fd, F, He.glo_ok X G (c.t.d.fact 23 (f := .glo "_law_begun") rfl)⟩
  d__law_take := let ⟨fd, F⟩ := c.t.d.def_ 2 (d := dd__law_take) rfl; ⟨_, fd, F, He.glo_ok X G (c.t.d.fact 24 (f := .glo "_law_take") rfl)⟩
  d__law_places := let ⟨fd, F⟩ := c.t.d.def_ 3 (d := dd__law_places) rfl; ⟨_, fd, F, He.glo_ok X G (c.t.d.fact 25 (f := .glo "_law_places") rfl)⟩
  d__law_plan := let ⟨fd, F⟩ := c.t.d.def_ 4 (d := dd__law_plan) rfl; ⟨_, fd, F, He.glo_ok X G (c.t.d.fact 26 (f := .glo "_law_plan") rfl)⟩
  d__law_told := let ⟨fd, F⟩ := c.t.d.def_ 5 (d := dd__law_told) rfl; ⟨_, fd, F, He.glo_ok X G (c.t.d.fact 27 (f := .glo "_law_told") rfl)⟩
  d__law_left := let ⟨fd, F⟩ := c.t.d.def_ 6 (d := dd__law_left) rfl; ⟨_, fd, F, He.glo_ok X G (c.t.d.fact 28 (f := .glo "_law_left") rfl)⟩
  d__law_next := let ⟨fd, F⟩ := c.t.d.def_ 7 (d := dd__law_next) rfl; ⟨_, fd, F, He.glo_ok X G (c.t.d.fact 29 (f := .glo "_law_next") rfl)⟩
  d__law_gone := let ⟨fd, F⟩ := c.t.d.def_ 8 (d := dd__law_gone) rfl; ⟨_, fd, F, He.glo_ok X G (c.t.d.fact 30 (f := .glo "_law_gone") rfl)⟩
  d__law_may := let ⟨fd, F⟩ := c.t.d.def_ 9 (d := dd__law_may) rfl; ⟨_, fd, F, He.glo_ok X G (c.t.d.fact 31 (f := .glo "_law_may") rfl)⟩
  d__law_reach := let ⟨fd, F⟩ := c.t.d.def_ 10 (d := dd__law_reach) rfl; ⟨_, fd, F, He.glo_ok X G (c.t.d.fact 32 (f := .glo "_law_reach") rfl)⟩
  d__law_good := let ⟨fd, F⟩ := c.t.d.def_ 11 (d := dd__law_good) rfl; ⟨_, fd, F, He.glo_ok X G (c.t.d.fact 33 (f := .glo "_law_good") rfl), code_fun F⟩
  d__law_lists := let ⟨fd, F⟩ := c.t.d.def_ 12 (d := dd__law_lists) rfl; ⟨_, fd, F, He.glo_ok X G (c.t.d.fact 34 (f := .glo "_law_lists") rfl), code_fun F⟩
  d__law_widened := let ⟨fd, F⟩ := c.t.d.def_ 13 (d := dd__law_widened) rfl; ⟨_, fd, F, He.glo_ok X G (c.t.d.fact 35 (f := .glo "_law_widened") rfl)⟩
  d_Seeker___init__ := let ⟨fd, F⟩ := c.t.d.def_ 14 (d := dd_Seeker___init__) rfl; ⟨_, fd, F, He.mkr_ok (c.t.d.fact 70 (f := .mkr "Seeker") rfl), He.glo_ok X G (c.t.d.fact 54 (f := .glo "Seeker") rfl)⟩
  d_way_of := let ⟨fd, F⟩ := c.t.d.def_ 15 (d := dd_way_of) rfl; ⟨_, fd, F, He.glo_ok X G (c.t.d.fact 36 (f := .glo "way_of") rfl)⟩
  d_next_of := let ⟨fd, F⟩ := c.t.d.def_ 16 (d := dd_next_of) rfl; ⟨_, fd, F, He.glo_ok X G (c.t.d.fact 37 (f := .glo "next_of") rfl)⟩
  d_gone_on := let ⟨fd, F⟩ := c.t.d.def_ 17 (d := dd_gone_on) rfl; ⟨_, fd, F, He.glo_ok X G (c.t.d.fact 38 (f := .glo "gone_on") rfl)⟩
  d_room := let ⟨fd, F⟩ := c.t.d.def_ 18 (d := dd_room) rfl; ⟨_, fd, F, He.glo_ok X G (c.t.d.fact 39 (f := .glo "room") rfl)⟩
  d_has_room := let ⟨fd, F⟩ := c.t.d.def_ 19 (d := dd_has_room) rfl; ⟨_, fd, F, He.glo_ok X G (c.t.d.fact 40 (f := .glo "has_room") rfl)⟩
  d_may_go := let ⟨fd, F⟩ := c.t.d.def_ 20 (d := dd_may_go) rfl; ⟨_, fd, F, He.glo_ok X G (c.t.d.fact 41 (f := .glo "may_go") rfl)⟩
  d_Seeker_later := let ⟨fd, F⟩ := c.t.d.def_ 21 (d := dd_Seeker_later) rfl; ⟨_, fd, F, He.meth_ok (c.t.d.fact 71 (f := .meth "Seeker" "later") rfl), He.cls_ok (c.t.d.fact 67 (f := .cls "Seeker") rfl)⟩
  d_Seeker_can := let ⟨fd, F⟩ := c.t.d.def_ 22 (d := dd_Seeker_can) rfl; ⟨_, fd, F, He.meth_ok (c.t.d.fact 72 (f := .meth "Seeker" "can") rfl), He.cls_ok (c.t.d.fact 67 (f := .cls "Seeker") rfl)⟩
  d_begin_of := let ⟨fd, F⟩ := c.t.d.def_ 23 (d := dd_begin_of) rfl; ⟨_, fd, F, He.glo_ok X G (c.t.d.fact 42 (f := .glo "begin_of") rfl)⟩
  d_chosen := let ⟨fd, F⟩ := c.t.d.def_ 24 (d := dd_chosen) rfl; ⟨_, fd, F, He.glo_ok X G (c.t.d.fact 43 (f := .glo "chosen") rfl)⟩
  d_left_of := let ⟨fd, F⟩ := c.t.d.def_ 25 (d := dd_left_of) rfl; ⟨_, fd, F, He.glo_ok X G (c.t.d.fact 44 (f := .glo "left_of") rfl)⟩
  d_need_few := let ⟨fd, F⟩ := c.t.d.def_ 26 (d := dd_need_few) rfl; ⟨_, fd, F, He.glo_ok X G (c.t.d.fact 45 (f := .glo "need_few") rfl)⟩
  d_BadPlan___init__ := let ⟨fd, F⟩ := c.t.d.def_ 27 (d := dd_BadPlan___init__) rfl; ⟨_, fd, F, He.meth_ok (c.t.d.fact 73 (f := .meth "BadPlan" "__init__") rfl)⟩
  d_is_number := let ⟨fd, F⟩ := c.t.d.def_ 28 (d := dd_is_number) rfl; ⟨_, fd, F, He.glo_ok X G (c.t.d.fact 46 (f := .glo "is_number") rfl)⟩
  d_is_walker := let ⟨fd, F⟩ := c.t.d.def_ 29 (d := dd_is_walker) rfl; ⟨_, fd, F, He.glo_ok X G (c.t.d.fact 47 (f := .glo "is_walker") rfl)⟩
  d_need_places := let ⟨fd, F⟩ := c.t.d.def_ 30 (d := dd_need_places) rfl; ⟨_, fd, F, He.glo_ok X G (c.t.d.fact 48 (f := .glo "need_places") rfl)⟩
  d_need_plan := let ⟨fd, F⟩ := c.t.d.def_ 31 (d := dd_need_plan) rfl; ⟨_, fd, F, He.glo_ok X G (c.t.d.fact 49 (f := .glo "need_plan") rfl)⟩
  d_with_landings := let ⟨fd, F⟩ := c.t.d.def_ 32 (d := dd_with_landings) rfl; ⟨_, fd, F, He.glo_ok X G (c.t.d.fact 50 (f := .glo "with_landings") rfl)⟩
  d_widened := let ⟨fd, F⟩ := c.t.d.def_ 33 (d := dd_widened) rfl; ⟨_, fd, F, He.glo_ok X G (c.t.d.fact 51 (f := .glo "widened") rfl)⟩
  d_law := let ⟨fd, F⟩ := c.t.d.def_ 34 (d := dd_law) rfl; ⟨_, fd, F, He.glo_ok X G (c.t.d.fact 52 (f := .glo "law") rfl), code_fun F⟩
end K07
theorem PySem.Challenge.cw_crowdstairs_k07_landings_that_are_wanted_holds : PySem.Challenge.rw_crowdstairs_k07_landings_that_are_wanted.Holds := by
  open PySem PySem.W PySem.Calls PyProof.Rows in
  (w_on; o_law)
  open PySem PySem.W PySem.Calls PyProof.Rows in
  refine HandSHeadRun.head_any (r := OpenLaw.row PySem.Challenge.rw_crowdstairs_k07_landings_that_are_wanted) (q := view (OpenLaw.row PySem.Challenge.rw_crowdstairs_k07_landings_that_are_wanted).prog [57]) (H := K07.hk) (ob := K07.ob) (M := 40000) (loose := K07.loose) (d := HandSHeadRun.topDef (OpenLaw.row PySem.Challenge.rw_crowdstairs_k07_landings_that_are_wanted).prog 57) (kwd := []) K07.ob_eq
    (by kernel_rfl) (fun s => by kernel_rfl) K07.run (by kernel_rfl) (by kernel_rfl) (by kernel_rfl) (by rfl) (by first | assumption | decide +kernel) (by decide +kernel) ⟨rfl, rfl, rfl, rfl, rfl, by decide +kernel⟩ ?hw ?hc
  case hw => open PySem PySem.W PySem.Calls PyProof.Rows in w_witness2
  case hc =>
    refine LamX.walk_ofTsE (l := PySem.Challenge.rw_crowdstairs_k07_landings_that_are_wanted) (n := 63) (k := 69) (x := "_law_script") (CX := fun w => L2.CX (PySem.Challenge.rw_crowdstairs_k07_landings_that_are_wanted).prog w) rfl (by decide) (by kernel_rfl) ⟨rfl, by decide, by decide⟩ ?F (fun w H s e s' z => Fx.cx_no H s e s' z)
    intro w mg fa h Y G hmg0
    obtain ⟨K, KX, c⟩ := Y
    have hmg : mg ("law" : PySem.Str) = some (.ref fa) := by
      have e : (HandSHeadRun.topDef (PySem.W.OpenLaw.row PySem.Challenge.rw_crowdstairs_k07_landings_that_are_wanted).prog 57).name = ("law" : PySem.Str) := by kernel_rfl
      rw [← e]
      exact hmg0
    obtain ⟨fd, F⟩ := c.t.d.def_ 34 (d := K07.dd_law) rfl
    have e := hmg.symm.trans (He.glo_ok KX G (c.t.d.fact 52 (f := .glo "law") rfl))
    cases e
    have b := L2.FunD.bindsA (ps := ["_law_script"]) F fun _ _ _ _ _ _ us hl => match us, hl with | [_], _ => rfl
    refine ⟨K, KX, fd, K07.tf.map (He.cT K), Fx.spF ⟨(PySem.Challenge.rw_crowdstairs_k07_landings_that_are_wanted).prog, w, K, K07.clsOf K, K07.tbOf K⟩ 1 K07.f_law, fun p hp => ?_, fun p hp => ?_, fun p hp => ?_, fun s v => b s [v] rfl, fun H a ns hl _ hT hS => Fx.law_sp K07.law_true H a ns hl hS (fun p hp => ?_), fun base _ _ hTB => K07.ok_law (K07.fc_of (P := (PySem.Challenge.rw_crowdstairs_k07_landings_that_are_wanted).prog) KX G c hTB) F (Fx.code_fun F)⟩
    · obtain ⟨q, hq, rfl⟩ := List.mem_map.mp hp
      exact c.empty q hq
    · obtain ⟨q, hq, rfl⟩ := List.mem_map.mp hp
      exact c.out q hq
    · obtain ⟨q, hq, rfl⟩ := List.mem_map.mp hp
      exact PySem.W.codeHd_of_K KX (c.hd q hq)
    · have hp2 : ∃ q ∈ K07.tf, p.1 = (He.cT K q).2 := by
        unfold K07.tbOf at hp
        simp only [List.mem_cons, List.not_mem_nil, or_false] at hp
        rcases hp with rfl | rfl | rfl
        all_goals first | exact ⟨_, List.mem_of_getElem? (i := 0) rfl, rfl⟩ | exact ⟨_, List.mem_of_getElem? (i := 1) rfl, rfl⟩ | exact ⟨_, List.mem_of_getElem? (i := 2) rfl, rfl⟩
      obtain ⟨q, hq, e⟩ := hp2
      exact LamX.TabS.nil (by rw [e]; exact hT _ (List.mem_map.mpr ⟨q, hq, rfl⟩))

