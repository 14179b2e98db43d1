import PyProof.Rows.All
import Wide.All
import OpenK.AllK
import Wide.FinOn
import HandS.ForMost
import HandS.Exc
import HandS.ExcOwn
import HandS.TryMany
import HandS.Lambda
import HandS.Wide
import PyProof.AutoIntG7
import PyProof.FactsAll.subtypes
import HandS.TupAny
import HandS.Gcd
import HandS.Deep
import KE.DataCmp
import KE.SortData
import HandS.IsInst
import HandS.Style
import HandS.WordsDict
import HandS.More
import HandS.Conv
import HandS.TupSets
import PyProof.Transfer
import PyProof.ReprRoads
import HandS.Zip
import HandS.Comp
import HandS.Flow
import HandS.Text
import HandS.StrSplit
import HandS.DictComp
import HandS.ForExc
import HandS.WordsExc
import HandS.HeadEnd
import HandS.ExcInit
import HandS.ExcField
import HandS.DictEq
import HandS.Head0
import HandS.Head1
import HandS.Head2
import HandS.Head3
import HandS.HeadHook1
import HandS.HeadHook2
import HandS.Defaults
import KE.KStateDown
import PyProof.ReprLen
import PyProof.Rows.RegStrFacts
import PyProof.Rows.ReprOcc
import PyProof.ReprText
import KE.LtData
import PySem.Challenge.RW_raresteps_k07_rates_at_numbers
set_option Elab.async false
set_option linter.all false
set_option maxRecDepth 100000
set_option maxHeartbeats 2000000
/-! PP0: pure data D, a store of lists and dicts, and how they lie in the hand layer's heap. -/
namespace PP
open PySem PySem.Spec PyProof.Rows L2

/-- the tables of code objects that are known, each with the name of the code that it tells -/
class Tbl where
  T : List (Addr × Str)
variable [Tbl]
/-- pure data; tup true: a tuple that may be written at the top; ref: a place of the store; fn: a def of the text; ty: a built-in type -/
inductive D where
  | non | bl (b : Bool) | int (i : Int) | str (s : Str)
  | tup (k : Bool) (ds : List D)
  | ref (l : Nat)
  | fn (x : Str)
  | ty (n : String)
instance : Inhabited D := ⟨.non⟩

inductive Cell where
  | lst (ds : List D)
  | dct (kvs : List (D × D))
  /-- a dict of simple keys that a comprehension fills -/
  | dcK (kvs : List (D × D))
/-- a place: locked (read only) or not -/
abbrev Store := List (Bool × Cell)
abbrev EnvD := List (Option D)

inductive Res (α : Type) where
  | ok (a : α) (st : Store)
  | err (c : Str) (fs : List (Str × D)) (st : Store)
  | stuck

/-! ### how data lies in the heap -/
section
variable (K : PySem.W.Frag) (mg : Str → Option Value)
/-- a tuple that never changes, tracked (or one of the written part) -/
def TupAt (K : PySem.W.Frag) (k : Bool) (H : Hp) (a : Addr) (xs : List V) : Prop := match k with
  | true => SqT K H a xs
  | false => H a = some (.tup xs)
theorem TupAt.sq {K : PySem.W.Frag} {k : Bool} {H : Hp} {a : Addr} {xs : List V} (h : TupAt K k H a xs) : SqT K H a xs := by
  cases k with
  | true => exact h
  | false => exact .inl (.inl h)
theorem TupAt.any {K : PySem.W.Frag} {k : Bool} {H : Hp} {a : Addr} {xs : List V} (h : TupAt K false H a xs) : TupAt K k H a xs := by
  cases k with
  | true => exact .inl (.inl h)
  | false => exact h
theorem TupAt.orL {K : PySem.W.Frag} {k k' : Bool} {H : Hp} {a : Addr} {xs : List V} (h : TupAt K k H a xs) : TupAt K (k || k') H a xs := by
  cases k with
  | true => exact h
  | false => exact h.any
theorem TupAt.orR {K : PySem.W.Frag} {k k' : Bool} {H : Hp} {a : Addr} {xs : List V} (h : TupAt K k' H a xs) : TupAt K (k || k') H a xs := by
  rw [Bool.or_comm]
  exact h.orL
mutual
def Rp (m : List Addr) (H : Hp) : D → V → Prop
  | .non, v => v = .non
  | .bl b, v => v = .bl b
  | .int i, v => v = .int i
  | .str s, v => v = .str s
  | .tup k ds, v => ∃ a xs, v = .ref a ∧ TupAt K k H a xs ∧ RpL m H ds xs
  | .ref l, v => ∃ a, v = .ref a ∧ m[l]? = some a
  | .fn x, v => ∃ a, v = .ref a ∧ mg x = some (.ref a)
  | .ty n, v => v = .ty n
def RpL (m : List Addr) (H : Hp) : List D → List V → Prop
  | [], xs => xs = []
  | d :: ds, xs => ∃ x r, xs = x :: r ∧ Rp m H d x ∧ RpL m H ds r
end
/-- what is never written by hand: what never changes, and tables -/
def Stays : HO → Prop
  | .tup _ => True
  | .frz _ _ => True
  | .xd _ => True
  | .ext _ => True
  | .tbl _ => True
  | _ => False
/-- what never changes -/
def Keeps : HO → Prop
  | .tup _ => True
  | .frz _ _ => True
  | .xd _ => True
  | .ext _ => True
  | _ => False
/-- tuples stay, and locked things, and the dicts of exceptions; tables stay tables -/
structure Pers (H H' : Hp) : Prop where
  keep : ∀ a o, Keeps o → H a = some o → H' a = some o
  tabs : LamX.Tabs Tbl.T H → LamX.Tabs Tbl.T H'
instance {H H' : Hp} : CoeFun (Pers H H') (fun _ => ∀ a o, Keeps o → H a = some o → H' a = some o) := ⟨Pers.keep⟩
theorem Pers.refl (H : Hp) : Pers H H := ⟨fun _ _ _ h => h, fun h => h⟩
variable {K mg}
theorem Pers.trans {H H1 H2 : Hp} (a : Pers H H1) (b : Pers H1 H2) : Pers H H2 := ⟨fun c o w h => b c o w (a c o w h), fun h => b.tabs (a.tabs h)⟩
theorem Pers.rd {H H' : Hp} {a : Addr} {xs : List V} (p : Pers H H') (h : Rd H a (.tup xs)) : Rd H' a (.tup xs) := by
  rcases h with h | ⟨o, h⟩
  · exact .inl (p _ _ True.intro h)
  · exact .inr ⟨o, p _ _ True.intro h⟩
theorem Pers.sqT {H H' : Hp} {a : Addr} {xs : List V} (p : Pers H H') (h : SqT K H a xs) : SqT K H' a xs := by
  rcases h with h | h
  · exact .inl (p.rd h)
  · exact .inr h
/-- tuples alone stay -/
structure PersT (H H' : Hp) : Prop where
  tp : ∀ a xs, H a = some (.tup xs) → H' a = some (.tup xs)
  fz : ∀ a o xs, H a = some (.frz o (.tup xs)) → H' a = some (.frz o (.tup xs))
  tabs : LamX.Tabs Tbl.T H → LamX.Tabs Tbl.T H'
theorem Pers.toT {H H' : Hp} (p : Pers H H') : PersT H H' := ⟨fun a xs h => p a _ True.intro h, fun a o xs h => p a _ (show Keeps (.frz _ _) from True.intro) h, p.tabs⟩
theorem TupAt.monoT {k : Bool} {H H' : Hp} {a : Addr} {xs : List V} (p : PersT H H') (h : TupAt K k H a xs) : TupAt K k H' a xs := by
  cases k with
  | true =>
    rcases h with (h | ⟨o, h⟩) | h
    · exact .inl (.inl (p.tp _ _ h))
    · exact .inl (.inr ⟨o, p.fz _ _ _ h⟩)
    · exact .inr h
  | false => exact p.tp _ _ h
theorem TupAt.mono {k : Bool} {H H' : Hp} {a : Addr} {xs : List V} (p : Pers H H') (h : TupAt K k H a xs) : TupAt K k H' a xs := h.monoT p.toT
/-- places go on -/
def Pre (m m' : List Addr) : Prop := ∀ (l : Nat) a, m[l]? = some a → m'[l]? = some a
theorem Pre.refl (m : List Addr) : Pre m m := fun _ _ h => h
theorem Pre.trans {m m1 m2 : List Addr} (a : Pre m m1) (b : Pre m1 m2) : Pre m m2 := fun l c h => b l c (a l c h)
theorem Pre.snoc (m : List Addr) (p : Addr) : Pre m (m ++ [p]) := fun l a h => by
  have hl := (List.getElem?_eq_some_iff.mp h).1
  rw [List.getElem?_append_left hl]; exact h
section
variable {m m' : List Addr} {H H' : Hp}
mutual
theorem Rp.monoT (pm : Pre m m') (p : PersT H H') : ∀ (d : D) (v : V), Rp K mg m H d v → Rp K mg m' H' d v
  | .non, _, h => h
  | .bl _, _, h => h
  | .int _, _, h => h
  | .str _, _, h => h
  | .tup _ ds, _, ⟨a, xs, e, t, r⟩ => ⟨a, xs, e, t.monoT p, RpL.monoT pm p ds xs r⟩
  | .ref l, _, ⟨a, e, h⟩ => ⟨a, e, pm l a h⟩
  | .fn _, _, h => h
  | .ty _, _, h => h
theorem RpL.monoT (pm : Pre m m') (p : PersT H H') : ∀ (ds : List D) (xs : List V), RpL K mg m H ds xs → RpL K mg m' H' ds xs
  | [], _, h => h
  | d :: ds, _, ⟨x, r, e, h1, h2⟩ => ⟨x, r, e, Rp.monoT pm p d x h1, RpL.monoT pm p ds r h2⟩
end
theorem Rp.mono (pm : Pre m m') (p : Pers H H') (d : D) (v : V) (h : Rp K mg m H d v) : Rp K mg m' H' d v := Rp.monoT pm p.toT d v h
theorem RpL.mono (pm : Pre m m') (p : Pers H H') (ds : List D) (xs : List V) (h : RpL K mg m H ds xs) : RpL K mg m' H' ds xs := RpL.monoT pm p.toT ds xs h
theorem RpL.nil {xs : List V} (h : RpL K mg m H [] xs) : xs = [] := h
theorem RpL.mk_nil : RpL K mg m H [] [] := rfl
theorem RpL.mk_cons {d : D} {ds : List D} {x : V} {xs : List V} (h : Rp K mg m H d x) (t : RpL K mg m H ds xs) : RpL K mg m H (d :: ds) (x :: xs) := ⟨x, xs, rfl, h, t⟩
theorem RpL.length : ∀ {ds : List D} {xs : List V}, RpL K mg m H ds xs → xs.length = ds.length
  | [], _, h => by rw [RpL.nil h]; rfl
  | d :: ds, _, ⟨x, r, e, _, h2⟩ => by subst e; exact congrArg Nat.succ (RpL.length h2)
theorem RpL.get : ∀ {ds : List D} {xs : List V} {i : Nat} {d : D}, RpL K mg m H ds xs → ds[i]? = some d → ∃ x, xs[i]? = some x ∧ Rp K mg m H d x
  | [], _, _, _, _, e => by simp at e
  | d :: ds, _, 0, _, ⟨x, r, e, h, _⟩, q => by subst e; cases q; exact ⟨x, rfl, h⟩
  | d :: ds, _, i + 1, _, ⟨x, r, e, _, h⟩, q => by subst e; exact RpL.get (i := i) h q
theorem RpL.getV : ∀ {ds : List D} {xs : List V} {i : Nat} {x : V}, RpL K mg m H ds xs → xs[i]? = some x → ∃ d, ds[i]? = some d ∧ Rp K mg m H d x
  | [], _, _, _, h, e => by rw [RpL.nil h] at e; simp at e
  | d :: ds, _, 0, _, ⟨x, r, e, h, _⟩, q => by subst e; cases q; exact ⟨d, rfl, h⟩
  | d :: ds, _, i + 1, _, ⟨x, r, e, _, h⟩, q => by subst e; exact RpL.getV (i := i) h q
theorem RpL.append : ∀ {ds es : List D} {xs ys : List V}, RpL K mg m H ds xs → RpL K mg m H es ys → RpL K mg m H (ds ++ es) (xs ++ ys)
  | [], _, _, _, h, k => by rw [RpL.nil h]; exact k
  | d :: ds, _, _, _, ⟨x, r, e, h1, h2⟩, k => by subst e; exact ⟨x, _, rfl, h1, RpL.append h2 k⟩
theorem RpL.take : ∀ (n : Nat) {ds : List D} {xs : List V}, RpL K mg m H ds xs → RpL K mg m H (ds.take n) (xs.take n)
  | 0, _, _, _ => rfl
  | n + 1, [], _, h => by rw [RpL.nil h]; rfl
  | n + 1, d :: ds, _, ⟨x, r, e, h1, h2⟩ => by subst e; exact ⟨x, _, rfl, h1, RpL.take n h2⟩
theorem RpL.drop : ∀ (n : Nat) {ds : List D} {xs : List V}, RpL K mg m H ds xs → RpL K mg m H (ds.drop n) (xs.drop n)
  | 0, _, _, h => h
  | n + 1, [], _, h => by rw [RpL.nil h]; rfl
  | n + 1, d :: ds, _, ⟨x, r, e, h1, h2⟩ => by subst e; exact RpL.drop n h2
theorem RpL.set {d : D} {x : V} (h : Rp K mg m H d x) : ∀ (i : Nat) {ds : List D} {xs : List V}, RpL K mg m H ds xs → RpL K mg m H (ds.set i d) (xs.set i x)
  | _, [], _, k => by rw [RpL.nil k]; rfl
  | 0, _ :: _, _, ⟨y, r, e, _, k⟩ => by subst e; exact ⟨x, r, rfl, h, k⟩
  | i + 1, _ :: _, _, ⟨y, r, e, k1, k2⟩ => by subst e; exact ⟨y, _, rfl, k1, RpL.set h i k2⟩
theorem RpL.reverse : ∀ {ds : List D} {xs : List V}, RpL K mg m H ds xs → RpL K mg m H ds.reverse xs.reverse
  | [], _, h => by rw [RpL.nil h]; rfl
  | d :: ds, _, ⟨x, r, e, h1, h2⟩ => by subst e; rw [List.reverse_cons, List.reverse_cons]; exact RpL.append (RpL.reverse h2) (RpL.mk_cons h1 RpL.mk_nil)

/-! ### keys -/
def kD : Key → D
  | .inl i => .int i
  | .inr s => .str s
/-- the key that a datum is -/
def keyD : D → Option Key
  | .int i => some (.inl i)
  | .str s => some (.inr s)
  | _ => none
def keysD : List D → Option (List Key)
  | [] => some []
  | d :: ds => match keyD d, keysD ds with
    | some k, some ks => some (k :: ks)
    | _, _ => none
theorem keyD_kD (k : Key) : keyD (kD k) = some k := by cases k <;> rfl
theorem kD_of {d : D} {k : Key} (h : keyD d = some k) : d = kD k := by
  cases d <;> simp only [keyD, reduceCtorEq, Option.some.injEq] at h <;> subst h <;> rfl
theorem keysD_map : ∀ ks : List Key, keysD (ks.map kD) = some ks
  | [] => rfl
  | k :: ks => by rw [List.map_cons, keysD, keyD_kD, keysD_map ks]
theorem kDs_of : ∀ {ds : List D} {ks : List Key}, keysD ds = some ks → ds = ks.map kD
  | [], ks, h => by cases h; rfl
  | d :: ds, ks, h => by
    rw [keysD] at h
    cases e1 : keyD d with
    | none => rw [e1] at h; simp at h
    | some k =>
      cases e2 : keysD ds with
      | none => rw [e1, e2] at h; simp at h
      | some r =>
        rw [e1, e2] at h
        cases h
        rw [kD_of e1, kDs_of e2]; rfl
theorem kD_inj {a b : Key} (e : kD a = kD b) : a = b := Option.some.inj (by rw [← keyD_kD a, ← keyD_kD b, e])
theorem Rp_kD {k : Key} {v : V} : Rp K mg m H (kD k) v ↔ v = kV k := by cases k <;> exact Iff.rfl
theorem RpL_kD : ∀ {ks : List Key} {vs : List V}, RpL K mg m H (ks.map kD) vs → vs = ks.map kV
  | [], _, h => RpL.nil h
  | k :: ks, _, ⟨x, r, e, h1, h2⟩ => by subst e; rw [Rp_kD.mp h1, RpL_kD h2]; rfl
end

/-! ### places -/
/-- o stands at a, locked or not -/
def CellAt (H : Hp) (a : Addr) (lk : Bool) (o : HO) : Prop := if lk = true then ∃ ob, H a = some (.frz ob o) else H a = some o
theorem CellAt.rd {H : Hp} {a : Addr} {lk : Bool} {o : HO} (h : CellAt H a lk o) : Rd H a o := by
  cases lk with
  | true => exact .inr h
  | false => exact .inl h
variable (K mg)
def Kvs (m : List Addr) (H : Hp) {κ : Type} (f : κ → D) (kvs : List (D × D)) (kv' : List (κ × V)) : Prop := Paired (fun (p : D × D) (q : κ × V) => p.1 = f q.1 ∧ Rp K mg m H p.2 q.2) kvs kv'
def CellOk (m : List Addr) (H : Hp) (a : Addr) (lk : Bool) : Cell → Prop
  | .lst ds => ∃ xs, RpL K mg m H ds xs ∧ CellAt H a lk (.lst xs)
  | .dct kvs => (∃ kv' : List (Key × V), Kvs K mg m H kD kvs kv' ∧ CellAt H a lk (.dK kv')) ∨ (∃ kv' : List (List Key × V), Kvs K mg m H (fun ks => .tup false (ks.map kD)) kvs kv' ∧ CellAt H a lk (.dT kv'))
  | .dcK kvs => ∃ kv' : List (Key × V), Kvs K mg m H kD kvs kv' ∧ CellAt H a lk (.dK kv')
structure StOk (m : List Addr) (H : Hp) (st : Store) : Prop where
  len : m.length = st.length
  nd : m.Nodup
  at_ : ∀ (l : Nat) (lk : Bool) (c : Cell) (a : Addr), st[l]? = some (lk, c) → m[l]? = some a → CellOk K mg m H a lk c
  tabs : LamX.Tabs Tbl.T H
structure EnvOk (m : List Addr) (H : Hp) (env : EnvD) (σ : L2.St) : Prop where
  len : env.length = σ.length
  at_ : ∀ (i : Nat) (d : D), env[i]? = some (some d) → ∃ v, σ[i]? = some (some v) ∧ Rp K mg m H d v
variable {K mg}
section
variable {m m' : List Addr} {H H' : Hp} {st st' : Store} {env : EnvD} {σ : L2.St}
theorem EnvOk.mono (pm : Pre m m') (p : Pers H H') (h : EnvOk K mg m H env σ) : EnvOk K mg m' H' env σ :=
  ⟨h.len, fun i d e => let ⟨v, e1, r⟩ := h.at_ i d e; ⟨v, e1, Rp.mono pm p d v r⟩⟩
theorem EnvOk.monoT (pm : Pre m m') (p : PersT H H') (h : EnvOk K mg m H env σ) : EnvOk K mg m' H' env σ :=
  ⟨h.len, fun i d e => let ⟨v, e1, r⟩ := h.at_ i d e; ⟨v, e1, Rp.monoT pm p d v r⟩⟩
theorem EnvOk.set (h : EnvOk K mg m H env σ) {i : Nat} {d : D} {v : V} (r : Rp K mg m H d v) : EnvOk K mg m H (env.set i (some d)) (σ.set i (some v)) := by
  refine ⟨by rw [List.length_set, List.length_set, h.len], fun j e hj => ?_⟩
  by_cases hji : i = j
  · subst hji
    by_cases hl : i < env.length
    · rw [List.getElem?_set_self hl] at hj
      cases hj
      exact ⟨v, by rw [List.getElem?_set_self (by rw [← h.len]; exact hl)], r⟩
    · rw [List.getElem?_eq_none (by rw [List.length_set]; omega)] at hj; cases hj
  · rw [List.getElem?_set_ne hji] at hj
    rw [List.getElem?_set_ne hji]
    exact h.at_ j e hj
theorem EnvOk.forget (h : EnvOk K mg m H env σ) (i : Nat) {x : Option V} : EnvOk K mg m H (env.set i none) (σ.set i x) := by
  refine ⟨by rw [List.length_set, List.length_set, h.len], fun j e hj => ?_⟩
  by_cases hji : i = j
  · subst hji
    by_cases hl : i < env.length
    · rw [List.getElem?_set_self hl] at hj; cases hj
    · rw [List.getElem?_eq_none (by rw [List.length_set]; omega)] at hj; cases hj
  · rw [List.getElem?_set_ne hji] at hj
    rw [List.getElem?_set_ne hji]
    exact h.at_ j e hj
def wipeD (env : EnvD) : List Nat → EnvD
  | [] => env
  | v :: vs => (wipeD env vs).set v none
theorem EnvOk.wipe (h : EnvOk K mg m H env σ) : ∀ vs : List Nat, EnvOk K mg m H (wipeD env vs) (wipe σ vs)
  | [] => h
  | v :: vs => (EnvOk.wipe h vs).forget v
theorem Kvs.monoT {κ : Type} {f : κ → D} {kvs : List (D × D)} {kv' : List (κ × V)} (pm : Pre m m') (p : PersT H H') (h : Kvs K mg m H f kvs kv') : Kvs K mg m' H' f kvs kv' :=
  Paired.mapP h fun a b ⟨e, r⟩ => ⟨e, Rp.monoT pm p _ _ r⟩
theorem CellAt.to {a : Addr} {lk : Bool} {o : HO} (h : CellAt H a lk o) (e : H' a = H a) : CellAt H' a lk o := by
  unfold CellAt at h ⊢
  rw [e]; exact h
theorem CellOk.monoT {a : Addr} {lk : Bool} {c : Cell} (pm : Pre m m') (p : PersT H H') (e : H' a = H a) (h : CellOk K mg m H a lk c) : CellOk K mg m' H' a lk c := by
  cases c with
  | lst ds => obtain ⟨xs, r, q⟩ := h; exact ⟨xs, RpL.monoT pm p _ _ r, q.to e⟩
  | dct kvs =>
    rcases h with ⟨kv', r, q⟩ | ⟨kv', r, q⟩
    · exact .inl ⟨kv', r.monoT pm p, q.to e⟩
    · exact .inr ⟨kv', r.monoT pm p, q.to e⟩
  | dcK kvs => obtain ⟨kv', r, q⟩ := h; exact ⟨kv', r.monoT pm p, q.to e⟩
theorem Kvs.mono {κ : Type} {f : κ → D} {kvs : List (D × D)} {kv' : List (κ × V)} (pm : Pre m m') (p : Pers H H') (h : Kvs K mg m H f kvs kv') : Kvs K mg m' H' f kvs kv' := h.monoT pm p.toT
theorem CellOk.mono {a : Addr} {lk : Bool} {c : Cell} (pm : Pre m m') (p : Pers H H') (e : H' a = H a) (h : CellOk K mg m H a lk c) : CellOk K mg m' H' a lk c := h.monoT pm p.toT e
theorem CellOk.is {a : Addr} {lk : Bool} {c : Cell} (h : CellOk K mg m H a lk c) : ∃ o, H a = some o ∧ ∀ xs, o ≠ .tup xs := by
  have aux : ∀ o : HO, (∀ xs, o ≠ .tup xs) → CellAt H a lk o → ∃ o, H a = some o ∧ ∀ xs, o ≠ .tup xs := fun o ho q => by
    cases lk with
    | true => obtain ⟨ob, e⟩ := q; exact ⟨_, e, fun xs z => by cases z⟩
    | false => exact ⟨o, q, ho⟩
  cases c with
  | lst ds => obtain ⟨xs, r, q⟩ := h; exact aux _ (fun _ z => by cases z) q
  | dct kvs =>
    rcases h with ⟨kv', r, q⟩ | ⟨kv', r, q⟩
    · exact aux _ (fun _ z => by cases z) q
    · exact aux _ (fun _ z => by cases z) q
  | dcK kvs => obtain ⟨kv', r, q⟩ := h; exact aux _ (fun _ z => by cases z) q
theorem StOk.get (h : StOk K mg m H st) {l : Nat} {lk : Bool} {c : Cell} (e : st[l]? = some (lk, c)) : ∃ a, m[l]? = some a ∧ CellOk K mg m H a lk c := by
  have hl := (List.getElem?_eq_some_iff.mp e).1
  have hm : l < m.length := by rw [h.len]; exact hl
  exact ⟨m[l], List.getElem?_eq_getElem hm, h.at_ l lk c _ e (List.getElem?_eq_getElem hm)⟩
theorem StOk.cell (h : StOk K mg m H st) {l : Nat} {a : Addr} (e : m[l]? = some a) : ∃ lk c, st[l]? = some (lk, c) ∧ CellOk K mg m H a lk c := by
  have hl := (List.getElem?_eq_some_iff.mp e).1
  have hm : l < st.length := by rw [← h.len]; exact hl
  refine ⟨st[l].1, st[l].2, List.getElem?_eq_getElem hm, h.at_ l _ _ a (List.getElem?_eq_getElem hm) e⟩
theorem StOk.tracked (h : StOk K mg m H st) {a : Addr} (ha : a ∈ m) : ∃ o, H a = some o ∧ ∀ xs, o ≠ .tup xs := by
  obtain ⟨l, hl⟩ := List.getElem?_of_mem ha
  obtain ⟨lk, c, _, k⟩ := h.cell hl
  exact k.is
/-- the heap changed elsewhere -/
theorem StOk.heap (h : StOk K mg m H st) (e : ∀ a ∈ m, H' a = H a) (p : Pers H H') : StOk K mg m H' st :=
  ⟨h.len, h.nd, fun l lk c a e1 e2 => (h.at_ l lk c a e1 e2).mono (Pre.refl m) p (e a (List.mem_of_getElem? e2)), p.tabs h.tabs⟩
theorem Pers.new {p : Addr} {o : HO} (h : H p = none) : Pers H (upd H p o) :=
  ⟨fun a xs _ e => by rw [upd_ne (ne_of_none e h)]; exact e, fun t => t.ext fun b u e => by rw [upd_ne (ne_of_none e h)]; exact e⟩
/-- a new thing beside the store -/
theorem StOk.beside (h : StOk K mg m H st) {p : Addr} {o : HO} (hp : H p = none) : StOk K mg m (upd H p o) st :=
  h.heap (fun a ha => by obtain ⟨u, e, _⟩ := h.tracked ha; exact upd_ne (ne_of_none e hp)) (Pers.new hp)
theorem tabs_write {T : List (Addr × Str)} {a : Addr} {o u : HO} (h : H a = some u) (nt : Stays u → False) (t : LamX.Tabs T H) : LamX.Tabs T (upd H a o) := fun p hp => by
  obtain ⟨ps, h1, h2, h3⟩ := t p hp
  have n1 : p.1 ≠ a := fun z => by rw [z, h] at h1; cases h1; exact nt True.intro
  refine ⟨ps, by rw [upd_ne n1]; exact h1, h2, fun pos cv hc => ?_⟩
  obtain ⟨c, e1, e2⟩ := h3 pos cv hc
  have n2 : c ≠ a := fun z => by
    rw [z, h] at e2
    cases e2
    exact nt True.intro
  exact ⟨c, e1, by rw [upd_ne n2]; exact e2⟩
theorem keeps_stays {u : HO} (h : Keeps u) : Stays u := by cases u <;> first | exact True.intro | exact h.elim
theorem Pers.write {a : Addr} {o u : HO} (h : H a = some u) (nt : Stays u → False) : Pers H (upd H a o) := ⟨fun b xs w e => by
  have : b ≠ a := fun z => by
    subst z
    rw [h] at e
    cases e
    exact nt (keeps_stays w)
  rw [upd_ne this]; exact e, tabs_write h nt⟩
/-- a new place -/
theorem StOk.snoc (h : StOk K mg m H st) {p : Addr} {o : HO} {c : Cell} (hp : H p = none) (k : CellOk K mg (m ++ [p]) (upd H p o) p false c) : StOk K mg (m ++ [p]) (upd H p o) (st ++ [(false, c)]) := by
  have np : ∀ a ∈ m, a ≠ p := fun a ha => by obtain ⟨u, e, _⟩ := h.tracked ha; exact ne_of_none e hp
  refine ⟨by rw [List.length_append, List.length_append, h.len]; rfl, ?_, fun l lk c' a e1 e2 => ?_, (Pers.new hp).tabs h.tabs⟩
  · rw [List.nodup_append]
    exact ⟨h.nd, by simp, fun a ha b hb => by rw [List.mem_singleton] at hb; subst hb; exact np a ha⟩
  · by_cases hl : l < st.length
    · rw [List.getElem?_append_left hl] at e1
      rw [List.getElem?_append_left (by rw [h.len]; exact hl)] at e2
      exact (h.at_ l lk c' a e1 e2).mono (Pre.snoc m p) (Pers.new hp) (upd_ne (np a (List.mem_of_getElem? e2)))
    · have e3 : l = st.length := by
        have := (List.getElem?_eq_some_iff.mp e1).1
        rw [List.length_append] at this
        have h1 : ([(false, c)] : Store).length = 1 := rfl
        omega
      subst e3
      rw [List.getElem?_append_right (Nat.le_refl _), Nat.sub_self] at e1
      rw [List.getElem?_append_right (by rw [h.len]; exact Nat.le_refl _), h.len, Nat.sub_self] at e2
      cases e1; cases e2
      exact k
theorem Pre.last {p : Addr} (h : m.length = st.length) : (m ++ [p])[st.length]? = some p := by
  rw [List.getElem?_append_right (by rw [h]; exact Nat.le_refl _), h, Nat.sub_self]; rfl
/-- a place written -/
theorem StOk.write (h : StOk K mg m H st) {l : Nat} {lk lk' : Bool} {c c' : Cell} {a : Addr} {o : HO} (e : st[l]? = some (lk, c)) (ea : m[l]? = some a) (p : Pers H (upd H a o)) (k : CellOk K mg m (upd H a o) a lk' c') :
    StOk K mg m (upd H a o) (st.set l (lk', c')) := by
  refine ⟨by rw [List.length_set, h.len], h.nd, fun j lk2 c2 b e1 e2 => ?_, p.tabs h.tabs⟩
  by_cases hj : l = j
  · subst hj
    rw [List.getElem?_set_self (List.getElem?_eq_some_iff.mp e).1] at e1
    rw [ea] at e2
    cases e1; cases e2
    exact k
  · rw [List.getElem?_set_ne hj] at e1
    have nb : b ≠ a := fun z => by
      subst z
      obtain ⟨h1, q1⟩ := List.getElem?_eq_some_iff.mp ea
      obtain ⟨h2, q2⟩ := List.getElem?_eq_some_iff.mp e2
      exact hj ((List.getElem_inj h.nd).mp (q1.trans q2.symm))
    exact (h.at_ j lk2 c2 b e1 e2).mono (Pre.refl m) p (upd_ne nb)
end
end
end PP
set_option Elab.async false
set_option linter.all false
set_option maxRecDepth 100000
set_option maxHeartbeats 2000000
/-! PP1: readings of evaluators; composition. -/
namespace PP
open PySem PySem.Spec PyProof.Rows L2
variable [Tbl]

namespace Res
def bind {α β : Type} (r : Res α) (k : α → Store → Res β) : Res β := match r with
  | .ok a st => k a st
  | .err c fs st => .err c fs st
  | .stuck => .stuck
def ofOpt {α : Type} : Option (α × Store) → Res α
  | some (a, st) => .ok a st
  | none => .stuck
end Res
/-- an evaluator of an expression -/
abbrev Ev (α : Type) := EnvD → Store → Res α
/-- an operation on data -/
abbrev Op1 := D → Store → Option (D × Store)
abbrev Op2 := D → D → Store → Option (D × Store)
abbrev OpL := List D → Store → Option (D × Store)

section
variable (K : PySem.W.Frag) (mg : Str → Option Value)
/-- an exception: its class by name, its fields -/
def FldOk (m : List Addr) (H : Hp) : List (Str × D) → List (Str × V) → Prop := Paired fun p q => p.1 = q.1 ∧ Rp K mg m H p.2 q.2
def ExOk (m : List Addr) (H : Hp) (c : Str) (fs : List (Str × D)) (cls : Value) (dd : Option Addr) : Prop :=
  ∃ a, cls = .ref a ∧ mg c = some (.ref a) ∧ ((fs = [] ∧ dd = none) ∨ ∃ ad xs, dd = some ad ∧ H ad = some (.xd xs) ∧ FldOk K mg m H fs xs)
abbrev RL (α β : Type) := List Addr → Hp → α → β → Prop
def Fin {α β : Type} (R : RL α β) (W : WX) (σ : L2.St) (m : List Addr) (H : Hp) (r : Res α) (Q : β → Hp → Prop) : Prop := match r with
  | .ok a st' => ∀ m' H' v, Pre m m' → Pers H H' → StOk K mg m' H' st' → R m' H' a v → Q v H'
  | .err c fs st' => ∀ m' H' cls dd, Pre m m' → Pers H H' → StOk K mg m' H' st' → ExOk K mg m' H' c fs cls dd → W cls dd σ H'
  | .stuck => False
/-- an operation's end -/
def Out {α β : Type} (R : RL α β) (m : List Addr) (H : Hp) (r : Option (α × Store)) (Q : β → Hp → Prop) : Prop := match r with
  | some (a, st') => ∀ m' H' v, Pre m m' → Pers H H' → StOk K mg m' H' st' → R m' H' a v → Q v H'
  | none => False
def rdG {α β : Type} (R : RL α β) (W : WX) (f : Ev α) : L2.St → Hp → (β → Hp → Prop) → Prop := fun σ H Q =>
  ∃ m env st, EnvOk K mg m H env σ ∧ StOk K mg m H st ∧ Fin K mg R W σ m H (f env st) Q
def rEq (α : Type) : RL α α := fun _ _ a b => a = b
abbrev rdE (W : WX) (f : Ev D) : TE := rdG K mg (Rp K mg) W f
abbrev rdT (W : WX) (f : Ev Bool) : TT := rdG K mg (rEq Bool) W f
abbrev rdA (W : WX) (f : Ev (List D)) : TA := rdG K mg (RpL K mg) W f
def rdOp2 (f : Op2) : R2 := fun x y H Q => ∃ m st d e, StOk K mg m H st ∧ Rp K mg m H d x ∧ Rp K mg m H e y ∧ Out K mg (Rp K mg) m H (f d e st) Q
def rdOp1 (f : Op1) : V → Hp → VK → Prop := fun x H Q => ∃ m st d, StOk K mg m H st ∧ Rp K mg m H d x ∧ Out K mg (Rp K mg) m H (f d st) Q
def rdOpL (f : OpL) : List V → Hp → VK → Prop := fun xs H Q => ∃ m st ds, StOk K mg m H st ∧ RpL K mg m H ds xs ∧ Out K mg (Rp K mg) m H (f ds st) Q
/-- a value's truth -/
def rdTru (f : D → Store → Option (Bool × Store)) : V → Hp → (Bool → Hp → Prop) → Prop := fun x H Q => ∃ m st d, StOk K mg m H st ∧ Rp K mg m H d x ∧ Out K mg (rEq Bool) m H (f d st) Q
variable {K mg}
variable {α β γ δ : Type} {R : RL α β} {R2 : RL γ δ} {W : WX} {σ : L2.St} {m m1 : List Addr} {H H1 : Hp}

theorem Fin.mono {r : Res α} {Q : β → Hp → Prop} (pm : Pre m m1) (p : Pers H H1) (h : Fin K mg R W σ m H r Q) : Fin K mg R W σ m1 H1 r Q := by
  cases r with
  | ok a st => exact fun m' H' v a1 a2 => h m' H' v (pm.trans a1) (p.trans a2)
  | err c fs st => exact fun m' H' cls dd a1 a2 => h m' H' cls dd (pm.trans a1) (p.trans a2)
  | stuck => exact h
theorem Fin.imp {r : Res α} {Q Q' : β → Hp → Prop} (h : Fin K mg R W σ m H r Q) (i : ∀ v H', Pers H H' → Q v H' → Q' v H') : Fin K mg R W σ m H r Q' := by
  cases r with
  | ok a st => exact fun m' H' v a1 a2 a3 a4 => i v H' a2 (h m' H' v a1 a2 a3 a4)
  | err c fs st => exact h
  | stuck => exact h
/-- one after another -/
theorem Fin.bind {r : Res α} {k : α → Store → Res γ} {Q : δ → Hp → Prop} (h : Fin K mg R2 W σ m H (r.bind k) Q) :
    Fin K mg R W σ m H r (fun y H1 => ∃ m1 st1 a, Pre m m1 ∧ Pers H H1 ∧ StOk K mg m1 H1 st1 ∧ R m1 H1 a y ∧ Fin K mg R2 W σ m1 H1 (k a st1) Q) := by
  cases r with
  | ok a st => exact fun m' H' v a1 a2 a3 a4 => ⟨m', st, a, a1, a2, a3, a4, Fin.mono a1 a2 h⟩
  | err c fs st => exact h
  | stuck => exact h
theorem Fin.out {o : Option (α × Store)} {Q : β → Hp → Prop} (h : Fin K mg R W σ m H (Res.ofOpt o) Q) : Out K mg R m H o Q := by
  cases o with
  | none => exact h
  | some p => exact h
theorem Out.mono {o : Option (α × Store)} {Q : β → Hp → Prop} (pm : Pre m m1) (p : Pers H H1) (h : Out K mg R m H o Q) : Out K mg R m1 H1 o Q := by
  cases o with
  | none => exact h
  | some q => exact fun m' H' v a1 a2 => h m' H' v (pm.trans a1) (p.trans a2)

/-! ### evaluators put together -/
def ev1 (f : Op1) (a : Ev D) : Ev D := fun env st => (a env st).bind fun x st1 => .ofOpt (f x st1)
def ev2 (f : Op2) (a b : Ev D) : Ev D := fun env st => (a env st).bind fun x st1 => (b env st1).bind fun y st2 => .ofOpt (f x y st2)
def evL (f : OpL) (a : Ev (List D)) : Ev D := fun env st => (a env st).bind fun xs st1 => .ofOpt (f xs st1)
def evNil : Ev (List D) := fun _ st => .ok [] st
def evCons (a : Ev D) (b : Ev (List D)) : Ev (List D) := fun env st => (a env st).bind fun x st1 => (b env st1).bind fun xs st2 => .ok (x :: xs) st2

variable {Q : VK}
theorem rd1 {f : Op1} {a : Ev D} (h : rdE K mg W (ev1 f a) σ H Q) : tUn (rdOp1 K mg f) (rdE K mg W a) σ H Q := by
  obtain ⟨m, env, st, he, hs, h⟩ := h
  refine ⟨m, env, st, he, hs, (Fin.bind (R := Rp K mg) h).imp fun v H' p ⟨m1, st1, a1, pm, _, s1, r1, h1⟩ => ?_⟩
  exact ⟨m1, st1, a1, s1, r1, h1.out⟩
theorem rd2 {f : Op2} {a b : Ev D} (h : rdE K mg W (ev2 f a b) σ H Q) : tOp (rdOp2 K mg f) (rdE K mg W a) (rdE K mg W b) σ H Q := by
  obtain ⟨m, env, st, he, hs, h⟩ := h
  refine ⟨m, env, st, he, hs, (Fin.bind (R := Rp K mg) h).imp fun v H' p ⟨m1, st1, a1, pm, _, s1, r1, h1⟩ => ?_⟩
  refine ⟨m1, env, st1, he.mono pm p, s1, (Fin.bind (R := Rp K mg) h1).imp fun v2 H2 p2 ⟨m2, st2, a2, pm2, _, s2, r2, h2⟩ => ?_⟩
  exact ⟨m2, st2, a1, a2, s2, Rp.mono pm2 p2 _ _ r1, r2, h2.out⟩
theorem rdL {f : OpL} {a : Ev (List D)} (h : rdE K mg W (evL f a) σ H Q) : tCB (rdOpL K mg f) (rdA K mg W a) σ H Q := by
  obtain ⟨m, env, st, he, hs, h⟩ := h
  refine ⟨m, env, st, he, hs, (Fin.bind (R := RpL K mg) h).imp fun v H' p ⟨m1, st1, a1, pm, _, s1, r1, h1⟩ => ?_⟩
  exact ⟨m1, st1, a1, s1, r1, h1.out⟩
theorem rdNil {QA : List V → Hp → Prop} (h : rdA K mg W evNil σ H QA) : tNil σ H QA := by
  obtain ⟨m, env, st, he, hs, h⟩ := h
  exact h m H [] (Pre.refl m) (Pers.refl H) hs rfl
theorem rdCons {a : Ev D} {b : Ev (List D)} {QA : List V → Hp → Prop} (h : rdA K mg W (evCons a b) σ H QA) : tCons (rdE K mg W a) (rdA K mg W b) σ H QA := by
  obtain ⟨m, env, st, he, hs, h⟩ := h
  refine ⟨m, env, st, he, hs, (Fin.bind (R := Rp K mg) h).imp fun v H' p ⟨m1, st1, a1, pm, _, s1, r1, h1⟩ => ?_⟩
  refine ⟨m1, env, st1, he.mono pm p, s1, (Fin.bind (R := RpL K mg) h1).imp fun v2 H2 p2 ⟨m2, st2, a2, pm2, _, s2, r2, h2⟩ => ?_⟩
  exact h2 m2 H2 (v :: v2) (Pre.refl _) (Pers.refl _) s2 (RpL.mk_cons (Rp.mono pm2 p2 _ _ r1) r2)
end

/-! ### weaker readings -/
section
variable {X : Cx}
theorem PE.weak {e : Expr} {t t' : TE} (h : PE X e t) (i : ∀ σ H Q, t' σ H Q → t σ H Q) : PE X e t' := ⟨fun pins s σ H Q I q => h.run pins s σ H Q I (i σ H Q q)⟩
theorem PT.weak {e : Expr} {t t' : TT} (h : PT X e t) (i : ∀ σ H Q, t' σ H Q → t σ H Q) : PT X e t' := ⟨fun pins s σ H Q I q => h.run pins s σ H Q I (i σ H Q q)⟩
theorem PA.weak {es : List Expr} {t t' : TA} (h : PA X es t) (i : ∀ σ H Q, t' σ H Q → t σ H Q) : PA X es t' := ⟨fun pos pins s σ H Q I q => h.run pos pins s σ H Q I (i σ H Q q)⟩
theorem PS.weak {st : Stmt} {t t' : TS} (h : PS X st t) (i : ∀ D σ H, t' D σ H → t D σ H) : PS X st t' := ⟨fun pins s σ H D I q => h.run pins s σ H D I (i D σ H q)⟩
theorem PSs.weak {st : List Stmt} {t t' : TS} (h : PSs X st t) (i : ∀ D σ H, t' D σ H → t D σ H) : PSs X st t' := ⟨fun pins s σ H D I q => h.run pins s σ H D I (i D σ H q)⟩
theorem OpR.weak {f : Value → Value → Sem Value} {r r' : R2} (h : OpR X f r) (i : ∀ x y H Q, r' x y H Q → r x y H Q) : OpR X f r' := fun pins s σ H x y v u Q I rx ry q => h pins s σ H x y v u Q I rx ry (i x y H Q q)
theorem UnR.weak {f : Value → Sem Value} {r r' : V → Hp → VK → Prop} (h : UnR X f r) (i : ∀ x H Q, r' x H Q → r x H Q) : UnR X f r' := fun pins s σ H x v Q I rx q => h pins s σ H x v Q I rx (i x H Q q)
theorem CallR.weak {f : Value} {r r' : List V → Hp → VK → Prop} (h : CallR X f r) (i : ∀ xs H Q, r' xs H Q → r xs H Q) : CallR X f r' := fun pins s σ H xs us Q I rx q => h pins s σ H xs us Q I rx (i xs H Q q)
theorem CallR.or {f : Value} {r r' : List V → Hp → VK → Prop} (h : CallR X f r) (h' : CallR X f r') : CallR X f (fun xs H Q => r xs H Q ∨ r' xs H Q) := fun pins s σ H xs us Q I rx q =>
  q.elim (h pins s σ H xs us Q I rx) (h' pins s σ H xs us Q I rx)
theorem OpR.no {f : Value → Value → Sem Value} : OpR X f (fun _ _ _ _ => False) := fun _ _ _ _ _ _ _ _ _ _ _ _ q => q.elim
theorem CallR.no {f : Value} : CallR X f (fun _ _ _ => False) := fun _ _ _ _ _ _ _ _ _ q => q.elim

/-! ### expressions by operations -/
variable {a b : Expr} {fa fb : Ev D} {pos : Pos} {W : WX}
theorem pe_ev2 {op : Operator} {f : Op2} (ho : OpR X (binaryOp op) (rdOp2 X.K X.mg f)) (ha : PE X a (rdE X.K X.mg W fa)) (hb : PE X b (rdE X.K X.mg W fb)) : PE X (.BinOp a op b pos) (rdE X.K X.mg W (ev2 f fa fb)) :=
  PE.weak (pe_op ho ha hb) fun _ _ _ h => rd2 h
theorem pe_cmp2 {op : CmpOp} {f : Op2} (ho : OpR X (compareOp op) (rdOp2 X.K X.mg f)) (ha : PE X a (rdE X.K X.mg W fa)) (hb : PE X b (rdE X.K X.mg W fb)) (hm : behindInMarks op b = false) :
    PE X (.Compare a [op] [b] pos) (rdE X.K X.mg W (ev2 f fa fb)) := PE.weak (pe_cmpR ho ha hb hm) fun _ _ _ h => rd2 h
theorem pe_ev1 {op : UnaryOp} {f : Op1} (ho : UnR X (unaryOp op) (rdOp1 X.K X.mg f)) (ha : PE X a (rdE X.K X.mg W fa)) : PE X (.UnaryOp op a pos) (rdE X.K X.mg W (ev1 f fa)) :=
  PE.weak (pe_un ho ha) fun _ _ _ h => rd1 h
theorem pe_ix2 {f : Op2} (ho : IxR X (rdOp2 X.K X.mg f)) (ha : PE X a (rdE X.K X.mg W fa)) (hb : PE X b (rdE X.K X.mg W fb)) (hs : PlainIx b) : PE X (.Subscript a b pos) (rdE X.K X.mg W (ev2 f fa fb)) :=
  PE.weak (pe_ix ho ha hb hs) fun _ _ _ h => rd2 h
end
end PP
set_option Elab.async false
set_option linter.all false
set_option maxRecDepth 100000
set_option maxHeartbeats 2000000
/-! PP2: operations on data, and that the machine does them. -/
namespace PP
open PySem PySem.Spec PyProof.Rows L2
variable [Tbl]

/-! ### numbers -/
def smallI (i : Int) : Bool := decide (i.natAbs.log2 < 400000)
def addD : Op2 := fun d e st => match d, e with
  | .int a, .int b => some (.int (a + b), st)
  | .str a, .str b => if a.length + b.length ≤ sizeLine then some (.str (a ++ b), st) else none
  | .tup k a, .tup k' b => if a.length + b.length ≤ sizeLine then some (.tup (k || k') (a ++ b), st) else none
  | .ref l, .ref k => match st[l]?, st[k]? with
    | some (false, .lst xs), some (false, .lst ys) => if xs.length + ys.length ≤ sizeLine then some (.ref st.length, st ++ [(false, .lst (xs ++ ys))]) else none
    | _, _ => none
  | _, _ => none
def bI (b : Bool) : Int := if b = true then 1 else 0
def subD : Op2 := fun d e st => match d, e with
  | .int a, .int b => some (.int (a - b), st)
  | .bl a, .bl b => some (.int (bI a - bI b), st)
  | _, _ => none
def mulD : Op2 := fun d e st => match d, e with
  | .int a, .int b => if smallI a && smallI b then some (.int (a * b), st) else none
  | .ref l, .int k => match st[l]? with
    | some (false, .lst xs) => if 0 ≤ k ∧ k ≤ 1000 ∧ xs.length * k.toNat ≤ sizeLine then some (.ref st.length, st ++ [(false, .lst (List.replicate k.toNat xs).flatten)]) else none
    | _ => none
  | _, _ => none
def floorD : Op2 := fun d e st => match d, e with
  | .int a, .int b => if b ≠ 0 ∧ b.natAbs.log2 < 9000 then some (.int (a.fdiv b), st) else none
  | _, _ => none
def modD : Op2 := fun d e st => match d, e with
  | .int a, .int b => if b ≠ 0 then some (.int (a.fmod b), st) else none
  | _, _ => none
def powD : Op2 := fun d e st => match d, e with
  | .int a, .int b => if 0 ≤ b ∧ b ≤ 1000000 ∧ a.natAbs < 2 ^ 64 then some (.int (a ^ b.toNat), st) else none
  | _, _ => none
def negD : Op1 := fun d st => match d with
  | .int a => some (.int (-a), st)
  | _ => none
section
variable {X : Cx} {K : PySem.W.Frag} {mg : Str → Option Value} {m : List Addr} {H : Hp} {st : Store} {Q : VK}
theorem Out.here {d : D} {v : V} {st' : Store} (h : Out K mg (Rp K mg) m H (some (d, st')) Q) (s : StOk K mg m H st') (r : Rp K mg m H d v) : Q v H := h m H v (Pre.refl m) (Pers.refl H) s r
/-- a new tuple -/
theorem Out.tup {k : Bool} {ds : List D} {xs : List V} (h : Out K mg (Rp K mg) m H (some (.tup k ds, st)) Q) (s : StOk K mg m H st) (r : RpL K mg m H ds xs) {p : Addr} (hp : H p = none) : Q (.ref p) (upd H p (.tup xs)) :=
  h m _ _ (Pre.refl m) (Pers.new hp) (s.beside hp) ⟨p, xs, rfl, TupAt.any upd_same, RpL.mono (Pre.refl m) (Pers.new hp) _ _ r⟩
/-- a new list -/
theorem Out.lst {ds : List D} {xs : List V} (h : Out K mg (Rp K mg) m H (some (.ref st.length, st ++ [(false, .lst ds)])) Q) (s : StOk K mg m H st) (r : RpL K mg m H ds xs) {p : Addr} (hp : H p = none) : Q (.ref p) (upd H p (.lst xs)) :=
  h (m ++ [p]) _ _ (Pre.snoc m p) (Pers.new hp) (s.snoc hp ⟨xs, RpL.mono (Pre.snoc m p) (Pers.new hp) _ _ r, upd_same⟩) ⟨p, rfl, Pre.last s.len⟩
theorem CellOk.lst_rd {a : Addr} {lk : Bool} {ds : List D} (h : CellOk K mg m H a lk (.lst ds)) : ∃ xs, RpL K mg m H ds xs ∧ SqL K H a xs := by
  obtain ⟨xs, r, c⟩ := h
  exact ⟨xs, r, .inl c.rd⟩
theorem RpL.nil_iff {ds : List D} {xs : List V} (r : RpL K mg m H ds xs) : xs = [] ↔ ds = [] := by
  have := r.length
  constructor
  · intro e; subst e; exact List.eq_nil_of_length_eq_zero this.symm
  · intro e; subst e; exact List.eq_nil_of_length_eq_zero this
theorem smallI_ok {i j : Int} (h : (smallI i && smallI j) = true) : CMulW i j := by
  obtain ⟨h1, h2⟩ := Bool.and_eq_true_iff.mp h
  have h1 := of_decide_eq_true h1
  have h2 := of_decide_eq_true h2
  unfold CMulW; omega
theorem op_addD : OpR X (binaryOp .Add) (rdOp2 X.K X.mg addD) := by
  refine OpR.weak ((op_add (X := X)).or (op_add_str.or (op_catA.or op_cat))) fun x y H Q h => ?_
  obtain ⟨m, st, d, e, s, rd, re, o⟩ := h
  unfold addD at o
  split at o
  · cases rd; cases re
    exact .inl ⟨_, _, rfl, rfl, o.here s rfl⟩
  · cases rd; cases re
    split at o
    · rename_i hl
      exact .inr (.inl ⟨_, _, rfl, rfl, hl, o.here s rfl⟩)
    · exact o.elim
  · split at o
    · rename_i k a k' b hl
      obtain ⟨pa, xs, rfl, ta, ra⟩ := rd
      obtain ⟨pb, ys, rfl, tb, rb⟩ := re
      refine .inr (.inr (.inl ⟨pa, pb, xs, ys, rfl, rfl, ta.sq, tb.sq, by rw [ra.length, rb.length]; exact hl, fun e => ?_, fun _ e => ?_, fun _ _ p hp => ?_⟩))
      · have ea : a = [] := ra.nil_iff.mp e
        subst ea
        exact o.here s ⟨pb, ys, rfl, tb.orR, rb⟩
      · have eb : b = [] := rb.nil_iff.mp e
        subst eb
        rw [List.append_nil] at o
        exact o.here s ⟨pa, xs, rfl, ta.orL, ra⟩
      · exact o.tup s (ra.append rb) hp
    · exact o.elim
  · rename_i l k
    split at o
    · rename_i xs ys e1 e2
      split at o
      · rename_i hl
        obtain ⟨pa, rfl, ea⟩ := rd
        obtain ⟨pb, rfl, eb⟩ := re
        obtain ⟨us, ru, cu⟩ := s.at_ l _ _ pa e1 ea
        obtain ⟨ws, rw', cw⟩ := s.at_ k _ _ pb e2 eb
        exact .inr (.inr (.inr ⟨pa, pb, us, ws, rfl, rfl, cu, cw, by rw [ru.length, rw'.length]; exact hl, fun p hp => o.lst s (ru.append rw') hp⟩))
      · exact o.elim
    · exact o.elim
  · exact o.elim
theorem gives_sub_bb (a b : Bool) :
    Gives (Builtin.«int.__sub__» ⟨[.bool a, .bool b], []⟩) (.int ((if a = true then (1 : Int) else 0) - (if b = true then (1 : Int) else 0))) :=
  .of_wp fun M A E s Q h => by obtain ⟨hp, g, d, tk, os⟩ := s; wp_walk; exact ⟨_, rfl, h⟩
theorem sub_bb {prog : Program} {w : World} {A : Around} {E : Value → Shared → Prop} {s : Shared} {a b : Bool} {Q : Value → Shared → Prop} (h : Q (.int ((if a = true then (1 : Int) else 0) - (if b = true then (1 : Int) else 0)) s.toks) { s with toks := s.toks + 1 }) : wpAny (model prog w) A (binaryOp .Sub (.bool a) (.bool b)) Q E s :=
  binaryOp_gives (op := .Sub) (T := "bool") rfl rfl F.fills_bool_sub F.slot_bool_sub F.entry_int_sub (F.args_int_sub_2 _ _) (gives_sub_bb a b) trivial h
theorem op_sub_bb : OpR X (binaryOp .Sub) (fun x y H Q => ∃ i k, x = .bl i ∧ y = .bl k ∧ Q (.int (bI i - bI k)) H) := by
  intro pins s σ H x y v u Q I rx ry h
  obtain ⟨i, k, rfl, rfl, q⟩ := h
  cases rx
  cases ry
  exact sub_bb ⟨.int (bI i - bI k), H, I.tok _, ⟨_, rfl⟩, q⟩
theorem op_subD : OpR X (binaryOp .Sub) (rdOp2 X.K X.mg subD) := by
  refine OpR.weak (op_sub.or op_sub_bb) fun x y H Q h => ?_
  obtain ⟨m, st, d, e, s, rd, re, o⟩ := h
  unfold subD at o
  split at o
  · cases rd; cases re
    exact .inl ⟨_, _, rfl, rfl, o.here s rfl⟩
  · cases rd; cases re
    exact .inr ⟨_, _, rfl, rfl, o.here s rfl⟩
  · exact o.elim
theorem RpL.rep {K : PySem.W.Frag} {mg : Str → Option Value} {m : List Addr} {H : Hp} {ds : List D} {vs : List V} (h : RpL K mg m H ds vs) : ∀ n, RpL K mg m H (List.replicate n ds).flatten (List.replicate n vs).flatten
  | 0 => rfl
  | n + 1 => by
    rw [List.replicate_succ, List.replicate_succ, List.flatten_cons, List.flatten_cons]
    exact h.append (RpL.rep h n)
theorem op_mulD : OpR X (binaryOp .Mult) (rdOp2 X.K X.mg mulD) := by
  refine OpR.weak ((op_mulW (X := X)).or op_rep) fun x y H Q h => ?_
  obtain ⟨m, st, d, e, s, rd, re, o⟩ := h
  unfold mulD at o
  split at o
  · split at o
    · rename_i hs
      cases rd; cases re
      exact .inl ⟨_, _, rfl, rfl, smallI_ok hs, o.here s rfl⟩
    · exact o.elim
  · rename_i l k
    split at o
    · rename_i xs e1
      split at o
      · rename_i hl
        obtain ⟨pa, rfl, ea⟩ := rd
        cases re
        obtain ⟨us, ru, cu⟩ := s.at_ l _ _ pa e1 ea
        have h1 : (-(2 ^ 63) : Int) ≤ k := by omega
        have h2 : k < 2 ^ 63 := by omega
        exact .inr ⟨pa, k, us, rfl, rfl, cu, h1, h2, by rw [ru.length]; exact hl.2.2, fun p hp => o.lst s (ru.rep _) hp⟩
      · exact o.elim
    · exact o.elim
  · exact o.elim
theorem op_fdivA : OpR X (binaryOp .FloorDiv) (rI (fun _ j => j ≠ 0 ∧ j.natAbs.log2 < 9000) fun i j => .int (i.fdiv j)) := opI fun i j _ _ _ _ _ hc q => floordiv_int hc.1 q (.inl (PyProof.noPylong_of_log2 hc.2))
theorem op_floorD : OpR X (binaryOp .FloorDiv) (rdOp2 X.K X.mg floorD) := by
  refine OpR.weak op_fdivA fun x y H Q h => ?_
  obtain ⟨m, st, d, e, s, rd, re, o⟩ := h
  unfold floorD at o
  split at o
  · split at o
    · rename_i hs
      cases rd; cases re
      exact ⟨_, _, rfl, rfl, hs, o.here s rfl⟩
    · exact o.elim
  · exact o.elim
theorem op_modD : OpR X (binaryOp .Mod) (rdOp2 X.K X.mg modD) := by
  refine OpR.weak op_modN fun x y H Q h => ?_
  obtain ⟨m, st, d, e, s, rd, re, o⟩ := h
  unfold modD at o
  split at o
  · split at o
    · rename_i hs
      cases rd; cases re
      exact ⟨_, _, rfl, rfl, hs, o.here s rfl⟩
    · exact o.elim
  · exact o.elim
theorem op_powD : OpR X (binaryOp .Pow) (rdOp2 X.K X.mg powD) := by
  refine OpR.weak op_pow fun x y H Q h => ?_
  obtain ⟨m, st, d, e, s, rd, re, o⟩ := h
  unfold powD at o
  split at o
  · split at o
    · rename_i hs
      cases rd; cases re
      exact ⟨_, _, rfl, rfl, hs, o.here s rfl⟩
    · exact o.elim
  · exact o.elim
theorem un_negD : UnR X (unaryOp .USub) (rdOp1 X.K X.mg negD) := by
  refine UnR.weak un_neg fun x H Q h => ?_
  obtain ⟨m, st, d, s, rd, o⟩ := h
  unfold negD at o
  split at o
  · cases rd
    exact ⟨_, rfl, o.here s rfl⟩
  · exact o.elim
end

/-! ### data as a whole -/
def optAll {α : Type} : List (Option α) → Option (List α)
  | [] => some []
  | none :: _ => none
  | some a :: r => (optAll r).map fun l => a :: l
/-- what a datum reads as: lists are read off the store -/
def toP (st : Store) : Nat → D → Option PyData
  | 0, _ => none
  | n + 1, d => match d with
    | .non => some .none
    | .bl b => some (.bool b)
    | .int i => some (.int i)
    | .str s => if PyData.strOk s = true then some (.str s) else none
    | .tup _ ds => (optAll (ds.map (toP st n))).map .tuple
    | .ref l => match st[l]? with
      | some (_, .lst ds) => (optAll (ds.map (toP st n))).map .list
      | _ => none
    | .fn _ => none
    | .ty _ => none
section
variable {X : Cx} {K : PySem.W.Frag} {mg : Str → Option Value} {m : List Addr} {H : Hp} {st : Store} {Q : VK}
theorem optAll_cons {α : Type} {o : Option α} {r : List (Option α)} {l : List α} (h : optAll (o :: r) = some l) : ∃ a l', o = some a ∧ optAll r = some l' ∧ l = a :: l' := by
  cases o with
  | none => cases h
  | some a =>
    unfold optAll at h
    cases e : optAll r with
    | none => rw [e] at h; cases h
    | some l' => rw [e] at h; cases h; exact ⟨a, l', rfl, rfl, rfl⟩
theorem dpAll_of {n : Nat} (ih : ∀ d p v, toP st n d = some p → Rp K mg m H d v → Dp K H v p ∧ p.canLay0 = true ∧ p.depth ≤ n) : ∀ (ds : List D) (ps : List PyData) (vs : List V), optAll (ds.map (toP st n)) = some ps → RpL K mg m H ds vs →
    DpAll K H vs ps ∧ PyData.canLayAll0 ps = true ∧ PyData.depthAll ps ≤ n
  | [], ps, vs, h, r => by
    cases h
    rw [r.nil]
    exact ⟨.nil, by simp only [PyData.canLayAll0], by simp only [PyData.depthAll]; omega⟩
  | d :: ds, ps, vs, h, r => by
    obtain ⟨p, ps', e1, e2, rfl⟩ := optAll_cons h
    obtain ⟨x, xs, rfl, r1, r2⟩ := r
    obtain ⟨a1, a2, a3⟩ := ih d p x e1 r1
    obtain ⟨b1, b2, b3⟩ := dpAll_of ih ds ps' xs e2 r2
    exact ⟨.cons a1 b1, by simp only [PyData.canLayAll0, a2, b2, Bool.and_self], by simp only [PyData.depthAll]; omega⟩
theorem dp_of (s : StOk K mg m H st) : ∀ (n : Nat) (d : D) (p : PyData) (v : V), toP st n d = some p → Rp K mg m H d v → Dp K H v p ∧ p.canLay0 = true ∧ p.depth ≤ n
  | 0, _, _, _, h, _ => by cases h
  | n + 1, d, p, v, h, r => by
    unfold toP at h
    cases d with
    | non => cases h; cases r; exact ⟨.non, by simp only [PyData.canLay0], by simp only [PyData.depth]; omega⟩
    | bl b => cases h; cases r; exact ⟨.bl b, by simp only [PyData.canLay0], by simp only [PyData.depth]; omega⟩
    | int i => cases h; cases r; exact ⟨.int i, by simp only [PyData.canLay0], by simp only [PyData.depth]; omega⟩
    | str x =>
      simp only at h
      split at h
      · rename_i hx
        cases h; cases r
        exact ⟨.str x, by simp only [PyData.canLay0, hx], by simp only [PyData.depth]; omega⟩
      · cases h
    | tup k ds =>
      simp only at h
      cases e : optAll (ds.map (toP st n)) with
      | none => rw [e] at h; cases h
      | some ps =>
        rw [e] at h; cases h
        obtain ⟨a, xs, rfl, t, rl⟩ := r
        obtain ⟨h1, h2, h3⟩ := dpAll_of (dp_of s n) ds ps xs e rl
        exact ⟨.tup t.sq h1, by simp only [PyData.canLay0, h2], by simp only [PyData.depth]; omega⟩
    | ref l =>
      simp only at h
      split at h
      · rename_i lk ds es
        cases e : optAll (ds.map (toP st n)) with
        | none => rw [e] at h; cases h
        | some ps =>
          rw [e] at h; cases h
          obtain ⟨a, rfl, em⟩ := r
          obtain ⟨xs, rl, sq⟩ := (s.at_ l lk _ a es em).lst_rd
          obtain ⟨h1, h2, h3⟩ := dpAll_of (dp_of s n) ds ps xs e rl
          exact ⟨.lst sq h1, by simp only [PyData.canLay0, h2], by simp only [PyData.depth]; omega⟩
      · cases h
    | fn x => cases h
    | ty x => cases h
/-- how deep data are read -/
abbrev dpt : Nat := 30
abbrev rdP (st : Store) (d : D) : Option PyData := toP st dpt d
theorem rdP_of (s : StOk K mg m H st) {d : D} {p : PyData} {v : V} (h : rdP st d = some p) (r : Rp K mg m H d v) : Dp K H v p ∧ SeqAt.shaped p = true ∧ p.depth ≤ dpt := by
  obtain ⟨h1, h2, h3⟩ := dp_of s _ d p v h r
  refine ⟨h1, ?_, h3⟩
  unfold SeqAt.shaped
  rw [h2, Bool.true_and]
  exact decide_eq_true (by have : dpt = 30 := rfl; omega)
end

/-! ### comparisons -/
def eqD : Op2 := fun d e st => match rdP st d, rdP st e with
  | some p, some q => some (.bl (PyData.eqv p q), st)
  | _, _ => none
def neD : Op2 := fun d e st => match rdP st d, rdP st e with
  | some p, some q => some (.bl (!PyData.eqv p q), st)
  | _, _ => none
/-- may be compared by order -/
def ordOk (p q : PyData) : Bool := PySem.W.alike p q && (match p with | .none => false | _ => true)
def ltD : Op2 := fun d e st => match rdP st d, rdP st e with
  | some p, some q => if ordOk p q = true then some (.bl (PySem.W.dataLt p q), st) else none
  | _, _ => none
def gtD : Op2 := fun d e st => match rdP st d, rdP st e with
  | some p, some q => if ordOk p q = true then some (.bl (PySem.W.dataLt q p), st) else none
  | _, _ => none
def leD : Op2 := fun d e st => match rdP st d, rdP st e with
  | some p, some q => if ordOk p q = true then some (.bl (!PySem.W.dataLt q p), st) else none
  | _, _ => none
def geD : Op2 := fun d e st => match rdP st d, rdP st e with
  | some p, some q => if ordOk p q = true then some (.bl (!PySem.W.dataLt p q), st) else none
  | _, _ => none
section
variable {X : Cx}
theorem op_eqDd (hu : X.A.units + 64 < cLine) : OpR X (compareOp .Eq) (rdOp2 X.K X.mg eqD) := by
  refine OpR.weak (op_eqD hu) fun x y H Q h => ?_
  obtain ⟨m, st, d, e, s, rd, re, o⟩ := h
  unfold eqD at o
  split at o
  · rename_i p q e1 e2
    obtain ⟨h1, h2, _⟩ := rdP_of s e1 rd
    obtain ⟨k1, k2, _⟩ := rdP_of s e2 re
    exact ⟨p, q, h1, k1, h2, k2, o.here s rfl⟩
  · exact o.elim
theorem op_neDd (hu : X.A.units + 64 < cLine) : OpR X (compareOp .NotEq) (rdOp2 X.K X.mg neD) := by
  refine OpR.weak (op_neD hu) fun x y H Q h => ?_
  obtain ⟨m, st, d, e, s, rd, re, o⟩ := h
  unfold neD at o
  split at o
  · rename_i p q e1 e2
    obtain ⟨h1, h2, _⟩ := rdP_of s e1 rd
    obtain ⟨k1, k2, _⟩ := rdP_of s e2 re
    exact ⟨p, q, h1, k1, h2, k2, o.here s rfl⟩
  · exact o.elim
theorem ordOk_and {p q : PyData} (h : ordOk p q = true) : PySem.W.alike p q = true ∧ p ≠ .none := by
  unfold ordOk at h
  obtain ⟨h1, h2⟩ := Bool.and_eq_true_iff.mp h
  exact ⟨h1, fun e => by subst e; cases h2⟩
theorem ord_room {A : Around} {p q : PyData} (hu : A.units + 64 < cLine) (h : p.depth ≤ dpt) : A.units + min p.depth q.depth < cLine := by
  have h1 : min p.depth q.depth ≤ p.depth := Nat.min_le_left _ _
  have : dpt = 30 := rfl
  omega
theorem op_ltDd (hu : X.A.units + 64 < cLine) : OpR X (compareOp .Lt) (rdOp2 X.K X.mg ltD) := by
  intro pins s σ H x y v u Q I rx ry h
  obtain ⟨m, st, d, e, so, rd, re, o⟩ := h
  unfold ltD at o
  split at o
  · rename_i p q e1 e2
    split at o
    · rename_i ok
      obtain ⟨h1, h2, h3⟩ := rdP_of so e1 rd
      obtain ⟨k1, k2, k3⟩ := rdP_of so e2 re
      obtain ⟨al, ne⟩ := ordOk_and ok
      obtain ⟨as, r1⟩ := Dp.reads I p x v h1 rx
      obtain ⟨bs, r2⟩ := Dp.reads I q y u k1 ry
      exact PySem.W.lt_data r1 r2 al ne (ord_room hu h3) ⟨.bl _, H, I, rfl, o.here so rfl⟩
    · exact o.elim
  · exact o.elim
theorem op_gtDd (hu : X.A.units + 64 < cLine) : OpR X (compareOp .Gt) (rdOp2 X.K X.mg gtD) := by
  intro pins s σ H x y v u Q I rx ry h
  obtain ⟨m, st, d, e, so, rd, re, o⟩ := h
  unfold gtD at o
  split at o
  · rename_i p q e1 e2
    split at o
    · rename_i ok
      obtain ⟨h1, h2, h3⟩ := rdP_of so e1 rd
      obtain ⟨k1, k2, k3⟩ := rdP_of so e2 re
      obtain ⟨al, ne⟩ := ordOk_and ok
      obtain ⟨as, r1⟩ := Dp.reads I p x v h1 rx
      obtain ⟨bs, r2⟩ := Dp.reads I q y u k1 ry
      exact PySem.W.gt_data r1 r2 al ne (ord_room hu h3) ⟨.bl _, H, I, rfl, o.here so rfl⟩
    · exact o.elim
  · exact o.elim
theorem op_leDd (hu : X.A.units + 64 < cLine) : OpR X (compareOp .LtE) (rdOp2 X.K X.mg leD) := by
  intro pins s σ H x y v u Q I rx ry h
  obtain ⟨m, st, d, e, so, rd, re, o⟩ := h
  unfold leD at o
  split at o
  · rename_i p q e1 e2
    split at o
    · rename_i ok
      obtain ⟨h1, h2, h3⟩ := rdP_of so e1 rd
      obtain ⟨k1, k2, k3⟩ := rdP_of so e2 re
      obtain ⟨al, ne⟩ := ordOk_and ok
      obtain ⟨as, r1⟩ := Dp.reads I p x v h1 rx
      obtain ⟨bs, r2⟩ := Dp.reads I q y u k1 ry
      exact PySem.W.le_data r1 r2 al ne (ord_room hu h3) ⟨.bl _, H, I, rfl, o.here so rfl⟩
    · exact o.elim
  · exact o.elim
theorem op_geDd (hu : X.A.units + 64 < cLine) : OpR X (compareOp .GtE) (rdOp2 X.K X.mg geD) := by
  intro pins s σ H x y v u Q I rx ry h
  obtain ⟨m, st, d, e, so, rd, re, o⟩ := h
  unfold geD at o
  split at o
  · rename_i p q e1 e2
    split at o
    · rename_i ok
      obtain ⟨h1, h2, h3⟩ := rdP_of so e1 rd
      obtain ⟨k1, k2, k3⟩ := rdP_of so e2 re
      obtain ⟨al, ne⟩ := ordOk_and ok
      obtain ⟨as, r1⟩ := Dp.reads I p x v h1 rx
      obtain ⟨bs, r2⟩ := Dp.reads I q y u k1 ry
      exact PySem.W.ge_data r1 r2 al ne (ord_room hu h3) ⟨.bl _, H, I, rfl, o.here so rfl⟩
    · exact o.elim
  · exact o.elim
end
end PP
set_option Elab.async false
set_option linter.all false
set_option maxRecDepth 100000
set_option maxHeartbeats 2000000
/-! PP3: keys and dicts, subscripts, stores, slices, in. -/
namespace PP
open PySem PySem.Spec PyProof.Rows L2
variable [Tbl]

/-! ### keys and dicts -/
def keyOf : D → Option (Sum Key (List Key))
  | .int i => some (.inl (.inl i))
  | .str s => some (.inl (.inr s))
  | .tup _ ds => (keysD ds).map .inr
  | _ => none
def keq (a b : D) : Bool := match keyOf a, keyOf b with
  | some x, some y => decide (x = y)
  | _, _ => false
def dget (kvs : List (D × D)) (k : D) : Option D := (kvs.find? fun p => keq p.1 k).map (·.2)
def dput (kvs : List (D × D)) (k v : D) : List (D × D) := if (kvs.any fun p => keq p.1 k) = true then kvs.map fun p => if keq p.1 k = true then (p.1, v) else p else kvs ++ [(k, v)]
def ddel (kvs : List (D × D)) (k : D) : List (D × D) := kvs.filter fun p => !keq p.1 k
/-- a simple key -/
def isK (d : D) : Bool := (keyD d).isSome
/-- a tuple of simple ones -/
def isT : D → Bool
  | .tup false ds => (keysD ds).isSome
  | _ => false
abbrev fK : Key → D := kD
abbrev fT : List Key → D := fun ks => .tup false (ks.map kD)
theorem isK_of {d : D} (h : isK d = true) : ∃ k, d = fK k := by
  obtain ⟨k, e⟩ := Option.isSome_iff_exists.mp h
  exact ⟨k, kD_of e⟩
theorem isT_of {d : D} (h : isT d = true) : ∃ k, d = fT k := by
  cases d with
  | tup b ds =>
    cases b with
    | true => cases h
    | false =>
      obtain ⟨k, e⟩ := Option.isSome_iff_exists.mp (show (keysD ds).isSome = true from h)
      exact ⟨k, congrArg (D.tup false) (kDs_of e)⟩
  | _ => cases h
theorem isT_fK (k : Key) : isT (kD k) = false := by cases k <;> rfl
theorem keyOf_fK (k : Key) : keyOf (fK k) = some (.inl k) := by cases k <;> rfl
theorem keyOf_fT (k : List Key) : keyOf (fT k) = some (.inr k) := by
  show (keysD (k.map kD)).map Sum.inr = _
  rw [keysD_map]; rfl
theorem keq_fK (a b : Key) : keq (fK a) (fK b) = decide (a = b) := by
  unfold keq
  rw [keyOf_fK, keyOf_fK]
  simp
theorem keq_fT (a b : List Key) : keq (fT a) (fT b) = decide (a = b) := by
  unfold keq
  rw [keyOf_fT, keyOf_fT]
  simp
section
variable {K : PySem.W.Frag} {mg : Str → Option Value} {m : List Addr} {H : Hp} {κ : Type} [DecidableEq κ] {f : κ → D}
/-- both there, or none -/
def RO (m : List Addr) (H : Hp) : Option D → Option V → Prop
  | some d, some v => Rp K mg m H d v
  | none, none => True
  | _, _ => False
theorem Kvs.get (hf : ∀ a b, keq (f a) (f b) = decide (a = b)) (k : κ) : ∀ {kvs : List (D × D)} {kv' : List (κ × V)}, Kvs K mg m H f kvs kv' → RO (K := K) (mg := mg) m H (dget kvs (f k)) (valV kv' k)
  | _, _, .nil => True.intro
  | p :: kvs, q :: kv', .cons ⟨e, r⟩ t => by
    unfold dget
    rw [List.find?_cons, e, hf]
    by_cases h : q.1 = k
    · rw [decide_eq_true h, valV_pos h]; exact r
    · rw [decide_eq_false h, valV_neg h]
      exact Kvs.get hf k t
theorem Kvs.any (hf : ∀ a b, keq (f a) (f b) = decide (a = b)) (k : κ) : ∀ {kvs : List (D × D)} {kv' : List (κ × V)}, Kvs K mg m H f kvs kv' → (kvs.any fun p => keq p.1 (f k)) = kv'.any fun q => decide (q.1 = k)
  | _, _, .nil => rfl
  | p :: kvs, q :: kv', .cons ⟨e, r⟩ t => by rw [List.any_cons, List.any_cons, e, hf, Kvs.any hf k t]
theorem Kvs.snoc {kvs : List (D × D)} {kv' : List (κ × V)} {p : D × D} {q : κ × V} (h : Kvs K mg m H f kvs kv') (e : p.1 = f q.1 ∧ Rp K mg m H p.2 q.2) : Kvs K mg m H f (kvs ++ [p]) (kv' ++ [q]) := by
  induction h with
  | nil => exact .cons e .nil
  | cons r t ih => exact .cons r ih
theorem Kvs.repl (hf : ∀ a b, keq (f a) (f b) = decide (a = b)) (k : κ) {d : D} {v : V} (rv : Rp K mg m H d v) : ∀ {kvs : List (D × D)} {kv' : List (κ × V)}, Kvs K mg m H f kvs kv' →
    Kvs K mg m H f (kvs.map fun p => if keq p.1 (f k) = true then (p.1, d) else p) (kv'.map fun q => if q.1 = k then (q.1, v) else q)
  | _, _, .nil => .nil
  | p :: kvs, q :: kv', .cons ⟨e, r⟩ t => by
    refine .cons ?_ (Kvs.repl hf k rv t)
    show (if keq p.1 (f k) = true then (p.1, d) else p).1 = f (if q.1 = k then (q.1, v) else q).1 ∧ Rp K mg m H (if keq p.1 (f k) = true then (p.1, d) else p).2 (if q.1 = k then (q.1, v) else q).2
    rw [e, hf]
    by_cases h : q.1 = k
    · rw [if_pos (decide_eq_true h), if_pos h]; exact ⟨rfl, rv⟩
    · rw [if_neg (fun z => h (of_decide_eq_true z)), if_neg h]; exact ⟨e, r⟩
theorem Kvs.put (hf : ∀ a b, keq (f a) (f b) = decide (a = b)) (k : κ) {d : D} {v : V} (rv : Rp K mg m H d v) {kvs : List (D × D)} {kv' : List (κ × V)} (h : Kvs K mg m H f kvs kv') : Kvs K mg m H f (dput kvs (f k) d) (putK kv' k v) := by
  unfold dput putK
  rw [Kvs.any hf k h]
  split
  · exact Kvs.repl hf k rv h
  · exact h.snoc ⟨rfl, rv⟩
theorem Kvs.del (hf : ∀ a b, keq (f a) (f b) = decide (a = b)) (k : κ) : ∀ {kvs : List (D × D)} {kv' : List (κ × V)}, Kvs K mg m H f kvs kv' → Kvs K mg m H f (ddel kvs (f k)) (dropK kv' k)
  | _, _, .nil => .nil
  | p :: kvs, q :: kv', .cons ⟨e, r⟩ t => by
    unfold ddel dropK
    rw [List.filter_cons, List.filter_cons, e, hf]
    by_cases h : q.1 = k
    · rw [decide_eq_true h, decide_eq_false (fun z => z h)]
      exact Kvs.del hf k t
    · rw [decide_eq_false h, decide_eq_true h]
      exact .cons ⟨e, r⟩ (Kvs.del hf k t)
theorem Kvs.length {kvs : List (D × D)} {kv' : List (κ × V)} (h : Kvs K mg m H f kvs kv') : kvs.length = kv'.length := Paired.length h
end
/-- what is found at a key: none: it can't be said -/
def lookD (st : Store) (d k : D) : Option (Option D) := match d with
  | .ref l => match st[l]? with
    | some (lk, .dct []) => if lk = false ∧ (isK k || isT k) = true then some none else none
    | some (_, .dct (p :: kvs)) => if (isK p.1 && isK k) = true ∨ (isT p.1 && isT k) = true then some (dget (p :: kvs) k) else none
    | _ => none
  | _ => none
section
variable {X : Cx} {pins : List (Addr × Obj)} {σ : L2.St} {m : List Addr} {H : Hp} {s : Shared} {st : Store}
/-- an empty dict is of both kinds -/
theorem Inv.asK {a : Addr} (I : Inv X pins σ H s) (h : H a = some (.dT [])) : Inv X pins σ (upd H a (.dK [])) s := by
  obtain ⟨z, hd, xs, rel, o, es, ep, ho, hx, hda, he, _⟩ := I.hok a _ h
  cases rel
  have e0 : es = #[] := by simpa using he
  subst e0
  exact I.write (x := a) (e := a) (o := .dK []) (h' := s.heap) (t' := s.toks) (by rw [h]; trivial) (.inl rfl) (fun b u _ q => q) ⟨o, ho⟩
    ⟨Nat.zero_le _, hd, [], .nil, o, _, ep, ho, hx, hda, (fun e he => absurd he (by simp)), .nil, List.nodup_nil⟩
theorem Inv.asT {a : Addr} (I : Inv X pins σ H s) (h : H a = some (.dK [])) : Inv X pins σ (upd H a (.dT [])) s := by
  obtain ⟨z, hd, vs, rel, o, es, ep, ho, hx, hda, _, hp, _⟩ := I.hok a _ h
  cases rel
  have e0 : es = #[] := by
    have : es.toList = [] := by
      generalize es.toList = l at hp
      cases hp
      rfl
    exact Array.toList_eq_nil_iff.mp this
  subst e0
  exact I.write (x := a) (e := a) (o := .dT []) (h' := s.heap) (t' := s.toks) (by rw [h]; trivial) (.inl rfl) (fun b u _ q => q) ⟨o, ho⟩
    ⟨Nat.zero_le _, hd, [], .nil, o, _, ep, ho, hx, hda, by simp, List.nodup_nil⟩
theorem Kvs.nil_of {K : PySem.W.Frag} {mg : Str → Option Value} {κ : Type} {f : κ → D} {kv' : List (κ × V)} (h : Kvs K mg m H f [] kv') : kv' = [] := by cases h; rfl
theorem CellOk.emp {K : PySem.W.Frag} {mg : Str → Option Value} {a : Addr} (h : CellOk K mg m H a false (.dct [])) : H a = some (.dK []) ∨ H a = some (.dT []) := by
  rcases h with ⟨kv', r, c⟩ | ⟨kv', r, c⟩
  · rw [r.nil_of] at c; exact .inl c
  · rw [r.nil_of] at c; exact .inr c
/-- the heap, an empty dict turned as a key wants it -/
theorem StOk.turn {K : PySem.W.Frag} {mg : Str → Option Value} (h : StOk K mg m H st) {l : Nat} {a : Addr} {o u : HO} (e : st[l]? = some (false, .dct [])) (ea : m[l]? = some a) (eu : H a = some u) (hu : Stays u → False) (ho : o = .dK [] ∨ o = .dT []) :
    StOk K mg m (upd H a o) st ∧ Pers H (upd H a o) := by
  have p : Pers H (upd H a o) := Pers.write eu hu
  have k : CellOk K mg m (upd H a o) a false (.dct []) := by
    rcases ho with rfl | rfl
    · exact .inl ⟨[], .nil, upd_same⟩
    · exact .inr ⟨[], .nil, upd_same⟩
  have q := h.write e ea p k
  rw [show st.set l (false, .dct []) = st by
    obtain ⟨hl, e'⟩ := List.getElem?_eq_some_iff.mp e
    rw [← e', List.set_getElem_self]] at q
  exact ⟨q, p⟩
/-- the key at hand: the state is turned if need be; then DGet tells what lookD does -/
theorem look_at (I : Inv X pins σ H s) (so : StOk X.K X.mg m H st) {d k : D} {x y : V} {r : Option D} (rd : Rp X.K X.mg m H d x) (rk : Rp X.K X.mg m H k y) (h : lookD st d k = some r) :
    ∃ a H1 o, x = .ref a ∧ Inv X pins σ H1 s ∧ StOk X.K X.mg m H1 st ∧ Pers H H1 ∧ DGet H1 a y o ∧ IsD H1 a ∧ RO (K := X.K) (mg := X.mg) m H1 r o := by
  unfold lookD at h
  split at h
  · rename_i l
    obtain ⟨a, rfl, ea⟩ := rd
    split at h
    · rename_i lk e
      split at h
      · rename_i hc
        obtain ⟨rfl, hc⟩ := hc
        cases h
        rcases Bool.or_eq_true_iff.mp hc with hk | hk
        · obtain ⟨k', rfl⟩ := isK_of hk
          have ey := Rp_kD.mp rk
          subst ey
          rcases (so.at_ l _ _ a e ea).emp with eH | eH
          · exact ⟨a, H, none, rfl, I, so, Pers.refl H, .inl ⟨[], k', .inl eH, rfl, rfl⟩, .inl ⟨_, .inl eH⟩, True.intro⟩
          · obtain ⟨s1, p1⟩ := so.turn e ea eH (fun z => z) (.inl rfl)
            exact ⟨a, _, none, rfl, Inv.asK I eH, s1, p1, .inl ⟨[], k', .inl upd_same, rfl, rfl⟩, .inl ⟨_, .inl upd_same⟩, True.intro⟩
        · obtain ⟨k', rfl⟩ := isT_of hk
          obtain ⟨b, xs, rfl, tb, rl⟩ := rk
          have ex := RpL_kD rl
          subst ex
          rcases (so.at_ l _ _ a e ea).emp with eH | eH
          · obtain ⟨s1, p1⟩ := so.turn e ea eH (fun z => z) (.inr rfl)
            exact ⟨a, _, none, rfl, Inv.asT I eH, s1, p1, .inr ⟨[], k', b, .inl upd_same, rfl, tb.mono p1, rfl⟩, .inr ⟨_, .inl upd_same⟩, True.intro⟩
          · exact ⟨a, H, none, rfl, I, so, Pers.refl H, .inr ⟨[], k', b, .inl eH, rfl, tb, rfl⟩, .inr ⟨_, .inl eH⟩, True.intro⟩
      · cases h
    · rename_i lk p kvs e
      split at h
      · rename_i hc
        cases h
        have co := so.at_ l _ _ a e ea
        rcases hc with hc | hc
        · obtain ⟨h1, h2⟩ := Bool.and_eq_true_iff.mp hc
          obtain ⟨k', rfl⟩ := isK_of h2
          have ey := Rp_kD.mp rk
          subst ey
          rcases co with ⟨kv', r, c⟩ | ⟨kv', r, c⟩
          · exact ⟨a, H, _, rfl, I, so, Pers.refl H, .inl ⟨kv', k', c.rd, rfl, rfl⟩, .inl ⟨_, c.rd⟩, Kvs.get keq_fK k' r⟩
          · exfalso
            cases r with
            | cons e1 _ => rw [e1.1] at h1; cases h1
        · obtain ⟨h1, h2⟩ := Bool.and_eq_true_iff.mp hc
          obtain ⟨k', rfl⟩ := isT_of h2
          obtain ⟨b, xs, rfl, tb, rl⟩ := rk
          have ex := RpL_kD rl
          subst ex
          rcases co with ⟨kv', r, c⟩ | ⟨kv', r, c⟩
          · exfalso
            cases r with
            | @cons p q _ _ e1 _ =>
              rw [e1.1, isT_fK] at h1
              cases h1
          · exact ⟨a, H, _, rfl, I, so, Pers.refl H, .inr ⟨kv', k', b, c.rd, rfl, tb, rfl⟩, .inr ⟨_, c.rd⟩, Kvs.get keq_fT k' r⟩
      · cases h
    · cases h
  · cases h
end

/-! ### d[k], k in d, d[k] = v -/
section
variable {X : Cx}
def dgetD : Op2 := fun d k st => match lookD st d k with
  | some (some v) => some (v, st)
  | _ => none
def dinD (neg : Bool) : Op2 := fun k d st => match lookD st d k with
  | some r => some (.bl (if neg = true then !r.isSome else r.isSome), st)
  | _ => none
theorem RO.some_of {K : PySem.W.Frag} {mg : Str → Option Value} {m : List Addr} {H : Hp} {d : D} {o : Option V} (h : RO (K := K) (mg := mg) m H (some d) o) : ∃ v, o = some v ∧ Rp K mg m H d v := by
  cases o with
  | none => exact h.elim
  | some v => exact ⟨v, rfl, h⟩
theorem RO.isSome {K : PySem.W.Frag} {mg : Str → Option Value} {m : List Addr} {H : Hp} {d : Option D} {o : Option V} (h : RO (K := K) (mg := mg) m H d o) : o.isSome = d.isSome := by
  cases d <;> cases o <;> first | rfl | exact h.elim
theorem ix_dict (hu : X.A.units + 1 < cLine) : IxR X (rdOp2 X.K X.mg dgetD) := by
  intro value slice pins s σ H x y v u Q I rx ry h hs
  obtain ⟨m, st, d, k, so, rd, rk, o⟩ := h
  unfold dgetD at o
  split at o
  · rename_i r e
    obtain ⟨a, H1, ov, rfl, I1, s1, p1, g, _, ro⟩ := look_at I so rd rk e
    obtain ⟨w', rfl, rw'⟩ := ro.some_of
    cases rx
    refine tail_any (dict_typeIs I1 g) PySem.F.slot_dict_getitem.lookup (d_getItem hu I1 g ry fun wv s2 I2 rv => ?_) hs
    exact ⟨w', H1, I2, rv, o m H1 w' (Pre.refl m) p1 s1 rw'⟩
  · exact o.elim
theorem op_dinD (hu : X.A.units + 1 < cLine) : OpR X (compareOp .In) (rdOp2 X.K X.mg (dinD false)) := by
  intro pins s σ H x y v u Q I rx ry h
  obtain ⟨m, st, k, d, so, rk, rd, o⟩ := h
  unfold dinD at o
  split at o
  · rename_i r e
    obtain ⟨a, H1, ov, rfl, I1, s1, p1, g, _, ro⟩ := look_at I so rd rk e
    cases ry
    exact d_in hu I1 g rx fun s2 I2 => ⟨.bl ov.isSome, H1, I2, rfl, o m H1 _ (Pre.refl m) p1 s1 (congrArg V.bl ro.isSome)⟩
  · exact o.elim
theorem op_dninD (hu : X.A.units + 1 < cLine) : OpR X (compareOp .NotIn) (rdOp2 X.K X.mg (dinD true)) := by
  intro pins s σ H x y v u Q I rx ry h
  obtain ⟨m, st, k, d, so, rk, rd, o⟩ := h
  unfold dinD at o
  split at o
  · rename_i r e
    obtain ⟨a, H1, ov, rfl, I1, s1, p1, g, _, ro⟩ := look_at I so rd rk e
    cases ry
    exact d_notIn hu I1 g rx fun s2 I2 => ⟨.bl (!ov.isSome), H1, I2, rfl, o m H1 _ (Pre.refl m) p1 s1 (by rw [ro.isSome]; rfl)⟩
  · exact o.elim
/-- a store o[k] = v: what becomes of the store -/
abbrev OpS := D → D → D → Store → Option Store
def dputD : OpS := fun d k v st => match d with
  | .ref l => match st[l]? with
    | some (false, .dct []) => if (isK k || isT k) = true then some (st.set l (false, .dct [(k, v)])) else none
    | some (false, .dct (p :: kvs)) => if ((isK p.1 && isK k) = true ∨ (isT p.1 && isT k) = true) ∧ (p :: kvs).length < sizeLine then some (st.set l (false, .dct (dput (p :: kvs) k v))) else none
    | _ => none
  | _ => none
def rdSet (K : PySem.W.Frag) (mg : Str → Option Value) (f : OpS) : TSet := fun o i v H Q => ∃ m st d k e, StOk K mg m H st ∧ Rp K mg m H d o ∧ Rp K mg m H k i ∧ Rp K mg m H e v ∧ ∃ st', f d k e st = some st' ∧ ∀ H', Pers H H' → StOk K mg m H' st' → Q H'
theorem set_dict (hu : X.A.units + 1 < cLine) : PSet X (rdSet X.K X.mg dputD) := by
  intro pins s σ H o i v ov iv u Q I ro ri rv h
  obtain ⟨m, st, d, k, e, so, rd, rk, re, st2, hq, h⟩ := h
  unfold dputD at hq
  -- what a put into a dict of the one kind gives
  have putK' : ∀ {H1 : Hp} {a : Addr} {l : Nat} {lk : Bool} {c : Cell} {kvs : List (D × D)} {kv' : List (Key × V)} {k' : Key} {st' : Store}, Inv X pins σ H1 s → StOk X.K X.mg m H1 st → Pers H H1 → st[l]? = some (lk, c) → m[l]? = some a → H1 a = some (.dK kv') → Kvs X.K X.mg m H1 fK kvs kv' →
      kv'.length < sizeLine → k = fK k' → ov = .ref a → st' = st.set l (false, .dct (dput kvs k e)) → (∀ H', Pers H H' → StOk X.K X.mg m H' st' → Q H') →
      wpAny (model X.prog X.w) X.A (setItem ov iv u) (fun _ s' => ∃ H', Inv X pins σ H' s' ∧ Q H') X.xe s := by
    intro H1 a l lk c kvs kv' k' st' I1 s1 p1 el em eH r hl hk hov hst q
    subst hk hov hst
    have ei : i = kV k' := Rp_kD.mp rk
    subst ei
    have pw : Pers H1 (upd H1 a (.dK (putK kv' k' v))) := Pers.write eH (fun z => z)
    refine d_setItem hu I1 (DPut.k eH hl) ri rv fun s2 I2 => ⟨_, I2, q _ (p1.trans pw) (s1.write el em pw (.inl ⟨_, ?_, upd_same⟩))⟩
    exact Kvs.mono (Pre.refl m) pw (Kvs.put keq_fK k' (Rp.mono (Pre.refl m) p1 _ _ re) r)
  have putT' : ∀ {H1 : Hp} {a : Addr} {l : Nat} {lk : Bool} {c : Cell} {kvs : List (D × D)} {kv' : List (List Key × V)} {k' : List Key} {st' : Store}, Inv X pins σ H1 s → StOk X.K X.mg m H1 st → Pers H H1 → st[l]? = some (lk, c) → m[l]? = some a → H1 a = some (.dT kv') → Kvs X.K X.mg m H1 fT kvs kv' →
      kv'.length < sizeLine → k = fT k' → ov = .ref a → st' = st.set l (false, .dct (dput kvs k e)) → (∀ H', Pers H H' → StOk X.K X.mg m H' st' → Q H') →
      wpAny (model X.prog X.w) X.A (setItem ov iv u) (fun _ s' => ∃ H', Inv X pins σ H' s' ∧ Q H') X.xe s := by
    intro H1 a l lk c kvs kv' k' st' I1 s1 p1 el em eH r hl hk hov hst q
    subst hk hov hst
    obtain ⟨b, xs, rfl, tb, rl⟩ := rk
    have ex := RpL_kD rl
    subst ex
    have pw : Pers H1 (upd H1 a (.dT (putK kv' k' v))) := Pers.write eH (fun z => z)
    refine d_setItem hu I1 (DPut.t eH (tb.mono p1) hl) ri rv fun s2 I2 => ⟨_, I2, q _ (p1.trans pw) (s1.write el em pw (.inr ⟨_, ?_, upd_same⟩))⟩
    exact Kvs.mono (Pre.refl m) pw (Kvs.put keq_fT k' (Rp.mono (Pre.refl m) p1 _ _ re) r)
  cases d with
  | ref l =>
    obtain ⟨a, rfl, em⟩ := rd
    simp only at hq
    have hov : ov = .ref a := ro
    split at hq
    · rename_i el
      split at hq
      · rename_i hc
        cases hq
        have h0 : (0 : Nat) < sizeLine := by rw [sizeLine_eq]; decide
        rcases Bool.or_eq_true_iff.mp hc with hk | hk
        · obtain ⟨k', rfl⟩ := isK_of hk
          rcases (so.at_ l _ _ a el em).emp with eH | eH
          · exact putK' I so (Pers.refl H) el em eH .nil h0 rfl hov rfl h
          · obtain ⟨s1, p1⟩ := so.turn el em eH (fun z => z) (.inl rfl)
            exact putK' (Inv.asK I eH) s1 p1 el em upd_same .nil h0 rfl hov rfl h
        · obtain ⟨k', rfl⟩ := isT_of hk
          rcases (so.at_ l _ _ a el em).emp with eH | eH
          · obtain ⟨s1, p1⟩ := so.turn el em eH (fun z => z) (.inr rfl)
            exact putT' (Inv.asT I eH) s1 p1 el em upd_same .nil h0 rfl hov rfl h
          · exact putT' I so (Pers.refl H) el em eH .nil h0 rfl hov rfl h
      · cases hq
    · rename_i p kvs el
      split at hq
      · rename_i hc
        obtain ⟨hc, hl⟩ := hc
        cases hq
        have co := so.at_ l _ _ a el em
        rcases hc with hc | hc
        · obtain ⟨h1, h2⟩ := Bool.and_eq_true_iff.mp hc
          obtain ⟨k', rfl⟩ := isK_of h2
          rcases co with ⟨kv', r, c⟩ | ⟨kv', r, c⟩
          · exact putK' I so (Pers.refl H) el em c r (by rw [← r.length]; exact hl) rfl hov rfl h
          · exfalso
            cases r with
            | cons e1 _ => rw [e1.1] at h1; cases h1
        · obtain ⟨h1, h2⟩ := Bool.and_eq_true_iff.mp hc
          obtain ⟨k', rfl⟩ := isT_of h2
          rcases co with ⟨kv', r, c⟩ | ⟨kv', r, c⟩
          · exfalso
            cases r with
            | @cons p q _ _ e1 _ =>
              rw [e1.1, isT_fK] at h1
              cases h1
          · exact putT' I so (Pers.refl H) el em c r (by rw [← r.length]; exact hl) rfl hov rfl h
      · cases hq
    · cases hq
  | _ => cases hq
end
end PP
set_option Elab.async false
set_option linter.all false
set_option maxRecDepth 100000
set_option maxHeartbeats 2000000
/-! PP4: subscripts, list stores, slices, in, is, truth. -/
namespace PP
open PySem PySem.Spec PyProof.Rows L2
variable [Tbl]

/-! ### subscripts -/
def sign1 (c : Nat) : Str := ⟨#[c]⟩
def ixD : Op2 := fun d i st => match d, i with
  | .ref l, .int i => match st[l]? with
    | some (_, .lst ds) => (atI ds i).map fun x => (x, st)
    | _ => none
  | .tup _ ds, .int i => (atI ds i).map fun x => (x, st)
  | .str z, .int i => if z.length ≤ sizeLine then (atI z.cps.toList i).map fun c => (.str (sign1 c), st) else none
  | _, _ => none
/-- o[i], whatever o is -/
def subscD : Op2 := fun d i st => match ixD d i st with
  | some r => some r
  | none => dgetD d i st
section
variable {K : PySem.W.Frag} {mg : Str → Option Value} {m : List Addr} {H : Hp}
theorem RpL.atI {ds : List D} {xs : List V} {i : Int} {d : D} (r : RpL K mg m H ds xs) (h : L2.atI ds i = some d) : ∃ x, L2.atI xs i = some x ∧ Rp K mg m H d x := by
  unfold L2.atI at h ⊢
  rw [r.length]
  cases e : ixN ds.length i with
  | none => rw [e] at h; cases h
  | some j =>
    rw [e] at h
    obtain ⟨x, e1, r1⟩ := r.get h
    exact ⟨x, e1, r1⟩
theorem IxR.weak {X : Cx} {r r' : R2} (h : IxR X r) (i : ∀ x y H Q, r' x y H Q → r x y H Q) : IxR X r' := fun value slice pins s σ H x y v u Q I rx ry q hs => h value slice pins s σ H x y v u Q I rx ry (i x y H Q q) hs
end
section
variable {X : Cx}
theorem ix_ixD : IxR X (rdOp2 X.K X.mg ixD) := by
  refine IxR.weak ix_seq fun x y H Q h => ?_
  obtain ⟨m, st, d, e, so, rd, re, o⟩ := h
  unfold ixD at o
  split at o
  · rename_i l i
    cases re
    obtain ⟨a, rfl, em⟩ := rd
    split at o
    · rename_i lk ds es
      cases e : L2.atI ds i with
      | none => rw [e] at o; exact o.elim
      | some z =>
        rw [e] at o
        obtain ⟨xs, rl, sq⟩ := (so.at_ l lk _ a es em).lst_rd
        obtain ⟨v, ev, rv⟩ := rl.atI e
        exact .inl ⟨a, xs, i, v, rfl, rfl, sq, ev, o.here so rv⟩
    · exact o.elim
  · rename_i ds i
    cases re
    obtain ⟨a, xs, rfl, ta, rl⟩ := rd
    cases e : L2.atI ds i with
    | none => rw [e] at o; exact o.elim
    | some z =>
      rw [e] at o
      obtain ⟨v, ev, rv⟩ := rl.atI e
      exact .inr (.inl ⟨a, xs, i, v, rfl, rfl, ta.sq, ev, o.here so rv⟩)
  · rename_i z i
    cases re; cases rd
    split at o
    · rename_i hz
      cases e : L2.atI z.cps.toList i with
      | none => rw [e] at o; exact o.elim
      | some c =>
        rw [e] at o
        exact .inr (.inr ⟨z, i, c, rfl, rfl, hz, e, o.here so rfl⟩)
    · exact o.elim
  · exact o.elim
theorem ix_subscD (hu : X.A.units + 1 < cLine) : IxR X (rdOp2 X.K X.mg subscD) := by
  refine IxR.weak (ix_ixD.or (ix_dict hu)) fun x y H Q h => ?_
  obtain ⟨m, st, d, e, so, rd, re, o⟩ := h
  unfold subscD at o
  split at o
  · rename_i r er
    exact .inl ⟨m, st, d, e, so, rd, re, by rw [er]; exact o⟩
  · exact .inr ⟨m, st, d, e, so, rd, re, o⟩
end

/-! ### xs[i] = v -/
def lputD : OpS := fun d i v st => match d, i with
  | .ref l, .int i => match st[l]? with
    | some (false, .lst ds) => (ixN ds.length i).map fun j => st.set l (false, .lst (ds.set j v))
    | _ => none
  | _, _ => none
def putD : OpS := fun d i v st => match lputD d i v st with
  | some r => some r
  | none => dputD d i v st
section
variable {X : Cx}
theorem PSet.weak {t t' : TSet} (h : PSet X t) (i : ∀ o i v H Q, t' o i v H Q → t o i v H Q) : PSet X t' := fun pins s σ H o iv v ov iw u Q I ro ri rv q => h pins s σ H o iv v ov iw u Q I ro ri rv (i _ _ _ _ _ q)
theorem PSet.or {t t' : TSet} (h : PSet X t) (h' : PSet X t') : PSet X (fun o i v H Q => t o i v H Q ∨ t' o i v H Q) := fun pins s σ H o iv v ov iw u Q I ro ri rv q =>
  q.elim (h pins s σ H o iv v ov iw u Q I ro ri rv) (h' pins s σ H o iv v ov iw u Q I ro ri rv)
theorem set_lput : PSet X (rdSet X.K X.mg lputD) := by
  refine PSet.weak set_list fun o i v H Q h => ?_
  obtain ⟨m, st, d, k, e, so, rd, rk, re, st2, hq, h⟩ := h
  unfold lputD at hq
  split at hq
  · rename_i l i
    cases rk
    obtain ⟨a, rfl, em⟩ := rd
    split at hq
    · rename_i ds es
      cases ej : ixN ds.length i with
      | none => rw [ej] at hq; cases hq
      | some j =>
        rw [ej] at hq; cases hq
        obtain ⟨xs, rl, c⟩ := so.at_ l _ _ a es em
        have eH : H a = some (.lst xs) := c
        have pw : Pers H (upd H a (.lst (xs.set j v))) := Pers.write eH (fun z => z)
        exact ⟨a, xs, i, j, rfl, rfl, eH, by rw [rl.length]; exact ej, h _ pw (so.write es em pw ⟨_, RpL.mono (Pre.refl m) pw _ _ (rl.set re j), upd_same⟩)⟩
    · cases hq
  · cases hq
theorem set_putD (hu : X.A.units + 1 < cLine) : PSet X (rdSet X.K X.mg putD) := by
  refine PSet.weak (PSet.or set_lput (set_dict hu)) fun o i v H Q h => ?_
  obtain ⟨m, st, d, k, e, so, rd, rk, re, st2, hq, h⟩ := h
  unfold putD at hq
  split at hq
  · rename_i r er
    exact .inl ⟨m, st, d, k, e, so, rd, rk, re, st2, by rw [er]; exact hq, h⟩
  · exact .inr ⟨m, st, d, k, e, so, rd, rk, re, st2, hq, h⟩
end

/-! ### slices -/
def cutL {α : Type} (xs : List α) (lo hi : Option Int) : List α := (xs.drop (HT.sIx xs.length 0 lo)).take (HT.sIx xs.length xs.length hi - HT.sIx xs.length 0 lo)
abbrev OpSl := D → Option Int → Option Int → Store → Option (D × Store)
def sliceD : OpSl := fun d lo hi st => match d with
  | .ref l => match st[l]? with
    | some (_, .lst ds) => some (.ref st.length, st ++ [(false, .lst (cutL ds lo hi))])
    | _ => none
  | .tup k ds => some (.tup k (cutL ds lo hi), st)
  | .str z => if z.length ≤ sizeLine then some (.str (cutS z lo hi), st) else none
  | _ => none
def rdSl (K : PySem.W.Frag) (mg : Str → Option Value) (f : OpSl) : V → Option Int → Option Int → Hp → VK → Prop := fun x lo hi H Q => ∃ m st d, StOk K mg m H st ∧ Rp K mg m H d x ∧ Out K mg (Rp K mg) m H (f d lo hi st) Q
section
variable {X : Cx}
theorem SlR.weak {r r' : V → Option Int → Option Int → Hp → VK → Prop} (h : SlR X r) (i : ∀ x lo hi H Q, r' x lo hi H Q → r x lo hi H Q) : SlR X r' := fun pins s σ H x v vl vu lo hi sl Q I rx hs pl pu q => h pins s σ H x v vl vu lo hi sl Q I rx hs pl pu (i _ _ _ _ _ q)
theorem cutL_rp {K : PySem.W.Frag} {mg : Str → Option Value} {m : List Addr} {H : Hp} {ds : List D} {xs : List V} (r : RpL K mg m H ds xs) (lo hi : Option Int) : RpL K mg m H (cutL ds lo hi) (cutV xs lo hi) := by
  unfold cutL cutV
  rw [r.length]
  exact (r.drop _).take _
theorem cutL_whole {ds : List D} {lo hi : Option Int} (h : HT.sIx ds.length 0 lo = 0 ∧ HT.sIx ds.length ds.length hi = ds.length) : cutL ds lo hi = ds := by
  unfold cutL
  rw [h.1, h.2, List.drop_zero, Nat.sub_zero, List.take_length]
theorem sl_sliceD : SlR X (rdSl X.K X.mg sliceD) := by
  refine SlR.weak (sl_list.or (sl_tupA.or sl_str)) fun x lo hi H Q h => ?_
  obtain ⟨m, st, d, so, rd, o⟩ := h
  unfold sliceD at o
  split at o
  · rename_i l
    obtain ⟨a, rfl, em⟩ := rd
    split at o
    · rename_i lk ds es
      obtain ⟨xs, rl, sq⟩ := (so.at_ l lk _ a es em).lst_rd
      exact .inl ⟨a, xs, rfl, sq, fun p hp => o.lst so (cutL_rp rl lo hi) hp⟩
    · exact o.elim
  · rename_i ds
    obtain ⟨a, xs, rfl, ta, rl⟩ := rd
    refine .inr (.inl ⟨a, xs, rfl, ta.sq, fun hw => ?_, fun _ p hp => o.tup so (cutL_rp rl lo hi) hp⟩)
    rw [rl.length] at hw
    rw [cutL_whole hw] at o
    exact o.here so ⟨a, xs, rfl, ta, rl⟩
  · rename_i z
    cases rd
    split at o
    · rename_i hz
      exact .inr (.inr ⟨z, rfl, hz, o.here so rfl⟩)
    · exact o.elim
  · exact o.elim
end
/-- a slice's part -/
def evPart : Option (Ev D) → Ev (Option Int)
  | none => fun _ st => .ok none st
  | some a => fun env st => (a env st).bind fun x st1 => match x with
    | .int i => .ok (some i) st1
    | _ => .stuck
def evSl (f : OpSl) (a : Ev D) (lo hi : Option (Ev D)) : Ev D := fun env st => (a env st).bind fun x st1 => (evPart lo env st1).bind fun l st2 => (evPart hi env st2).bind fun h st3 => .ofOpt (f x l h st3)
section
variable {X : Cx} {W : WX} {σ : L2.St} {H : Hp} {Q : VK}
abbrev rdPt (K : PySem.W.Frag) (mg : Str → Option Value) (W : WX) (f : Ev (Option Int)) : TO := rdG K mg (rEq (Option Int)) W f
theorem po_ev0 : PO X none (rdPt X.K X.mg W (evPart none)) := ⟨fun pins s σ H Q I h => by
  obtain ⟨m, env, st, he, hs, h⟩ := h
  exact po_none.run pins s σ H Q I (h m H none (Pre.refl m) (Pers.refl H) hs rfl)⟩
theorem po_ev1 {e : Expr} {f : Ev D} (he : PE X e (rdE X.K X.mg W f)) : PO X (some e) (rdPt X.K X.mg W (evPart (some f))) := ⟨fun pins s σ H Q I h => by
  refine (po_some he).run pins s σ H Q I ?_
  obtain ⟨m, env, st, he, hs, h⟩ := h
  refine ⟨m, env, st, he, hs, (Fin.bind (R := Rp X.K X.mg) h).imp fun v H' p ⟨m1, st1, a1, pm, _, s1, r1, h1⟩ => ?_⟩
  cases a1 with
  | int i => cases r1; exact ⟨i, rfl, h1 m1 H' (some i) (Pre.refl _) (Pers.refl _) s1 rfl⟩
  | _ => exact h1.elim⟩
theorem pe_evSl {f : OpSl} {e : Expr} {a : Ev D} {lo hi : Option Expr} {fl fh : Option (Ev D)} {pos p2 : Pos} (hr : SlR X (rdSl X.K X.mg f)) (he : PE X e (rdE X.K X.mg W a)) (hl : PO X lo (rdPt X.K X.mg W (evPart fl))) (hh : PO X hi (rdPt X.K X.mg W (evPart fh))) :
    PE X (.Subscript e (.Slice lo hi none p2) pos) (rdE X.K X.mg W (evSl f a fl fh)) := by
  refine PE.weak (pe_slice hr he hl hh) fun σ H Q h => ?_
  obtain ⟨m, env, st, he, hs, h⟩ := h
  refine ⟨m, env, st, he, hs, (Fin.bind (R := Rp X.K X.mg) h).imp fun v H' p ⟨m1, st1, a1, pm, _, s1, r1, h1⟩ => ?_⟩
  refine ⟨m1, env, st1, he.mono pm p, s1, (Fin.bind (R := rEq (Option Int)) h1).imp fun v2 H2 p2 ⟨m2, st2, a2, pm2, _, s2, r2, h2⟩ => ?_⟩
  refine ⟨m2, env, st2, (he.mono pm p).mono pm2 p2, s2, (Fin.bind (R := rEq (Option Int)) h2).imp fun v3 H3 p3 ⟨m3, st3, a3, pm3, _, s3, r3, h3⟩ => ?_⟩
  cases r2; cases r3
  exact ⟨m3, st3, a1, s3, Rp.mono (pm2.trans pm3) (p2.trans p3) _ _ r1, h3.out⟩
end

/-! ### in, is -/
def occurs (i j : Str) : Bool := !(Builtin.Str.occurrences j i 0 j.length 1).isEmpty
def inSD (neg : Bool) : Op2 := fun k d st => match d with
  | .str j => match k with
    | .str i => some (.bl (if neg = true then !occurs i j else occurs i j), st)
    | _ => none
  | _ => match rdP st k, rdP st d with
    | some p, some (.list ps) => some (.bl (if neg = true then !(ps.any fun z => PyData.eqv z p) else ps.any fun z => PyData.eqv z p), st)
    | some p, some (.tuple ps) => some (.bl (if neg = true then !(ps.any fun z => PyData.eqv z p) else ps.any fun z => PyData.eqv z p), st)
    | _, _ => none
def inD (neg : Bool) : Op2 := fun k d st => match dinD neg k d st with
  | some r => some r
  | none => inSD neg k d st
section
variable {X : Cx}
theorem in_room {A : Around} {p : PyData} {ps : List PyData} (hp : p.depth ≤ dpt) (hu : A.units + 65 < cLine) : A.units + 1 + min (PyData.depthAll ps) p.depth < cLine := by
  have h1 : min (PyData.depthAll ps) p.depth ≤ p.depth := Nat.min_le_right _ _
  have : dpt = 30 := rfl
  omega
theorem op_inD' (hu : X.A.units + 65 < cLine) : OpR X (compareOp .In) (rdOp2 X.K X.mg (inD false)) := by
  intro pins s σ H x y v u Q I rx ry h
  obtain ⟨m, st, k, d, so, rk, rd, o⟩ := h
  unfold inD at o
  split at o
  · rename_i r er
    exact op_dinD (by omega) pins s σ H x y v u Q I rx ry ⟨m, st, k, d, so, rk, rd, by rw [er]; exact o⟩
  · unfold inSD at o
    split at o
    · split at o
      · cases rk; cases rd
        exact op_in_str pins s σ H _ _ v u Q I rx ry ⟨_, _, rfl, rfl, o.here so rfl⟩
      · exact o.elim
    · split at o
      · rename_i p ps e1 e2
        obtain ⟨h1, h2, h3⟩ := rdP_of so e1 rk
        obtain ⟨k1, k2, k3⟩ := rdP_of so e2 rd
        obtain ⟨as, r1⟩ := Dp.reads I p x v h1 rx
        obtain ⟨bs, r2⟩ := Dp.reads I _ y u k1 ry
        exact SeqAt.in_list_reads r2 r1 (SeqAt.canLay_of_shaped k2) (SeqAt.canLay_of_shaped h2) (in_room h3 hu) ⟨.bl _, H, I, rfl, o.here so rfl⟩
      · rename_i p ps e1 e2
        obtain ⟨h1, h2, h3⟩ := rdP_of so e1 rk
        obtain ⟨k1, k2, k3⟩ := rdP_of so e2 rd
        obtain ⟨as, r1⟩ := Dp.reads I p x v h1 rx
        obtain ⟨bs, r2⟩ := Dp.reads I _ y u k1 ry
        exact SeqAt.in_tuple_reads r2 r1 (SeqAt.canLay_of_shaped k2) (SeqAt.canLay_of_shaped h2) (in_room h3 hu) ⟨.bl _, H, I, rfl, o.here so rfl⟩
      · exact o.elim
theorem op_ninD' (hu : X.A.units + 65 < cLine) : OpR X (compareOp .NotIn) (rdOp2 X.K X.mg (inD true)) := by
  intro pins s σ H x y v u Q I rx ry h
  obtain ⟨m, st, k, d, so, rk, rd, o⟩ := h
  unfold inD at o
  split at o
  · rename_i r er
    exact op_dninD (by omega) pins s σ H x y v u Q I rx ry ⟨m, st, k, d, so, rk, rd, by rw [er]; exact o⟩
  · unfold inSD at o
    split at o
    · split at o
      · cases rk; cases rd
        exact op_notin_str pins s σ H _ _ v u Q I rx ry ⟨_, _, rfl, rfl, o.here so rfl⟩
      · exact o.elim
    · split at o
      · rename_i p ps e1 e2
        obtain ⟨h1, h2, h3⟩ := rdP_of so e1 rk
        obtain ⟨k1, k2, k3⟩ := rdP_of so e2 rd
        obtain ⟨as, r1⟩ := Dp.reads I p x v h1 rx
        obtain ⟨bs, r2⟩ := Dp.reads I _ y u k1 ry
        exact SeqAt.notIn_list_reads r2 r1 (SeqAt.canLay_of_shaped k2) (SeqAt.canLay_of_shaped h2) (in_room h3 hu) ⟨.bl _, H, I, rfl, o.here so rfl⟩
      · rename_i p ps e1 e2
        obtain ⟨h1, h2, h3⟩ := rdP_of so e1 rk
        obtain ⟨k1, k2, k3⟩ := rdP_of so e2 rd
        obtain ⟨as, r1⟩ := Dp.reads I p x v h1 rx
        obtain ⟨bs, r2⟩ := Dp.reads I _ y u k1 ry
        exact SeqAt.notIn_tuple_reads r2 r1 (SeqAt.canLay_of_shaped k2) (SeqAt.canLay_of_shaped h2) (in_room h3 hu) ⟨.bl _, H, I, rfl, o.here so rfl⟩
      · exact o.elim
end
def isNonD (d : D) : Bool := match d with
  | .non => true
  | _ => false
/-- is, with None or a truth value on the right -/
def isD (neg : Bool) : Op2 := fun d e st => match e with
  | .non => some (.bl (if neg = true then !isNonD d else isNonD d), st)
  | .bl b => match d with
    | .bl a => some (.bl (if neg = true then !decide (a = b) else decide (a = b)), st)
    | _ => none
  | _ => none
section
variable {X : Cx} {K : PySem.W.Frag} {mg : Str → Option Value} {m : List Addr} {H : Hp}
theorem isNon_rp {d : D} {v : V} (r : Rp K mg m H d v) : decide (v = .non) = isNonD d := by
  cases d with
  | non => cases r; rfl
  | bl b => cases r; rfl
  | int b => cases r; rfl
  | str b => cases r; rfl
  | tup ds => obtain ⟨a, xs, rfl, _⟩ := r; rfl
  | ref l => obtain ⟨a, rfl, _⟩ := r; rfl
  | fn x => obtain ⟨a, rfl, _⟩ := r; rfl
  | ty x => cases r; rfl
theorem op_isD : OpR X (compareOp .Is) (rdOp2 X.K X.mg (isD false)) := by
  refine OpR.weak (op_isN.or op_isBl) fun x y H Q h => ?_
  obtain ⟨m, st, d, e, so, rd, re, o⟩ := h
  unfold isD at o
  split at o
  · cases re
    exact .inl ⟨rfl, by rw [isNon_rp rd]; exact o.here so rfl⟩
  · cases re
    split at o
    · cases rd
      exact .inr ⟨_, _, rfl, rfl, o.here so rfl⟩
    · exact o.elim
  · exact o.elim
theorem op_isNotD : OpR X (compareOp .IsNot) (rdOp2 X.K X.mg (isD true)) := by
  refine OpR.weak (op_notN.or op_notBl) fun x y H Q h => ?_
  obtain ⟨m, st, d, e, so, rd, re, o⟩ := h
  unfold isD at o
  split at o
  · cases re
    exact .inl ⟨rfl, by rw [isNon_rp rd]; exact o.here so rfl⟩
  · cases re
    split at o
    · cases rd
      exact .inr ⟨_, _, rfl, rfl, o.here so rfl⟩
    · exact o.elim
  · exact o.elim
end

/-! ### truth -/
def truD : D → Store → Option (Bool × Store) := fun d st => match d with
  | .non => some (false, st)
  | .bl b => some (b, st)
  | .int i => some (i != 0, st)
  | .str s => if s.length ≤ sizeLine then some ((s.length : Int) != 0, st) else none
  | .tup _ ds => some (!ds.isEmpty, st)
  | .ref l => match st[l]? with
    | some (_, .lst ds) => some (!ds.isEmpty, st)
    | some (false, .dct []) => some (false, st)
    | some (false, .dct (p :: kvs)) => if isK p.1 = true then some (true, st) else none
    | _ => none
  | .fn _ => none
  | .ty _ => none
theorem RpL.emp {K : PySem.W.Frag} {mg : Str → Option Value} {m : List Addr} {H : Hp} {ds : List D} {xs : List V} (r : RpL K mg m H ds xs) : (!ds.isEmpty) = !xs.isEmpty := by
  cases ds with
  | nil => rw [r.nil]; rfl
  | cons d ds => obtain ⟨x, t, rfl, _⟩ := r; rfl
section
variable {X : Cx}
theorem TruR.of {r r' : V → Hp → (Bool → Hp → Prop) → Prop} (h : TruR X r) (i : ∀ x H Q, r' x H Q → r x H Q) : TruR X r' := fun pins s σ H x v Q I rx q => h pins s σ H x v Q I rx (i _ _ _ q)
theorem tru_truD : TruR X (rdTru X.K X.mg truD) := by
  intro pins s σ H x v Q I rx h
  obtain ⟨m, st, d, so, rd, o⟩ := h
  have go : ∀ {H1 : Hp} {k : Bool}, Inv X pins σ H1 s → TruV X.K x H1 k → Q k H1 → wpAny (model X.prog X.w) X.A (truthy v) (TP X pins σ Q) X.xe s := fun I1 t q => tru_ok pins s σ _ x v Q I1 rx ⟨_, t, q⟩
  have here : ∀ {b : Bool} {st' : Store}, Out X.K X.mg (rEq Bool) m H (some (b, st')) Q → StOk X.K X.mg m H st' → Q b H := fun o s => o m H _ (Pre.refl m) (Pers.refl H) s rfl
  cases d with
  | non => cases rd; exact go I rfl (here o so)
  | bl b => cases rd; exact go I rfl (here o so)
  | int b => cases rd; exact go I rfl (here o so)
  | str z =>
    cases rd
    simp only [truD] at o
    split at o
    · rename_i hz
      exact go I ⟨hz, rfl⟩ (here o so)
    · exact o.elim
  | tup ds =>
    obtain ⟨a, xs, rfl, ta, rl⟩ := rd
    exact go I (.inr (.inl ⟨xs, ta.sq, rl.emp⟩)) (here o so)
  | ref l =>
    obtain ⟨a, rfl, em⟩ := rd
    simp only [truD] at o
    split at o
    · rename_i lk ds es
      obtain ⟨xs, rl, sq⟩ := (so.at_ l lk _ a es em).lst_rd
      exact go I (.inl ⟨xs, sq, rl.emp⟩) (here o so)
    · rename_i es
      have em0 := so.at_ l _ _ a es em
      rcases em0.emp with eH | eH
      · exact go I (.inr (.inr ⟨[], eH, rfl⟩)) (here o so)
      · obtain ⟨s1, p1⟩ := so.turn es em eH (fun z => z) (.inl rfl)
        exact go (Inv.asK I eH) (.inr (.inr ⟨[], upd_same, rfl⟩)) (o m _ _ (Pre.refl m) p1 s1 rfl)
    · rename_i p kvs es
      split at o
      · rename_i hk
        rcases so.at_ l _ _ a es em with ⟨kv', r, c⟩ | ⟨kv', r, c⟩
        · refine go I (.inr (.inr ⟨kv', c, ?_⟩)) (here o so)
          cases r
          rfl
        · exfalso
          cases r with
          | cons e1 _ => rw [e1.1] at hk; cases hk
      · exact o.elim
    · exact o.elim
  | fn x => exact o.elim
  | ty x => exact o.elim
/-- an expression's value as a test -/
def evT (f : Ev D) : Ev Bool := fun env st => (f env st).bind fun x st1 => .ofOpt (truD x st1)
theorem pt_ev {a : Expr} {f : Ev D} {W : WX} (ha : PE X a (rdE X.K X.mg W f)) (he : ∀ whole, isTrue a X.env whole = (do let v ← whole; standAt a.pos; holding [v] (truthy v))) : PT X a (rdT X.K X.mg W (evT f)) := by
  refine ⟨fun pins s σ H Q I h => ?_⟩
  refine isTrue_plain ?_ (he _)
  obtain ⟨m, env, st, hv, hs, h⟩ := h
  refine thn (ha.run pins s σ H _ I ⟨m, env, st, hv, hs, Fin.bind (R := Rp X.K X.mg) h⟩) fun v s1 ⟨x, H1, I1, r1, m1, st1, a1, pm, _, so1, rr, h1⟩ => ?_
  exact tru_truD pins s1 σ H1 x v Q I1 r1 ⟨m1, st1, a1, so1, rr, h1.out⟩
end
end PP
set_option Elab.async false
set_option linter.all false
set_option maxRecDepth 100000
set_option maxHeartbeats 2000000
/-! PP5: calls of built-in functions and types. -/
namespace PP
open PySem PySem.Spec PyProof.Rows L2
variable [Tbl]

section
variable {K : PySem.W.Frag} {mg : Str → Option Value} {m : List Addr} {H : Hp} {st : Store} {Q : VK}
theorem RpL.one {d : D} {vs : List V} (r : RpL K mg m H [d] vs) : ∃ v, vs = [v] ∧ Rp K mg m H d v := by
  obtain ⟨v, t, rfl, h, rt⟩ := r
  cases (show t = [] from rt)
  exact ⟨v, rfl, h⟩
theorem RpL.two {d e : D} {vs : List V} (r : RpL K mg m H [d, e] vs) : ∃ v w, vs = [v, w] ∧ Rp K mg m H d v ∧ Rp K mg m H e w := by
  obtain ⟨v, t, rfl, h, rt⟩ := r
  obtain ⟨w, rfl, h2⟩ := rt.one
  exact ⟨v, w, rfl, h, h2⟩
theorem RpL.ints : ∀ {ns : List Int} {vs : List V}, RpL K mg m H (ns.map D.int) vs → vs = ns.map V.int
  | [], _, h => RpL.nil h
  | n :: ns, _, ⟨x, r, e, h1, h2⟩ => by subst e; rw [show x = V.int n from h1, RpL.ints h2]; rfl
theorem RpL.bls : ∀ {ns : List Bool} {vs : List V}, RpL K mg m H (ns.map D.bl) vs → vs = ns.map V.bl
  | [], _, h => RpL.nil h
  | n :: ns, _, ⟨x, r, e, h1, h2⟩ => by subst e; rw [show x = V.bl n from h1, RpL.bls h2]; rfl
theorem RpL.strs : ∀ {ns : List Str} {vs : List V}, RpL K mg m H (ns.map D.str) vs → vs = ns.map V.str
  | [], _, h => RpL.nil h
  | n :: ns, _, ⟨x, r, e, h1, h2⟩ => by subst e; rw [show x = V.str n from h1, RpL.strs h2]; rfl
end
/-- a list of ints, of truth values, of texts -/
def intsD : List D → Option (List Int)
  | [] => some []
  | .int i :: ds => (intsD ds).map (i :: ·)
  | _ => none
def blsD : List D → Option (List Bool)
  | [] => some []
  | .bl i :: ds => (blsD ds).map (i :: ·)
  | _ => none
def strsD : List D → Option (List Str)
  | [] => some []
  | .str i :: ds => (strsD ds).map (i :: ·)
  | _ => none
theorem intsD_of : ∀ {ds : List D} {ns : List Int}, intsD ds = some ns → ds = ns.map D.int
  | [], _, h => by cases h; rfl
  | d :: ds, ns, h => by
    cases d with
    | int i =>
      obtain ⟨r, e, rfl⟩ := Option.map_eq_some_iff.mp (show (intsD ds).map (i :: ·) = some ns from h)
      rw [intsD_of e]; rfl
    | _ => cases h
theorem blsD_of : ∀ {ds : List D} {ns : List Bool}, blsD ds = some ns → ds = ns.map D.bl
  | [], _, h => by cases h; rfl
  | d :: ds, ns, h => by
    cases d with
    | bl i =>
      obtain ⟨r, e, rfl⟩ := Option.map_eq_some_iff.mp (show (blsD ds).map (i :: ·) = some ns from h)
      rw [blsD_of e]; rfl
    | _ => cases h
theorem strsD_of : ∀ {ds : List D} {ns : List Str}, strsD ds = some ns → ds = ns.map D.str
  | [], _, h => by cases h; rfl
  | d :: ds, ns, h => by
    cases d with
    | str i =>
      obtain ⟨r, e, rfl⟩ := Option.map_eq_some_iff.mp (show (strsD ds).map (i :: ·) = some ns from h)
      rw [strsD_of e]; rfl
    | _ => cases h
theorem intsD_map : ∀ ns : List Int, intsD (ns.map D.int) = some ns
  | [] => rfl
  | n :: ns => by show (intsD (ns.map D.int)).map (n :: ·) = _; rw [intsD_map ns]; rfl
theorem blsD_map : ∀ ns : List Bool, blsD (ns.map D.bl) = some ns
  | [] => rfl
  | n :: ns => by show (blsD (ns.map D.bl)).map (n :: ·) = _; rw [blsD_map ns]; rfl
theorem strsD_map : ∀ ns : List Str, strsD (ns.map D.str) = some ns
  | [] => rfl
  | n :: ns => by show (strsD (ns.map D.str)).map (n :: ·) = _; rw [strsD_map ns]; rfl
/-- the items of a list or tuple -/
def seqD (st : Store) : D → Option (List D)
  | .tup _ ds => some ds
  | .ref l => match st[l]? with
    | some (_, .lst ds) => some ds
    | _ => none
  | _ => none
/-- the entries of a dict of simple keys; of tuple keys (an unlocked empty one is of both kinds) -/
def dctK (st : Store) : D → Option (List (D × D))
  | .ref l => match st[l]? with
    | some (false, .dct []) => some []
    | some (_, .dct (p :: kvs)) => if isK p.1 = true then some (p :: kvs) else none
    | _ => none
  | _ => none
def dctT (st : Store) : D → Option (List (D × D))
  | .ref l => match st[l]? with
    | some (false, .dct []) => some []
    | some (_, .dct (p :: kvs)) => if isT p.1 = true then some (p :: kvs) else none
    | _ => none
  | _ => none
section
variable {K : PySem.W.Frag} {mg : Str → Option Value} {m : List Addr} {H : Hp} {st : Store} {Q : VK}
theorem seqD_of (so : StOk K mg m H st) {d : D} {v : V} {ds : List D} (h : seqD st d = some ds) (r : Rp K mg m H d v) : ∃ p xs, v = .ref p ∧ RpL K mg m H ds xs ∧ (SqL K H p xs ∨ SqT K H p xs) := by
  cases d with
  | tup k es =>
    cases h
    obtain ⟨a, xs, rfl, ta, rl⟩ := r
    exact ⟨a, xs, rfl, rl, .inr ta.sq⟩
  | ref l =>
    obtain ⟨a, rfl, em⟩ := r
    simp only [seqD] at h
    split at h
    · rename_i lk es e
      cases h
      obtain ⟨xs, rl, sq⟩ := (so.at_ l lk _ a e em).lst_rd
      exact ⟨a, xs, rfl, rl, .inl sq⟩
    · cases h
  | _ => cases h
end

/-! ### len, abs, int, bool, str -/
def lenD : OpL := fun ds st => match ds with
  | [.str z] => if z.length ≤ sizeLine then some (.int z.length, st) else none
  | [d] => match seqD st d with
    | some xs => some (.int xs.length, st)
    | none => match dctK st d with
      | some kvs => some (.int kvs.length, st)
      | none => none
  | _ => none
def absD : OpL := fun ds st => match ds with
  | [.int i] => some (.int (if i < 0 then -i else i), st)
  | _ => none
def intD : OpL := fun ds st => match ds with
  | [.int i] => some (.int i, st)
  | [.bl b] => some (.int (if b then 1 else 0), st)
  | _ => none
def boolD : OpL := fun ds st => match ds with
  | [.int i] => some (.bl (i != 0), st)
  | [.bl b] => some (.bl b, st)
  | _ => none
def strD : OpL := fun ds st => match ds with
  | [.int i] => if i.natAbs.log2 < 1920 then some (.str (toString i), st) else none
  | _ => none
section
variable {X : Cx}
theorem dctK_at {pins : List (Addr × Obj)} {σ : L2.St} {m : List Addr} {H : Hp} {s : Shared} {st : Store} (I : Inv X pins σ H s) (so : StOk X.K X.mg m H st) {d : D} {x : V} {kvs : List (D × D)} (rd : Rp X.K X.mg m H d x) (h : dctK st d = some kvs) :
    ∃ a kv' H1, x = .ref a ∧ Inv X pins σ H1 s ∧ StOk X.K X.mg m H1 st ∧ Pers H H1 ∧ Rd H1 a (.dK kv') ∧ Kvs X.K X.mg m H1 fK kvs kv' := by
  cases d with
  | ref l =>
    obtain ⟨a, rfl, em⟩ := rd
    simp only [dctK] at h
    split at h
    · rename_i e
      cases h
      rcases (so.at_ l _ _ a e em).emp with eH | eH
      · exact ⟨a, [], H, rfl, I, so, Pers.refl H, .inl eH, .nil⟩
      · obtain ⟨s1, p1⟩ := so.turn e em eH (fun z => z) (.inl rfl)
        exact ⟨a, [], _, rfl, Inv.asK I eH, s1, p1, .inl upd_same, .nil⟩
    · rename_i lk p ks e
      split at h
      · rename_i hk
        cases h
        rcases so.at_ l _ _ a e em with ⟨kv', r, c⟩ | ⟨kv', r, c⟩
        · exact ⟨a, kv', H, rfl, I, so, Pers.refl H, c.rd, r⟩
        · exfalso
          cases r with
          | cons e1 _ => rw [e1.1] at hk; cases hk
      · cases h
    · cases h
  | _ => cases h
theorem dctT_at {pins : List (Addr × Obj)} {σ : L2.St} {m : List Addr} {H : Hp} {s : Shared} {st : Store} (I : Inv X pins σ H s) (so : StOk X.K X.mg m H st) {d : D} {x : V} {kvs : List (D × D)} (rd : Rp X.K X.mg m H d x) (h : dctT st d = some kvs) :
    ∃ a kv' H1, x = .ref a ∧ Inv X pins σ H1 s ∧ StOk X.K X.mg m H1 st ∧ Pers H H1 ∧ Rd H1 a (.dT kv') ∧ Kvs X.K X.mg m H1 fT kvs kv' := by
  cases d with
  | ref l =>
    obtain ⟨a, rfl, em⟩ := rd
    simp only [dctT] at h
    split at h
    · rename_i e
      cases h
      rcases (so.at_ l _ _ a e em).emp with eH | eH
      · obtain ⟨s1, p1⟩ := so.turn e em eH (fun z => z) (.inr rfl)
        exact ⟨a, [], _, rfl, Inv.asT I eH, s1, p1, .inl upd_same, .nil⟩
      · exact ⟨a, [], H, rfl, I, so, Pers.refl H, .inl eH, .nil⟩
    · rename_i lk p ks e
      split at h
      · rename_i hk
        cases h
        rcases so.at_ l _ _ a e em with ⟨kv', r, c⟩ | ⟨kv', r, c⟩
        · exfalso
          cases r with
          | cons e1 _ => rw [e1.1, isT_fK] at hk; cases hk
        · exact ⟨a, kv', H, rfl, I, so, Pers.refl H, c.rd, r⟩
      · cases h
    · cases h
  | _ => cases h
theorem cr_lenD : CallR X (.builtin "len") (rdOpL X.K X.mg lenD) := by
  intro pins s σ H xs us Q I r h
  obtain ⟨m, st, ds, so, rl, o⟩ := h
  unfold lenD at o
  split at o
  · rename_i z
    obtain ⟨v, rfl, rv⟩ := rl.one
    split at o
    · rename_i hz
      cases rv
      exact call_len_str pins s σ H _ us Q I r ⟨z, rfl, hz, o.here so rfl⟩
    · exact o.elim
  · rename_i d _
    obtain ⟨v, rfl, rv⟩ := rl.one
    split at o
    · rename_i ys e
      obtain ⟨p, zs, rfl, rz, sq⟩ := seqD_of so e rv
      exact call_len_seq pins s σ H _ us Q I r ⟨p, zs, rfl, sq, by rw [rz.length]; exact o.here so rfl⟩
    · split at o
      · rename_i kvs e
        obtain ⟨a, kv', H1, rfl, I1, s1, p1, hd, kr⟩ := dctK_at I so rv e
        obtain ⟨u, rfl, ru⟩ := vals1 r
        cases ru
        refine d_len I1 hd fun t s' I' => ⟨.int kv'.length, H1, I', ⟨t, rfl⟩, ?_⟩
        rw [← kr.length]
        exact o m H1 _ (Pre.refl m) p1 s1 rfl
      · exact o.elim
  · exact o.elim
theorem cr_absD : CallR X (.builtin "abs") (rdOpL X.K X.mg absD) := CallR.weak call_abs fun xs H Q h => by
  obtain ⟨m, st, ds, so, rl, o⟩ := h
  unfold absD at o
  split at o
  · obtain ⟨v, rfl, rv⟩ := rl.one
    cases rv
    exact ⟨_, rfl, o.here so rfl⟩
  · exact o.elim
theorem cr_intD : CallR X (.type "int") (rdOpL X.K X.mg intD) := CallR.weak call_int1 fun xs H Q h => by
  obtain ⟨m, st, ds, so, rl, o⟩ := h
  unfold intD at o
  split at o
  · obtain ⟨v, rfl, rv⟩ := rl.one
    cases rv
    exact .inl ⟨_, rfl, o.here so rfl⟩
  · obtain ⟨v, rfl, rv⟩ := rl.one
    cases rv
    exact .inr ⟨_, rfl, o.here so rfl⟩
  · exact o.elim
theorem cr_boolD : CallR X (.type "bool") (rdOpL X.K X.mg boolD) := CallR.weak call_bool1 fun xs H Q h => by
  obtain ⟨m, st, ds, so, rl, o⟩ := h
  unfold boolD at o
  split at o
  · obtain ⟨v, rfl, rv⟩ := rl.one
    cases rv
    exact .inl ⟨_, rfl, o.here so rfl⟩
  · obtain ⟨v, rfl, rv⟩ := rl.one
    cases rv
    exact .inr ⟨_, rfl, o.here so rfl⟩
  · exact o.elim
theorem cr_strD : CallR X (.type "str") (rdOpL X.K X.mg strD) := CallR.weak call_str_int fun xs H Q h => by
  obtain ⟨m, st, ds, so, rl, o⟩ := h
  unfold strD at o
  split at o
  · obtain ⟨v, rfl, rv⟩ := rl.one
    cases rv
    split at o
    · rename_i hl
      exact ⟨_, rfl, hl, o.here so rfl⟩
    · exact o.elim
  · exact o.elim
end

/-! ### list(..), tuple(..), dict(..) -/
def newL (ds : List D) (st : Store) : Option (D × Store) := some (.ref st.length, st ++ [(false, .lst ds)])
def newDc (kvs : List (D × D)) (st : Store) : Option (D × Store) := some (.ref st.length, st ++ [(false, .dct kvs)])
def listD : OpL := fun ds st => match ds with
  | [d] => match seqD st d with
    | some xs => newL xs st
    | none => match dctK st d with
      | some kvs => newL (kvs.map (·.1)) st
      | none => match dctT st d with
        | some kvs => newL (kvs.map (·.1)) st
        | none => none
  | _ => none
def tupleD : OpL := fun ds st => match ds with
  | [.tup k xs] => some (.tup k xs, st)
  | [.ref l] => match st[l]? with
    | some (_, .lst xs) => some (.tup false xs, st)
    | _ => none
  | _ => none
/-- pairs that are put one after another -/
def pairsD : List D → Option (List (D × D))
  | [] => some []
  | .tup _ [k, v] :: ds => if isK k = true then (pairsD ds).map ((k, v) :: ·) else none
  | _ => none
def putAll (kvs : List (D × D)) : List (D × D) → List (D × D)
  | [] => kvs
  | p :: ps => putAll (dput kvs p.1 p.2) ps
def dictD : OpL := fun ds st => match ds with
  | [.ref l] => match st[l]? with
    | some (_, .lst xs) => match pairsD xs with
      | some ps => newDc (putAll [] ps) st
      | none => none
    | _ => match dctK st (.ref l) with
      | some kvs => newDc kvs st
      | none => none
  | _ => none
section
variable {X : Cx}
theorem Kvs.keysK {K : PySem.W.Frag} {mg : Str → Option Value} {m : List Addr} {H : Hp} : ∀ {kvs : List (D × D)} {kv' : List (Key × V)}, Kvs K mg m H fK kvs kv' → RpL K mg m H (kvs.map (·.1)) (kv'.map fun q => kV q.1)
  | _, _, .nil => rfl
  | p :: kvs, q :: kv', .cons ⟨e, r⟩ t => ⟨_, _, rfl, by show Rp K mg m H p.1 _; rw [e]; exact Rp_kD.mpr rfl, Kvs.keysK t⟩
theorem RpL_kV {K : PySem.W.Frag} {mg : Str → Option Value} {m : List Addr} {H : Hp} : ∀ ks : List Key, RpL K mg m H (ks.map kD) (ks.map kV)
  | [] => rfl
  | k :: ks => ⟨_, _, rfl, Rp_kD.mpr rfl, RpL_kV ks⟩
theorem Kvs.keysT {K : PySem.W.Frag} {mg : Str → Option Value} {m : List Addr} {H : Hp} : ∀ {kvs : List (D × D)} {kv' : List (List Key × V)} {bs : List Addr}, Kvs K mg m H fT kvs kv' → IsKeys H kv' bs → RpL K mg m H (kvs.map (·.1)) (bs.map V.ref)
  | _, _, _, .nil, .nil => rfl
  | p :: kvs, q :: kv', b :: bs, .cons ⟨e, r⟩ t, .cons hb tb => ⟨_, _, rfl, by show Rp K mg m H p.1 _; rw [e]; exact ⟨b, _, rfl, hb, RpL_kV _⟩, Kvs.keysT t tb⟩
/-- a new dict -/
theorem Out.dctK {K : PySem.W.Frag} {mg : Str → Option Value} {m : List Addr} {H : Hp} {st : Store} {Q : VK} {kvs : List (D × D)} {kv' : List (Key × V)} (h : Out K mg (Rp K mg) m H (some (.ref st.length, st ++ [(false, .dct kvs)])) Q) (s : StOk K mg m H st) (r : Kvs K mg m H fK kvs kv') {p : Addr} (hp : H p = none) : Q (.ref p) (upd H p (.dK kv')) :=
  h (m ++ [p]) _ _ (Pre.snoc m p) (Pers.new hp) (s.snoc hp (.inl ⟨kv', r.mono (Pre.snoc m p) (Pers.new hp), upd_same⟩)) ⟨p, rfl, Pre.last s.len⟩
theorem cr_listD : X.calm = true → CallR X (.type "list") (rdOpL X.K X.mg listD) := by
  intro hc pins s σ H xs us Q I r h
  obtain ⟨m, st, ds, so, rl, o⟩ := h
  unfold listD at o
  split at o
  · rename_i d
    obtain ⟨v, rfl, rv⟩ := rl.one
    split at o
    · rename_i ys e
      obtain ⟨p, zs, rfl, rz, sq⟩ := seqD_of so e rv
      exact call_list_of pins s σ H _ us Q I r ⟨p, zs, rfl, sq, fun l hl => o.lst so rz hl⟩
    · split at o
      · rename_i kvs e
        obtain ⟨a, kv', H1, rfl, I1, s1, p1, hd, kr⟩ := dctK_at I so rv e
        exact call_listD hc pins s σ H1 _ us Q I1 r ⟨a, kv', rfl, hd, fun p hp => (o.mono (Pre.refl m) p1).lst s1 kr.keysK hp⟩
      · split at o
        · rename_i kvs e
          obtain ⟨a, kv', H1, rfl, I1, s1, p1, hd, kr⟩ := dctT_at I so rv e
          exact call_list_dT hc pins s σ H1 _ us Q I1 r ⟨a, kv', rfl, hd, fun p bs hp hb => (o.mono (Pre.refl m) p1).lst s1 (kr.keysT hb) hp⟩
        · exact o.elim
  · exact o.elim
theorem cr_tupleD : CallR X (.type "tuple") (rdOpL X.K X.mg tupleD) := CallR.weak call_tuple_of fun xs H Q h => by
  obtain ⟨m, st, ds, so, rl, o⟩ := h
  unfold tupleD at o
  split at o
  · obtain ⟨v, rfl, a, zs, rfl, ta, rz⟩ := rl.one
    exact ⟨a, zs, rfl, .inr ⟨ta.sq, o.here so ⟨a, zs, rfl, ta, rz⟩⟩⟩
  · obtain ⟨v, rfl, a, rfl, em⟩ := rl.one
    split at o
    · rename_i lk ys e
      obtain ⟨zs, rz, sq⟩ := (so.at_ _ lk _ a e em).lst_rd
      exact ⟨a, zs, rfl, .inl ⟨sq, fun l hl => o.tup so rz hl⟩⟩
    · exact o.elim
  · exact o.elim
theorem pairsD_of {K : PySem.W.Frag} {mg : Str → Option Value} {m : List Addr} {H : Hp} : ∀ {ds : List D} {ps : List (D × D)} {vs : List V}, pairsD ds = some ps → RpL K mg m H ds vs →
    ∃ (as : List Addr) (kvs : List (Key × V)), vs = as.map V.ref ∧ Paired (fun p kv => SqT K H p [kV kv.1, kv.2]) as kvs ∧ Kvs K mg m H fK ps kvs
  | [], ps, vs, h, r => by
    cases h
    rw [r.nil]
    exact ⟨[], [], rfl, .nil, .nil⟩
  | d :: ds, ps, vs, h, r => by
    unfold pairsD at h
    split at h
    · rename_i e
      cases e
    · rename_i b k v ds' e
      cases e
      split at h
      · rename_i hk
        obtain ⟨ps', e1, rfl⟩ := Option.map_eq_some_iff.mp h
        obtain ⟨x, xs, rfl, ⟨a, ws, rfl, ta, rw'⟩, r2⟩ := r
        obtain ⟨as, kvs, rfl, h1, h2⟩ := pairsD_of e1 r2
        obtain ⟨k', rfl⟩ := isK_of hk
        obtain ⟨y, z, rfl, ry, rz⟩ := rw'.two
        have ey := Rp_kD.mp ry
        subst ey
        exact ⟨a :: as, (k', z) :: kvs, rfl, .cons ta.sq h1, .cons ⟨rfl, rz⟩ h2⟩
      · cases h
    · cases h
theorem putAll_rp {K : PySem.W.Frag} {mg : Str → Option Value} {m : List Addr} {H : Hp} : ∀ {ps : List (D × D)} {qs : List (Key × V)}, Kvs K mg m H fK ps qs → ∀ {kvs : List (D × D)} {kv' : List (Key × V)}, Kvs K mg m H fK kvs kv' → Kvs K mg m H fK (putAll kvs ps) (mergeK kv' qs)
  | _, _, .nil, _, _, h => h
  | p :: ps, q :: qs, .cons ⟨e, r⟩ t, kvs, kv', h => by
    unfold putAll
    rw [e]
    exact putAll_rp t (Kvs.put keq_fK q.1 r h)
theorem cr_dictD (hc : X.calm = true) : CallR X (.type "dict") (rdOpL X.K X.mg dictD) := by
  intro pins s σ H xs us Q I r h
  obtain ⟨m, st, ds, so, rl, o⟩ := h
  unfold dictD at o
  split at o
  · rename_i l
    obtain ⟨v, rfl, rv⟩ := rl.one
    split at o
    · rename_i lk ys e
      obtain ⟨a, rfl, em⟩ := rv
      split at o
      · rename_i ps ep
        rcases so.at_ _ lk _ a e em with ⟨zs, rz, c⟩
        obtain ⟨as, kvs, rfl, h1, h2⟩ := pairsD_of ep rz
        exact call_dictP hc pins s σ H _ us Q I r ⟨a, as, kvs, rfl, .inl c.rd, h1, fun p hp => o.dctK so (putAll_rp h2 .nil) hp⟩
      · exact o.elim
    · split at o
      · rename_i kvs e
        obtain ⟨a, kv', H1, rfl, I1, s1, p1, hd, kr⟩ := dctK_at I so rv e
        exact call_dictD pins s σ H1 _ us Q I1 r ⟨a, kv', rfl, hd, fun p hp => (o.mono (Pre.refl m) p1).dctK s1 kr hp⟩
      · exact o.elim
  · exact o.elim
end
end PP
set_option Elab.async false
set_option linter.all false
set_option maxRecDepth 100000
set_option maxHeartbeats 2000000
/-! PP6: all, any, sum, min, max, gcd, isinstance, sorted, repr. -/
namespace PP
open PySem PySem.Spec PyProof.Rows L2
variable [Tbl]

/-- the items of a list -/
def lstD (st : Store) : D → Option (List D)
  | .ref l => match st[l]? with
    | some (_, .lst ds) => some ds
    | _ => none
  | _ => none
theorem lstD_of {K : PySem.W.Frag} {mg : Str → Option Value} {m : List Addr} {H : Hp} {st : Store} (so : StOk K mg m H st) {d : D} {v : V} {ds : List D} (h : lstD st d = some ds) (r : Rp K mg m H d v) : ∃ p xs, v = .ref p ∧ RpL K mg m H ds xs ∧ SqL K H p xs := by
  cases d with
  | ref l =>
    obtain ⟨a, rfl, em⟩ := r
    simp only [lstD] at h
    split at h
    · rename_i lk es e
      cases h
      obtain ⟨xs, rl, sq⟩ := (so.at_ l lk _ a e em).lst_rd
      exact ⟨a, xs, rfl, rl, sq⟩
    · cases h
  | _ => cases h
def allD : OpL := fun ds st => match ds with
  | [d] => match (lstD st d).bind blsD with
    | some bs => some (.bl (bs.all id), st)
    | none => none
  | _ => none
def anyD : OpL := fun ds st => match ds with
  | [d] => match (lstD st d).bind blsD with
    | some bs => some (.bl (bs.any id), st)
    | none => none
  | _ => none
def sumD : OpL := fun ds st => match ds with
  | [d] => match (lstD st d).bind intsD with
    | some bs => some (.int bs.sum, st)
    | none => none
  | _ => none
/-- the least, the greatest of some ints -/
def leastI : List Int → Option Int
  | [] => none
  | n :: ns => some (ns.foldl (fun a b => if b < a then b else a) n)
def mostI : List Int → Option Int
  | [] => none
  | n :: ns => some (ns.foldl (fun a b => if a < b then b else a) n)
theorem least_fold : ∀ (ns : List Int) (n : Int), (ns.foldl (fun a b => if b < a then b else a) n ∈ n :: ns) ∧ ∀ y ∈ n :: ns, ns.foldl (fun a b => if b < a then b else a) n ≤ y
  | [], n => ⟨List.mem_cons_self, fun y hy => by rw [List.mem_singleton.mp hy]; exact Int.le_refl _⟩
  | b :: ns, n => by
    obtain ⟨h1, h2⟩ := least_fold ns (if b < n then b else n)
    rw [List.foldl_cons]
    have e : (if b < n then b else n) ≤ b ∧ (if b < n then b else n) ≤ n ∧ ((if b < n then b else n) = b ∨ (if b < n then b else n) = n) := by split <;> omega
    obtain ⟨e1, e2, e3⟩ := e
    refine ⟨?_, fun y hy => ?_⟩
    · rcases List.mem_cons.mp h1 with z | z
      · rw [z]
        rcases e3 with e3 | e3 <;> rw [e3] <;> simp
      · exact List.mem_cons_of_mem _ (List.mem_cons_of_mem _ z)
    · have h0 := h2 _ List.mem_cons_self
      rcases List.mem_cons.mp hy with rfl | hy
      · omega
      · rcases List.mem_cons.mp hy with rfl | hy
        · omega
        · exact h2 y (List.mem_cons_of_mem _ hy)
theorem most_fold : ∀ (ns : List Int) (n : Int), (ns.foldl (fun a b => if a < b then b else a) n ∈ n :: ns) ∧ ∀ y ∈ n :: ns, y ≤ ns.foldl (fun a b => if a < b then b else a) n
  | [], n => ⟨List.mem_cons_self, fun y hy => by rw [List.mem_singleton.mp hy]; exact Int.le_refl _⟩
  | b :: ns, n => by
    obtain ⟨h1, h2⟩ := most_fold ns (if n < b then b else n)
    rw [List.foldl_cons]
    have e : b ≤ (if n < b then b else n) ∧ n ≤ (if n < b then b else n) ∧ ((if n < b then b else n) = b ∨ (if n < b then b else n) = n) := by split <;> omega
    obtain ⟨e1, e2, e3⟩ := e
    refine ⟨?_, fun y hy => ?_⟩
    · rcases List.mem_cons.mp h1 with z | z
      · rw [z]
        rcases e3 with e3 | e3 <;> rw [e3] <;> simp
      · exact List.mem_cons_of_mem _ (List.mem_cons_of_mem _ z)
    · have h0 := h2 _ List.mem_cons_self
      rcases List.mem_cons.mp hy with rfl | hy
      · omega
      · rcases List.mem_cons.mp hy with rfl | hy
        · omega
        · exact h2 y (List.mem_cons_of_mem _ hy)
theorem leastI_ok {ns : List Int} {n : Int} (h : leastI ns = some n) : n ∈ ns ∧ ∀ y ∈ ns, n ≤ y := by
  cases ns with
  | nil => cases h
  | cons b r => cases h; exact least_fold r b
theorem mostI_ok {ns : List Int} {n : Int} (h : mostI ns = some n) : n ∈ ns ∧ ∀ y ∈ ns, y ≤ n := by
  cases ns with
  | nil => cases h
  | cons b r => cases h; exact most_fold r b
/-- the keys of an unlocked dict of ints -/
def keysI (st : Store) : D → Option (List Int)
  | .ref l => match st[l]? with
    | some (false, .dct (p :: kvs)) => intsD ((p :: kvs).map (·.1))
    | _ => none
  | _ => none
def minD' : OpL := fun ds st => match ds with
  | [.int i, .int j] => some (.int (if j < i then j else i), st)
  | [d] => match (lstD st d).bind intsD with
    | some ns => (leastI ns).map fun n => (.int n, st)
    | none => match keysI st d with
      | some ns => (leastI ns).map fun n => (.int n, st)
      | none => none
  | _ => none
def maxD' : OpL := fun ds st => match ds with
  | [.int i, .int j] => some (.int (if j > i then j else i), st)
  | [d] => match (lstD st d).bind intsD with
    | some ns => (mostI ns).map fun n => (.int n, st)
    | none => none
  | _ => none
def gcdD : OpL := fun ds st => match ds with
  | [.int a, .int b] => some (.int ((Nat.gcd a.natAbs b.natAbs : Nat) : Int), st)
  | _ => none
theorem Kvs.ints {K : PySem.W.Frag} {mg : Str → Option Value} {m : List Addr} {H : Hp} : ∀ {kvs : List (D × D)} {kv' : List (Key × V)} {ns : List Int}, Kvs K mg m H fK kvs kv' → kvs.map (·.1) = ns.map D.int → kv'.map (·.1) = ns.map Sum.inl
  | _, _, [], .nil, _ => rfl
  | _, _, n :: ns, .nil, h => by cases h
  | p :: kvs, q :: kv', [], .cons _ _, h => by cases h
  | p :: kvs, q :: kv', n :: ns, .cons ⟨e, r⟩ t, h => by
    have h1 : p.1 = D.int n := (List.cons.inj h).1
    have h2 := (List.cons.inj h).2
    rw [e] at h1
    have h3 : q.1 = Sum.inl n := kD_inj h1
    rw [List.map_cons, List.map_cons, h3, Kvs.ints t h2]
section
variable {X : Cx}
theorem cr_allD (hc : X.calm = true) : CallR X (.builtin "all") (rdOpL X.K X.mg allD) := CallR.weak (cr_all hc) fun xs H Q h => by
  obtain ⟨m, st, ds, so, rl, o⟩ := h
  unfold allD at o
  split at o
  · obtain ⟨v, rfl, rv⟩ := rl.one
    split at o
    · rename_i bs e
      obtain ⟨es, e1, e2⟩ := Option.bind_eq_some_iff.mp e
      obtain ⟨p, ys, rfl, ry, sq⟩ := lstD_of so e1 rv
      have e3 := blsD_of e2
      subst e3
      have e4 := ry.bls
      subst e4
      exact ⟨p, bs, rfl, sq, o.here so rfl⟩
    · exact o.elim
  · exact o.elim
theorem cr_anyD (hc : X.calm = true) : CallR X (.builtin "any") (rdOpL X.K X.mg anyD) := CallR.weak (cr_any hc) fun xs H Q h => by
  obtain ⟨m, st, ds, so, rl, o⟩ := h
  unfold anyD at o
  split at o
  · obtain ⟨v, rfl, rv⟩ := rl.one
    split at o
    · rename_i bs e
      obtain ⟨es, e1, e2⟩ := Option.bind_eq_some_iff.mp e
      obtain ⟨p, ys, rfl, ry, sq⟩ := lstD_of so e1 rv
      have e3 := blsD_of e2
      subst e3
      have e4 := ry.bls
      subst e4
      exact ⟨p, bs, rfl, sq, o.here so rfl⟩
    · exact o.elim
  · exact o.elim
theorem cr_sumD (hc : X.calm = true) : CallR X (.builtin "sum") (rdOpL X.K X.mg sumD) := CallR.weak (cr_sum hc) fun xs H Q h => by
  obtain ⟨m, st, ds, so, rl, o⟩ := h
  unfold sumD at o
  split at o
  · obtain ⟨v, rfl, rv⟩ := rl.one
    split at o
    · rename_i bs e
      obtain ⟨es, e1, e2⟩ := Option.bind_eq_some_iff.mp e
      obtain ⟨p, ys, rfl, ry, sq⟩ := lstD_of so e1 rv
      have e3 := intsD_of e2
      subst e3
      have e4 := ry.ints
      subst e4
      exact ⟨p, bs, rfl, sq, o.here so rfl⟩
    · exact o.elim
  · exact o.elim
theorem cr_minD (hc : X.calm = true) : CallR X (.builtin "min") (rdOpL X.K X.mg minD') := CallR.weak ((call_min2 hc).or ((cr_min hc).or (cr_minK hc))) fun xs H Q h => by
  obtain ⟨m, st, ds, so, rl, o⟩ := h
  unfold minD' at o
  split at o
  · obtain ⟨v, w, rfl, rv, rw'⟩ := rl.two
    cases rv; cases rw'
    exact .inl ⟨_, _, rfl, o.here so rfl⟩
  · rename_i dl d
    obtain ⟨v, rfl, rv⟩ := rl.one
    split at o
    · rename_i bs e
      obtain ⟨es, e1, e2⟩ := Option.bind_eq_some_iff.mp e
      obtain ⟨p, ys, rfl, ry, sq⟩ := lstD_of so e1 rv
      have e3 := intsD_of e2
      subst e3
      have e4 := ry.ints
      subst e4
      cases el : leastI bs with
      | none => rw [el] at o; exact o.elim
      | some n =>
        rw [el] at o
        obtain ⟨h1, h2⟩ := leastI_ok el
        refine .inr (.inl ⟨p, bs, rfl, sq, List.length_pos_of_mem h1, fun k k1 k2 => ?_⟩)
        have ek : k = n := Int.le_antisymm (k2 n h1) (h2 k k1)
        subst ek
        exact o.here so rfl
    · split at o
      · rename_i bs e
        cases d with
        | ref l =>
          simp only [keysI] at e
          split at e
          · rename_i p kvs es
            obtain ⟨a, rfl, em⟩ := rv
            have e3 := intsD_of e
            rcases so.at_ l _ _ a es em with ⟨kv', r, c⟩ | ⟨kv', r, c⟩
            · cases el : leastI bs with
              | none => rw [el] at o; exact o.elim
              | some n =>
                rw [el] at o
                obtain ⟨h1, h2⟩ := leastI_ok el
                refine .inr (.inr ⟨a, kv', bs, rfl, c, Kvs.ints r e3, List.ne_nil_of_mem h1, fun k k1 k2 => ?_⟩)
                have ek : k = n := Int.le_antisymm (k2 n h1) (h2 k k1)
                subst ek
                exact o.here so rfl
            · exfalso
              cases r with
              | cons e1 _ =>
                rw [List.map_cons] at e3
                rw [e1.1] at e3
                cases bs with
                | nil => cases e3
                | cons b bs => cases (List.cons.inj e3).1
          · cases e
        | _ => cases e
      · exact o.elim
  · exact o.elim
theorem cr_maxD (hc : X.calm = true) : CallR X (.builtin "max") (rdOpL X.K X.mg maxD') := CallR.weak ((call_max2 hc).or (cr_max hc)) fun xs H Q h => by
  obtain ⟨m, st, ds, so, rl, o⟩ := h
  unfold maxD' at o
  split at o
  · obtain ⟨v, w, rfl, rv, rw'⟩ := rl.two
    cases rv; cases rw'
    exact .inl ⟨_, _, rfl, o.here so rfl⟩
  · obtain ⟨v, rfl, rv⟩ := rl.one
    split at o
    · rename_i d _ bs e
      obtain ⟨es, e1, e2⟩ := Option.bind_eq_some_iff.mp e
      obtain ⟨p, ys, rfl, ry, sq⟩ := lstD_of so e1 rv
      have e3 := intsD_of e2
      subst e3
      have e4 := ry.ints
      subst e4
      cases el : mostI bs with
      | none => rw [el] at o; exact o.elim
      | some n =>
        rw [el] at o
        obtain ⟨h1, h2⟩ := mostI_ok el
        refine .inr ⟨p, bs, rfl, sq, List.length_pos_of_mem h1, fun k k1 k2 => ?_⟩
        have ek : k = n := Int.le_antisymm (h2 k k1) (k2 n h1)
        subst ek
        exact o.here so rfl
    · exact o.elim
  · exact o.elim
theorem cr_gcdD : CallR X (.builtin "math.gcd") (rdOpL X.K X.mg gcdD) := CallR.weak cr_gcd fun xs H Q h => by
  obtain ⟨m, st, ds, so, rl, o⟩ := h
  unfold gcdD at o
  split at o
  · obtain ⟨v, w, rfl, rv, rw'⟩ := rl.two
    cases rv; cases rw'
    exact ⟨_, _, rfl, o.here so rfl⟩
  · exact o.elim
end

/-! ### isinstance -/
/-- the name of a datum's type -/
def tyD (st : Store) : D → Option String
  | .non => some "NoneType"
  | .bl _ => some "bool"
  | .int _ => some "int"
  | .str _ => some "str"
  | .tup _ _ => some "tuple"
  | .ref l => match st[l]? with
    | some (_, .lst _) => some "list"
    | some (false, .dct _) => some "dict"
    | some (true, .dct (p :: _)) => if isK p.1 = true then some "dict" else none
    | _ => none
  | _ => none
def isTyD : D → Bool
  | .ty _ => true
  | _ => false
def isiAny (t : String) : List D → Option Bool
  | [] => some false
  | .ty n :: ds => match kitB t n with
    | some true => if ds.all isTyD = true then some true else none
    | some false => isiAny t ds
    | none => none
  | _ => none
def isiD : OpL := fun ds st => match ds with
  | [d, .ty n] => (tyD st d).bind fun t => (kitB t n).map fun b => (.bl b, st)
  | [d, .tup false ns] => (tyD st d).bind fun t => (isiAny t ns).map fun b => (.bl b, st)
  | _ => none
section
variable {X : Cx}
theorem tyD_of {K : PySem.W.Frag} {mg : Str → Option Value} {m : List Addr} {H : Hp} {st : Store} (so : StOk K mg m H st) {d : D} {v : V} {t : String} (h : tyD st d = some t) (r : Rp K mg m H d v) : TyX K H v (.type t) := by
  cases d with
  | non => cases h; cases r; exact .base .non
  | bl b => cases h; cases r; exact .base (.bl b)
  | int b => cases h; cases r; exact .base (.int b)
  | str b => cases h; cases r; exact .base (.str b)
  | tup k ds =>
    cases h
    obtain ⟨a, xs, rfl, ta, _⟩ := r
    rcases ta.sq with (e | ⟨o, e⟩) | ⟨o, its, n, e, c, _⟩
    · exact .base (.tup e)
    · exact .fTuple e
    · exact .kTuple e c
  | ref l =>
    obtain ⟨a, rfl, em⟩ := r
    simp only [tyD] at h
    split at h
    · rename_i lk ds e
      cases h
      obtain ⟨xs, _, c⟩ := so.at_ l lk _ a e em
      rcases c.rd with e | ⟨o, e⟩
      · exact .base (.lst e)
      · exact .base (.frz e)
    · rename_i kvs e
      cases h
      rcases so.at_ l _ _ a e em with ⟨kv', r, c⟩ | ⟨kv', r, c⟩
      · exact .base (.dK c)
      · exact .base (.dT c)
    · rename_i p kvs e
      split at h
      · rename_i hk
        cases h
        rcases so.at_ l _ _ a e em with ⟨kv', r, c⟩ | ⟨kv', r, c⟩
        · obtain ⟨o, c⟩ := c
          exact .fDict c
        · exfalso
          cases r with
          | cons e1 _ => rw [e1.1] at hk; cases hk
      · cases h
    · cases h
  | fn x => cases h
  | ty x => cases h
theorem allTy_of {K : PySem.W.Frag} {mg : Str → Option Value} {m : List Addr} {H : Hp} : ∀ {ds : List D} {vs : List V}, ds.all isTyD = true → RpL K mg m H ds vs → ∃ us, Paired ClsV vs us
  | [], vs, _, r => by
    rw [r.nil]
    exact ⟨[], .nil⟩
  | d :: ds, vs, h, r => by
    obtain ⟨x, xs, rfl, r1, r2⟩ := r
    rw [List.all_cons, Bool.and_eq_true] at h
    obtain ⟨us, h1⟩ := allTy_of h.2 r2
    cases d with
    | ty n => cases r1; exact ⟨.type n :: us, .cons (.ty n) h1⟩
    | _ => cases h.1
theorem isiAny_of {K : PySem.W.Frag} {mg : Str → Option Value} {m : List Addr} {H : Hp} {t : String} : ∀ {ds : List D} {vs : List V} {b : Bool}, isiAny t ds = some b → RpL K mg m H ds vs → ∃ us, Paired ClsV vs us ∧ PySem.W.kitAny K (.type t) us = some b
  | [], vs, b, h, r => by
    cases h
    rw [r.nil]
    exact ⟨[], .nil, kitAny_nil⟩
  | d :: ds, vs, b, h, r => by
    unfold isiAny at h
    split at h
    · rename_i e; cases e
    · rename_i n ds' e
      cases e
      obtain ⟨x, xs, rfl, r1, r2⟩ := r
      cases r1
      split at h
      · rename_i e1
        split at h
        · rename_i ha
          cases h
          obtain ⟨us, h1⟩ := allTy_of ha r2
          exact ⟨.type n :: us, .cons (.ty n) h1, kitAny_cons (kit_ty e1) (fun z => nomatch z) (fun _ => rfl)⟩
        · cases h
      · rename_i e1
        obtain ⟨us, h1, h2⟩ := isiAny_of h r2
        exact ⟨.type n :: us, .cons (.ty n) h1, kitAny_cons (kit_ty e1) (fun _ => h2) (fun z => nomatch z)⟩
      · cases h
    · cases h
theorem cr_isiD : CallR X (.builtin "isinstance") (rdOpL X.K X.mg isiD) := CallR.weak (call_isi.or call_isiT) fun xs H Q h => by
  obtain ⟨m, st, ds, so, rl, o⟩ := h
  unfold isiD at o
  split at o
  · rename_i d n
    obtain ⟨v, w, rfl, rv, rw'⟩ := rl.two
    cases rw'
    cases e1 : tyD st d with
    | none => rw [e1] at o; exact o.elim
    | some t =>
      rw [e1] at o
      cases e2 : kitB t n with
      | none => simp only [Option.bind_some, e2] at o; exact o.elim
      | some b =>
        simp only [Option.bind_some, e2] at o
        exact .inl ⟨v, _, .type t, .type n, b, rfl, .ty n, tyD_of so e1 rv, kit_ty e2, o.here so rfl⟩
  · rename_i d ns
    obtain ⟨v, w, rfl, rv, tp, cs, rfl, ta, rc⟩ := rl.two
    cases e1 : tyD st d with
    | none => rw [e1] at o; exact o.elim
    | some t =>
      rw [e1] at o
      cases e2 : isiAny t ns with
      | none => simp only [Option.bind_some, e2] at o; exact o.elim
      | some b =>
        simp only [Option.bind_some, e2] at o
        obtain ⟨us, h1, h2⟩ := isiAny_of e2 rc
        exact .inr ⟨v, tp, cs, .type t, us, b, rfl, ta, h1, tyD_of so e1 rv, h2, o.here so rfl⟩
  · exact o.elim
end

/-! ### repr, sorted -/
def reprD : OpL := fun ds st => match ds with
  | [d] => match rdP st d with
    | some p => if p.showable = true ∧ p.shown.length ≤ sizeLine then some (.str p.shown, st) else none
    | none => none
  | _ => none
def allAlike (ps : List PyData) : Bool := ps.all fun p => ps.all fun q => PySem.W.alike p q
def fullTup : PyData → Bool
  | .tuple (_ :: _) => true
  | _ => false
def noTup : PyData → Bool
  | .tuple _ => false
  | .none => false
  | _ => true
def sortB (ps : List PyData) : Bool := allAlike ps && (ps.all fullTup || ps.all noTup)
def encD (st : Store) (d : D) : PyData := (rdP st d).getD .none
/-- some data, sorted -/
def sortedL (st : Store) (ds : List D) : Option (List D) := match optAll (ds.map (rdP st)) with
  | some ps => if sortB ps = true then some (ds.mergeSort (PySem.W.dataLe false (encD st))) else none
  | none => none
def sortedD : OpL := fun ds st => match ds with
  | [d] => match lstD st d with
    | some xs => (sortedL st xs).bind fun ys => newL ys st
    | none => match dctK st d with
      | some kvs => (sortedL st (kvs.map (·.1))).bind fun ys => newL ys st
      | none => match dctT st d with
        | some kvs => (sortedL st (kvs.map (·.1))).bind fun ys => newL ys st
        | none => none
  | _ => none
section
variable {X : Cx}
theorem cr_reprD (hg : X.A.guards = some []) (hu : X.A.units + 64 < cLine) : CallR X (.builtin "repr") (rdOpL X.K X.mg reprD) := by
  intro pins s σ H xs us Q I r h
  obtain ⟨m, st, ds, so, rl, o⟩ := h
  unfold reprD at o
  split at o
  · rename_i d
    obtain ⟨v, rfl, rv⟩ := rl.one
    obtain ⟨u, rfl, ru⟩ := vals1 r
    split at o
    · rename_i p e
      split at o
      · rename_i hc
        obtain ⟨hs, hl⟩ := hc
        obtain ⟨dp, h1, h2⟩ := rdP_of so e rv
        obtain ⟨as, rd⟩ := dp.reads I _ _ _ ru
        have fin : ∀ {u' : Value} {s' : Shared}, RelV (.str p.shown) u' → Inv X pins σ H s' → EP X pins σ Q u' s' := fun ru' I' => ⟨_, H, I', ru', o.here so rfl⟩
        have hdd : p.hasDict = true → sysModules ∉ as := PyData.noDict_hsm (PyData.hasDict_of_canLay p (by unfold SeqAt.shaped at h1; exact (Bool.and_eq_true_iff.mp h1).1))
        have hdp : p.depth ≤ 30 := h2
        cases rd with
        | none => exact PySem.P.repr_of_none (fin ⟨_, rfl⟩ (I.tok _))
        | bool b => exact PySem.P.repr_of_bool (fin ⟨_, by cases b <;> rfl⟩ (I.tok _))
        | int i t => exact PySem.P.repr_of_int (of_decide_eq_true hs) (fin ⟨_, rfl⟩ (I.tok _))
        | str x t => exact PySem.P.repr_of_str (fin ⟨_, rfl⟩ (I.tok _)) hl
        | list a1 a2 a3 a4 => exact repr_of_reads' (.list a1 a2 a3 a4) hs hdd hg (by omega) (fun _ _ q => q) (fun h' u' tk hk => fin ⟨_, rfl⟩ (I.kept hk)) hl
        | tuple a1 a2 a3 a4 => exact repr_of_reads' (.tuple a1 a2 a3 a4) hs hdd hg (by omega) (fun _ _ q => q) (fun h' u' tk hk => fin ⟨_, rfl⟩ (I.kept hk)) hl
        | dict a1 a2 a3 a4 a5 => exact repr_of_reads' (.dict a1 a2 a3 a4 a5) hs hdd hg (by omega) (fun _ _ q => q) (fun h' u' tk hk => fin ⟨_, rfl⟩ (I.kept hk)) hl
      · exact o.elim
    · exact o.elim
  · exact o.elim
theorem optAll_map {α β : Type} {f : α → Option β} : ∀ {l : List α} {r : List β}, optAll (l.map f) = some r → (∀ x, x ∈ l → (f x).isSome = true) ∧ r.length = l.length ∧ (∀ (g : α → β), (∀ x b, f x = some b → g x = b) → l.map g = r)
  | [], r, h => by cases h; exact ⟨fun x hx => absurd hx List.not_mem_nil, rfl, fun _ _ => rfl⟩
  | a :: l, r, h => by
    obtain ⟨b, r', e1, e2, rfl⟩ := optAll_cons h
    obtain ⟨h1, h2, h3⟩ := optAll_map e2
    refine ⟨fun x hx => ?_, by rw [List.length_cons, List.length_cons, h2], fun g hg => by rw [List.map_cons, hg a b e1, h3 g hg]⟩
    rcases List.mem_cons.mp hx with rfl | hx
    · rw [e1]; rfl
    · exact h1 x hx
theorem encD_map {st : Store} {ds : List D} {ps : List PyData} (h : optAll (ds.map (rdP st)) = some ps) : ds.map (encD st) = ps := (optAll_map h).2.2 (encD st) fun x b e => by unfold encD; rw [e]; rfl
theorem allAlike_of {ps : List PyData} (h : allAlike ps = true) : PySem.W.AllAlike ps := fun p hp q hq => List.all_eq_true.mp (List.all_eq_true.mp h p hp) q hq
theorem sortB_of {ps : List PyData} (h : sortB ps = true) : PySem.W.AllAlike ps ∧ PySem.W.Sortable ps := by
  obtain ⟨h1, h2⟩ := Bool.and_eq_true_iff.mp h
  refine ⟨allAlike_of h1, ?_⟩
  rcases Bool.or_eq_true_iff.mp h2 with h2 | h2
  · refine .inl fun d hd => ?_
    have := List.all_eq_true.mp h2 d hd
    unfold fullTup at this
    split at this
    · exact ⟨_, _, rfl⟩
    · cases this
  · refine .inr fun d hd => ?_
    have := List.all_eq_true.mp h2 d hd
    exact ⟨fun e => (by rw [e] at this; cases this), fun xs e => (by rw [e] at this; cases this)⟩
/-- a value stands for a datum -/
def VR (K : PySem.W.Frag) (mg : Str → Option Value) (m : List Addr) (H : Hp) (v : Value) (d : D) : Prop := ∃ x, Rp K mg m H d x ∧ RelV x v
theorem each_of {K : PySem.W.Frag} {mg : Str → Option Value} {m : List Addr} {H : Hp} : ∀ {ds : List D} {xs : List V} {vs : List Value}, RpL K mg m H ds xs → Vals xs vs → PySem.W.EachIs (VR K mg m H) vs ds
  | [], xs, vs, r, v => by
    have e := r.nil
    subst e
    cases v
    exact .nil
  | d :: ds, _, _, ⟨x, t, e, r1, r2⟩, v => by
    subst e
    cases v with
    | cons v1 v2 => exact .cons ⟨x, r1, v1⟩ (each_of r2 v2)
theorem of_each {K : PySem.W.Frag} {mg : Str → Option Value} {m : List Addr} {H : Hp} : ∀ {ds : List D} {vs : List Value}, PySem.W.EachIs (VR K mg m H) vs ds → ∃ xs, RpL K mg m H ds xs ∧ Vals xs vs
  | _, _, .nil => ⟨[], rfl, .nil⟩
  | _, _, .cons ⟨x, r1, v1⟩ t => by
    obtain ⟨xs, h1, h2⟩ := of_each t
    exact ⟨x :: xs, ⟨x, xs, rfl, r1, h1⟩, .cons v1 h2⟩
section
variable {pins : List (Addr × Obj)} {σ : L2.St} {m : List Addr} {H : Hp} {s : Shared} {st : Store}
/-- what the items read as -/
theorem reads_of (I : Inv X pins σ H s) (so : StOk X.K X.mg m H st) : ∀ {ds : List D} {ps : List PyData} {xs : List V} {vs : List Value}, optAll (ds.map (rdP st)) = some ps → RpL X.K X.mg m H ds xs → Vals xs vs →
    PySem.W.EachIs (fun v d => ∃ as, Reads s.heap v (encD st d) as) vs ds ∧ ∀ d ∈ ds, (encD st d).depth ≤ dpt
  | [], ps, xs, vs, h, r, v => by
    have e := r.nil
    subst e
    cases v
    exact ⟨.nil, fun d hd => by cases hd⟩
  | d :: ds, ps, _, _, h, ⟨x, t, e, r1, r2⟩, v => by
    subst e
    obtain ⟨p, ps', e1, e2, rfl⟩ := optAll_cons h
    cases v with
    | cons v1 v2 =>
      obtain ⟨h1, h2⟩ := reads_of I so e2 r2 v2
      obtain ⟨dp, _, hd⟩ := rdP_of so e1 r1
      have ee : encD st d = p := by unfold encD; rw [e1]; rfl
      refine ⟨.cons ?_ h1, fun d' hd' => ?_⟩
      · rw [ee]
        exact dp.reads I _ _ _ v1
      · rcases List.mem_cons.mp hd' with rfl | hd'
        · rw [ee]; exact hd
        · exact h2 d' hd'
end
theorem sortedL_of {st : Store} {ds ys : List D} (h : sortedL st ds = some ys) : ∃ ps, optAll (ds.map (rdP st)) = some ps ∧ PySem.W.AllAlike (ds.map (encD st)) ∧ PySem.W.Sortable (ds.map (encD st)) ∧ ys = ds.mergeSort (PySem.W.dataLe false (encD st)) := by
  unfold sortedL at h
  split at h
  · rename_i ps e
    split at h
    · rename_i hb
      cases h
      obtain ⟨h1, h2⟩ := sortB_of hb
      rw [← encD_map e] at h1 h2
      exact ⟨ps, e, h1, h2, rfl⟩
    · cases h
  · cases h
theorem enc_each : ∀ {vs : List Value} {ds : List D} {h : Heap} {st : Store} {h' : Heap} {a : Addr}, PySem.W.EachIs (fun v d => ∃ as, Reads h v (encD st d) as) vs ds → (∀ b o, h.get? b = some o → h'.get? b = some o) → h.get? a = none → PySem.W.EachIs (fun v d => ∃ as, Reads h' v (encD st d) as ∧ a ∉ as) vs ds
  | _, _, _, _, _, _, .nil, _, _ => .nil
  | _, _, _, _, _, _, .cons ⟨as, r⟩ t, k, n => .cons ⟨as, PyProof.Rows.Reads.keeps k r, fun hm => by obtain ⟨o, e⟩ := PyProof.On.reads_mem_get r _ hm; rw [n] at e; cases e⟩ (enc_each t k n)
/-- sorted(d) of a dict: the keys collected, a new list of them sorted -/
theorem sort_collected {pins : List (Addr × Obj)} {σ : L2.St} {m : List Addr} {H : Hp} {st : Store} {s : Shared} {Q : VK} {acc : Array Value} {xs : List V} {ds ys : List D} (hu : X.A.units + 64 < cLine) (I : Inv X pins σ H s) (so : StOk X.K X.mg m H st)
    (rl : RpL X.K X.mg m H ds xs) (rv : Vals xs acc.toList) (hz : ds.length ≤ sizeLine) (hs : sortedL st ds = some ys) (o : Out X.K X.mg (Rp X.K X.mg) m H (newL ys st) Q) :
    wpAny (model X.prog X.w) X.A.in1 (newList acc.toList >>= fun l => holding [l] (call (.builtin "list.sort") [l]) >>= fun _ => ret l) (fun fin s' => ∃ v, fin = PySem.Fin.done (Flow.ret v) ∧ EP X pins σ Q v s') X.xe s := by
  obtain ⟨ps, e1, hal, hk, rfl⟩ := sortedL_of hs
  obtain ⟨er, hd⟩ := reads_of I so e1 rl rv
  have el : acc.toList.length = ds.length := by rw [← rv.length]; exact rl.length
  refine wpAny_bind (wpAny_newList ?_ (by rw [el]; exact hz))
  have hoL : (s.heap.push (seqObj "list" acc.toList.toArray 0)).get? s.heap.objs.size = some (seqObj "list" acc.toList.toArray 0) := Heap.get?_push_size _ rfl
  have hn : s.heap.get? s.heap.objs.size = none := by
    cases e : s.heap.get? s.heap.objs.size with
    | none => rfl
    | some o => exact absurd (Heap.lt_size e) (Nat.lt_irrefl _)
  have kp : ∀ b u, s.heap.get? b = some u → (s.heap.push (seqObj "list" acc.toList.toArray 0)).get? b = some u := fun b u e => Heap.get?_push_of_some _ e
  refine wpAny_bind (wpAny_holding ?_)
  refine PySem.W.list_sort_data (s := { s with heap := s.heap.push (seqObj "list" acc.toList.toArray 0) }) hoL (each_of rl rv) (enc_each er kp hn) hal hk hz (fun b hb => ?_) fun out hl hout => ?_
  · have := hd b hb
    have h1 : dpt = 30 := rfl
    show X.A.units + 1 + 1 + (encD st b).depth < cLine
    omega
  · obtain ⟨zs, rz, vz⟩ := of_each hout
    obtain ⟨e', he'⟩ := PyProof.Rows.sortedHeap_at (vs := acc.toList) (out := out.toArray) hoL
    have hlen : zs.length ≤ sizeLine := by
      rw [rz.length, List.length_mergeSort]
      exact hz
    refine wpAny_pure ⟨_, rfl, .ref s.heap.objs.size, upd H s.heap.objs.size (.lst zs), I.laid (t' := s.toks) (fun b u e => ?_) (Nat.le_refl _)
      (show ObjOk X.prog X.w _ _ _ (.lst zs) from ⟨hlen, out, e', vz, he'⟩), rfl, o.lst so rz (I.hok.fresh (Nat.le_refl _))⟩
    have hb : b < s.heap.objs.size := Heap.lt_size e
    show (PyProof.Rows.sortedHeap (s.heap.push (seqObj "list" acc.toList.toArray 0)) s.heap.objs.size acc.toList out.toArray).get? b = some u
    rw [PyProof.Rows.sortedHeap_old (Nat.ne_of_lt hb) (by rw [size_push']; exact Nat.lt_succ_of_lt hb)]
    exact kp b u e
theorem cr_sortedD (hc : X.calm = true) (hu : X.A.units + 64 < cLine) : CallR X (.builtin "sorted") (rdOpL X.K X.mg sortedD) := by
  intro pins s σ H xs us Q I r h
  obtain ⟨m, st, ds, so, rl, o⟩ := h
  unfold sortedD at o
  split at o
  · rename_i d
    obtain ⟨v, rfl, rv⟩ := rl.one
    obtain ⟨u, rfl, ru⟩ := vals1 r
    split at o
    · rename_i ys e
      obtain ⟨p, zs, rfl, rz, sq⟩ := lstD_of so e rv
      cases ru
      obtain ⟨its, rvs, pl, hz⟩ := I.list sq
      cases es : sortedL st ys with
      | none => rw [es] at o; exact o.elim
      | some ws =>
        rw [es] at o
        have o : Out X.K X.mg (Rp X.K X.mg) m H (newL ws st) Q := o
        obtain ⟨ps, e1, hal, hk, rfl⟩ := sortedL_of es
        obtain ⟨er, hd⟩ := reads_of I so e1 rz rvs
        have hlz : ys.length ≤ sizeLine := by rw [← rz.length]; exact hz
        refine PySem.W.sorted_data pl.isList (each_of rz rvs) er hal hk hlz (fun b hb => ?_) fun out hl hout => ?_
        · have := hd b hb
          have h1 : dpt = 30 := rfl
          omega
        · obtain ⟨ks, rk, vk⟩ := of_each hout
          obtain ⟨c, hat⟩ := PyProof.Rows.sortedAll_at s.heap its out.toArray
          have hlen : ks.length ≤ sizeLine := by
            rw [rk.length, List.length_mergeSort]
            exact hlz
          exact ⟨.ref (s.heap.objs.size + 1), upd H (s.heap.objs.size + 1) (.lst ks), I.laid (t' := s.toks) (fun b u e => PyProof.Rows.sortedAll_old e) (Nat.le_succ _)
            (show ObjOk X.prog X.w _ _ _ (.lst ks) from ⟨hlen, out, c, vk, hat⟩), rfl, o.lst so rk (I.hok.fresh (Nat.le_succ _))⟩
    · split at o
      · rename_i kvs e
        obtain ⟨a, kv', H1, rfl, I1, s1, p1, hd, kr⟩ := dctK_at I so rv e
        cases ru
        cases es : sortedL st (kvs.map (·.1)) with
        | none => rw [es] at o; exact o.elim
        | some ws =>
          rw [es] at o
          have o : Out X.K X.mg (Rp X.K X.mg) m H (newL ws st) Q := o
          obtain ⟨z, lo, vs, rel, dd⟩ := dk_rd I1.hok hd
          obtain ⟨ep, hat⟩ := dd.dictAt
          have hl2 : kv'.length = vs.length := rel.length
          have ek : (kv'.map fun kv => kV kv.1) = vs.map fun p => kV p.1 := by
            have e := congrArg (List.map kV) rel.keys
            rw [List.map_map, List.map_map] at e
            exact e
          refine Calls.call_function_entry PyProof.Rows.kind_sorted PyProof.Rows.plain_sorted PyProof.Rows.entry_sorted (PyProof.Rows.args_sorted1 _) ?_
          unfold Builtin.«sorted»
          refine wpAny_bind (m := checkCount "sorted" 1 1 _) (wpAny_pure ?_)
          refine wpAny_bind (PySem.W.kdu_collect (A := X.A.in1) (PySem.W.kdl_dict (knd := mixKind X.prog X.w) (kvs := vs) (ep := ep) lo) (I1.ok.hd hc) hat (by rw [← hl2]; exact z) fun h' tk acc hk hacc => ?_)
          have hv : Vals (kv'.map fun p => kV p.1) acc.toList := by
            rw [ek]
            exact keys_at (by rw [Array.length_toList]; exact hacc.1) fun j v e => hacc.2 j v (by rw [← Array.getElem?_toList]; exact e)
          exact sort_collected hu (I1.kept hk) s1 kr.keysK hv (by rw [List.length_map, kr.length]; exact z) es (o.mono (Pre.refl m) p1)
      · split at o
        · rename_i kvs e
          obtain ⟨a, kv', H1, rfl, I1, s1, p1, hd, kr⟩ := dctT_at I so rv e
          cases ru
          cases es : sortedL st (kvs.map (·.1)) with
          | none => rw [es] at o; exact o.elim
          | some ws =>
            rw [es] at o
            have o : Out X.K X.mg (Rp X.K X.mg) m H (newL ws st) Q := o
            obtain ⟨z, hs, ks, pr, o', es', ep, ho, hx, hdt, he, hn⟩ := (show ObjOk X.prog X.w H1 s.heap a (.dT kv') from hd.ok I1.hok)
            have l1 : es'.size = ks.length := size_of_entries he
            have l2 : kv'.length = ks.length := Paired.length pr
            refine Calls.call_function_entry PyProof.Rows.kind_sorted PyProof.Rows.plain_sorted PyProof.Rows.entry_sorted (PyProof.Rows.args_sorted1 _) ?_
            unfold Builtin.«sorted»
            refine wpAny_bind (m := checkCount "sorted" 1 1 _) (wpAny_pure ?_)
            refine wpAny_bind (PySem.W.kdu_collect (A := X.A.in1) (kdl_raw hs hx hdt) (I1.ok.hd hc) ho (by omega) fun h' tk acc hk it => ?_)
            have ea : acc.toList = ks.map fun x => Value.ref x.2.1 := by
              have hl : acc.toList.length = ks.length := by rw [Array.length_toList, it.1]; exact l1
              apply List.ext_getElem?
              intro j
              rw [List.getElem?_map]
              cases hj : acc.toList[j]? with
              | none =>
                have h1 := List.getElem?_eq_none_iff.mp hj
                rw [List.getElem?_eq_none (by omega)]
                all_goals rfl
              | some v =>
                obtain ⟨en, hen, hv⟩ := it.2 j v (by rw [← Array.getElem?_toList]; exact hj)
                have qe := entry_at he j
                rw [hen] at qe
                cases hb : ks[j]? with
                | none => rw [hb] at qe; exact absurd qe (by simp)
                | some x =>
                  rw [hb] at qe
                  have e2 : en = entryOfKey (tupleKind (mixKind X.prog X.w)) x := Option.some.inj qe
                  rw [hv, e2]
                  rfl
            have eb : acc.toList = (ks.map fun x => x.2.1).map Value.ref := by rw [ea, List.map_map]; rfl
            have rv : Vals ((ks.map fun x => x.2.1).map V.ref) acc.toList := by rw [eb]; exact vals_refs _
            exact sort_collected hu (I1.kept hk) s1 (kr.keysT (isKeys_of pr)) rv (by rw [List.length_map, kr.length]; exact z) es (o.mono (Pre.refl m) p1)
        · exact o.elim
  · exact o.elim
end
end PP
set_option Elab.async false
set_option linter.all false
set_option maxRecDepth 100000
set_option maxHeartbeats 2000000
/-! PP7: what is walked; targets; statements. -/
namespace PP
open PySem PySem.Spec PyProof.Rows L2
variable [Tbl]

/-! ### sources: the item at a turn, the end, or nothing that can be said -/
abbrev Src := Nat → Store → Option (Option D)
def srcL (l : Nat) : Src := fun i st => match st[l]? with
  | some (_, .lst ds) => some ds[i]?
  | _ => none
def srcS (ds : List D) : Src := fun i _ => some ds[i]?
def signs (z : Str) : List D := z.cps.toList.map fun c => .str (sign1 c)
def srcD (st : Store) (d : D) : Option Src := match d with
  | .tup _ ds => some (srcS ds)
  | .str z => some (srcS (signs z))
  | .ref l => match st[l]? with
    | some (_, .lst _) => some (srcL l)
    | some (true, .dct kvs) => some (srcS (kvs.map (·.1)))
    | _ => none
  | _ => none
def srcEn (st : Store) (d : D) : Option Src := match d with
  | .ref l => match st[l]? with
    | some (_, .lst _) => some fun i st => match st[l]? with
      | some (_, .lst ds) => some (ds[i]?.map fun d => .tup false [.int (i : Int), d])
      | _ => none
    | _ => none
  | _ => none
def pairAt (ds es : List D) (i : Nat) : Option D := match ds[i]?, es[i]? with
  | some d, some e => some (.tup false [d, e])
  | _, _ => none
def srcZp (st : Store) (d e : D) : Option Src := match d, e with
  | .ref l, .ref k => match st[l]?, st[k]? with
    | some (_, .lst _), some (_, .lst _) => some fun i st => match st[l]?, st[k]? with
      | some (_, .lst ds), some (_, .lst es) => some (pairAt ds es i)
      | _, _ => none
    | _, _ => none
  | .tup _ ds, .tup _ es => some fun i _ => some (pairAt ds es i)
  | _, _ => none
def small62 (i : Int) : Bool := decide (-(2 ^ 62) ≤ i ∧ i < 2 ^ 62)
def rangeL (i : Int) (n : Nat) : List D := (List.range n).map fun k => .int (i + (k : Nat))
def srcRg : List D → Option Src
  | [.int j] => if small62 j = true then some (srcS (rangeL 0 j.toNat)) else none
  | [.int i, .int j] => if small62 i = true ∧ small62 j = true then some (srcS (rangeL i (j - i).toNat)) else none
  | _ => none

section
variable (K : PySem.W.Frag) (mg : Str → Option Value)
def SrcOk (m0 : List Addr) (H0 : Hp) (g : Src) (J : It) : Prop := ∀ (i : Nat) (m : List Addr) (H : Hp) (st : Store), Pre m0 m → Pers H0 H → StOk K mg m H st →
  (∀ d, g i st = some (some d) → J.go i H ∧ ∀ x H', J.yld i H x H' → Pers H H' ∧ StOk K mg m H' st ∧ Rp K mg m H' d x) ∧ (g i st = some none → J.stop i H)
abbrev rdI (W : WX) (f : Ev Src) : TI := rdG K mg (SrcOk K mg) W f
variable {K mg}
variable {m : List Addr} {H : Hp} {st : Store}
theorem SrcOk.tup {a : Addr} {ds : List D} {xs : List V} (q : SqT K H a xs) (r : RpL K mg m H ds xs) : SrcOk K mg m H (srcS ds) (Itt K a) := fun i m' H' st' pm p so => by
  have q' := p.sqT q
  have r' := RpL.mono pm p _ _ r
  refine ⟨fun d e => ?_, fun e => ?_⟩
  · obtain ⟨x, ex, rx⟩ := r'.get (Option.some.inj e)
    refine ⟨⟨xs, x, q', ex⟩, fun y H2 hy => ?_⟩
    obtain ⟨rfl, hy⟩ := hy
    have := hy xs q'
    rw [ex] at this
    cases this
    exact ⟨Pers.refl _, so, rx⟩
  · refine ⟨xs, q', ?_⟩
    rw [r.length]
    exact List.getElem?_eq_none_iff.mp (Option.some.inj e)
theorem SrcOk.lst {a : Addr} {l : Nat} (em : m[l]? = some a) : SrcOk K mg m H (srcL l) (Itl K a) := fun i m' H' st' pm p so => by
  have em' := pm l a em
  refine ⟨fun d e => ?_, fun e => ?_⟩
  · unfold srcL at e
    split at e
    · rename_i lk ds es
      obtain ⟨xs, rl, sq⟩ := (so.at_ l lk _ a es em').lst_rd
      obtain ⟨x, ex, rx⟩ := rl.get (Option.some.inj e)
      refine ⟨⟨xs, x, sq, ex⟩, fun y H2 hy => ?_⟩
      obtain ⟨rfl, hy⟩ := hy
      have := hy xs sq
      rw [ex] at this
      cases this
      exact ⟨Pers.refl _, so, rx⟩
    · cases e
  · unfold srcL at e
    split at e
    · rename_i lk ds es
      obtain ⟨xs, rl, sq⟩ := (so.at_ l lk _ a es em').lst_rd
      refine ⟨xs, sq, ?_⟩
      rw [rl.length]
      exact List.getElem?_eq_none_iff.mp (Option.some.inj e)
    · cases e
theorem SrcOk.str {z : Str} : SrcOk K mg m H (srcS (signs z)) (Its z) := fun i m' H' st' _ _ so => by
  refine ⟨fun d e => ?_, fun e => ?_⟩
  · have e := Option.some.inj e
    unfold signs at e
    rw [List.getElem?_map, Array.getElem?_toList] at e
    obtain ⟨c, ec, rfl⟩ := Option.map_eq_some_iff.mp e
    refine ⟨(Array.getElem?_eq_some_iff.mp ec).1, fun y H2 hy => ?_⟩
    obtain ⟨rfl, c', ec', rfl⟩ := hy
    rw [ec] at ec'
    cases ec'
    exact ⟨Pers.refl _, so, rfl⟩
  · have e := Option.some.inj e
    unfold signs at e
    rw [List.getElem?_map, Array.getElem?_toList] at e
    exact Array.getElem?_eq_none_iff.mp (Option.map_eq_none_iff.mp e)
theorem SrcOk.rng {lo : Int} {n : Nat} : SrcOk K mg m H (srcS (rangeL lo n)) (Itr lo n) := fun i m' H' st' _ _ so => by
  refine ⟨fun d e => ?_, fun e => ?_⟩
  · have e := Option.some.inj e
    unfold rangeL at e
    rw [List.getElem?_map] at e
    obtain ⟨k, ek, rfl⟩ := Option.map_eq_some_iff.mp e
    obtain ⟨hl, ek⟩ := List.getElem?_eq_some_iff.mp ek
    rw [List.getElem_range] at ek
    subst ek
    rw [List.length_range] at hl
    refine ⟨hl, fun y H2 hy => ?_⟩
    obtain ⟨rfl, rfl⟩ := hy
    exact ⟨Pers.refl _, so, rfl⟩
  · have e := Option.some.inj e
    unfold rangeL at e
    rw [List.getElem?_map, Option.map_eq_none_iff, List.getElem?_eq_none_iff, List.length_range] at e
    exact e
theorem Kvs.getK {kvs : List (D × D)} {kv' : List (Key × V)} (r : Kvs K mg m H fK kvs kv') {i : Nat} {d : D} (e : (kvs.map (·.1))[i]? = some d) : ∃ k v, kv'[i]? = some (k, v) ∧ d = fK k := by
  rw [List.getElem?_map] at e
  obtain ⟨p, ep, rfl⟩ := Option.map_eq_some_iff.mp e
  obtain ⟨b, eb, e1, _⟩ := paired_get r ep
  exact ⟨b.1, b.2, eb, e1⟩
theorem Kvs.getT {kvs : List (D × D)} {kv' : List (List Key × V)} (r : Kvs K mg m H fT kvs kv') {i : Nat} {d : D} (e : (kvs.map (·.1))[i]? = some d) : ∃ k v, kv'[i]? = some (k, v) ∧ d = fT k := by
  rw [List.getElem?_map] at e
  obtain ⟨p, ep, rfl⟩ := Option.map_eq_some_iff.mp e
  obtain ⟨b, eb, e1, _⟩ := paired_get r ep
  exact ⟨b.1, b.2, eb, e1⟩
theorem keys_len {kvs : List (D × D)} {i : Nat} (h : (kvs.map (·.1))[i]? = none) : kvs.length ≤ i := by
  rw [List.getElem?_map, Option.map_eq_none_iff, List.getElem?_eq_none_iff] at h
  exact h
theorem SrcOk.keysK {a : Addr} {ob : Obj} {kvs : List (D × D)} {kv' : List (Key × V)} (r : Kvs K mg m H fK kvs kv') (e : H a = some (.frz ob (.dK kv'))) : SrcOk K mg m H (srcS (kvs.map (·.1))) (Itk a ob kv') := fun i m' H' st' pm p so => by
  have e' := p a _ (show Keeps (.frz _ _) from True.intro) e
  refine ⟨fun d ed => ?_, fun ed => ?_⟩
  · obtain ⟨k, v, ek, rfl⟩ := r.getK (Option.some.inj ed)
    refine ⟨⟨e', (List.getElem?_eq_some_iff.mp ek).1⟩, fun y H2 hy => ?_⟩
    obtain ⟨rfl, k2, v2, ek2, rfl⟩ := hy
    rw [ek] at ek2
    cases ek2
    exact ⟨Pers.refl _, so, Rp_kD.mpr rfl⟩
  · exact ⟨e', by rw [← r.length]; exact keys_len (Option.some.inj ed)⟩
theorem SrcOk.keysT {a : Addr} {ob : Obj} {kvs : List (D × D)} {kv' : List (List Key × V)} (r : Kvs K mg m H fT kvs kv') (e : H a = some (.frz ob (.dT kv'))) : SrcOk K mg m H (srcS (kvs.map (·.1))) (Itkt a ob kv') := fun i m' H' st' pm p so => by
  have e' := p a _ (show Keeps (.frz _ _) from True.intro) e
  refine ⟨fun d ed => ?_, fun ed => ?_⟩
  · obtain ⟨k, v, ek, rfl⟩ := r.getT (Option.some.inj ed)
    refine ⟨⟨e', (List.getElem?_eq_some_iff.mp ek).1⟩, fun y H2 hy => ?_⟩
    obtain ⟨rfl, k2, v2, q, ek2, rfl, hq⟩ := hy
    rw [ek] at ek2
    cases ek2
    exact ⟨Pers.refl _, so, q, _, rfl, hq, RpL_kV _⟩
  · exact ⟨e', by rw [← r.length]; exact keys_len (Option.some.inj ed)⟩
theorem pers_tup {T : Addr} {xs : List V} (h : H T = none) (so : StOk K mg m H st) : Pers H (upd H T (.tup xs)) ∧ StOk K mg m (upd H T (.tup xs)) st := ⟨Pers.new h, so.beside h⟩
theorem rp_pair {T : Addr} {x y : V} {d e : D} (h : H T = none) (rx : Rp K mg m H d x) (ry : Rp K mg m H e y) : Rp K mg m (upd H T (.tup [x, y])) (.tup false [d, e]) (.ref T) :=
  ⟨T, [x, y], rfl, upd_same, x, [y], rfl, Rp.mono (Pre.refl m) (Pers.new h) _ _ rx, y, [], rfl, Rp.mono (Pre.refl m) (Pers.new h) _ _ ry, rfl⟩
theorem SrcOk.enum {a : Addr} {l : Nat} (em : m[l]? = some a) : SrcOk K mg m H (fun i st => match st[l]? with
      | some (_, .lst ds) => some (ds[i]?.map fun d => .tup false [.int (i : Int), d])
      | _ => none) (Ite K a) := fun i m' H' st' pm p so => by
  have em' := pm l a em
  refine ⟨fun d e => ?_, fun e => ?_⟩
  · simp only at e
    split at e
    · rename_i lk ds es
      obtain ⟨xs, rl, sq⟩ := (so.at_ l lk _ a es em').lst_rd
      obtain ⟨d0, e0, rfl⟩ := Option.map_eq_some_iff.mp (Option.some.inj e)
      obtain ⟨x, ex, rx⟩ := rl.get e0
      refine ⟨⟨xs, x, sq, ex⟩, fun y H2 hy => ?_⟩
      obtain ⟨T, x2, rfl, hT, rfl, hx2⟩ := hy
      have := hx2 xs sq
      rw [ex] at this
      cases this
      exact ⟨(pers_tup hT so).1, (pers_tup hT so).2, rp_pair hT rfl rx⟩
    · cases e
  · simp only at e
    split at e
    · rename_i lk ds es
      obtain ⟨xs, rl, sq⟩ := (so.at_ l lk _ a es em').lst_rd
      refine ⟨xs, sq, ?_⟩
      rw [rl.length]
      exact List.getElem?_eq_none_iff.mp (Option.map_eq_none_iff.mp (Option.some.inj e))
    · cases e
theorem pairAt_some {ds es : List D} {i : Nat} {d : D} (h : pairAt ds es i = some d) : ∃ x y, ds[i]? = some x ∧ es[i]? = some y ∧ d = .tup false [x, y] := by
  unfold pairAt at h
  split at h
  · rename_i x y e1 e2
    cases h
    exact ⟨x, y, e1, e2, rfl⟩
  · cases h
theorem pairAt_none {ds es : List D} {i : Nat} (h : pairAt ds es i = none) : ds.length ≤ i ∨ es.length ≤ i := by
  unfold pairAt at h
  split at h
  · cases h
  · rename_i hx
    by_cases h1 : i < ds.length
    · by_cases h2 : i < es.length
      · exact absurd (List.getElem?_eq_getElem h2) (hx _ _ (List.getElem?_eq_getElem h1))
      · exact .inr (Nat.le_of_not_lt h2)
    · exact .inl (Nat.le_of_not_lt h1)
theorem SrcOk.zipL {a b : Addr} {l k : Nat} (ea : m[l]? = some a) (eb : m[k]? = some b) : SrcOk K mg m H (fun i st => match st[l]?, st[k]? with
      | some (_, .lst ds), some (_, .lst es) => some (pairAt ds es i)
      | _, _ => none) (Itz K a b) := fun i m' H' st' pm p so => by
  have ea' := pm l a ea
  have eb' := pm k b eb
  refine ⟨fun d e => ?_, fun e => ?_⟩
  · simp only at e
    split at e
    · rename_i lk ds lk2 es e1 e2
      obtain ⟨xs, rl, sq⟩ := (so.at_ l lk _ a e1 ea').lst_rd
      obtain ⟨ys, rl2, sq2⟩ := (so.at_ k lk2 _ b e2 eb').lst_rd
      obtain ⟨d1, d2, g1, g2, rfl⟩ := pairAt_some (Option.some.inj e)
      obtain ⟨x, ex, rx⟩ := rl.get g1
      obtain ⟨y, ey, ry⟩ := rl2.get g2
      refine ⟨⟨xs, ys, x, y, sq, sq2, ex, ey⟩, fun z H2 hz => ?_⟩
      obtain ⟨T, x2, y2, rfl, hT, rfl, hx2, hy2⟩ := hz
      have q1 := hx2 xs sq
      have q2 := hy2 ys sq2
      rw [ex] at q1
      rw [ey] at q2
      cases q1; cases q2
      exact ⟨(pers_tup hT so).1, (pers_tup hT so).2, rp_pair hT rx ry⟩
    · cases e
  · simp only at e
    split at e
    · rename_i lk ds lk2 es e1 e2
      obtain ⟨xs, rl, sq⟩ := (so.at_ l lk _ a e1 ea').lst_rd
      obtain ⟨ys, rl2, sq2⟩ := (so.at_ k lk2 _ b e2 eb').lst_rd
      refine ⟨xs, ys, sq, sq2, ?_⟩
      rw [rl.length, rl2.length]
      exact pairAt_none (Option.some.inj e)
    · cases e
theorem SrcOk.zipT {a b : Addr} {ds es : List D} {xs ys : List V} (sq : SqT K H a xs) (rl : RpL K mg m H ds xs) (sq2 : SqT K H b ys) (rl2 : RpL K mg m H es ys) : SrcOk K mg m H (fun i _ => some (pairAt ds es i)) (RZ.ItzT K a b) := fun i m' H' st' pm p so => by
  have sq := p.sqT sq
  have sq2 := p.sqT sq2
  have rl := RpL.mono pm p _ _ rl
  have rl2 := RpL.mono pm p _ _ rl2
  refine ⟨fun d e => ?_, fun e => ?_⟩
  · obtain ⟨d1, d2, g1, g2, rfl⟩ := pairAt_some (Option.some.inj e)
    obtain ⟨x, ex, rx⟩ := rl.get g1
    obtain ⟨y, ey, ry⟩ := rl2.get g2
    refine ⟨⟨xs, ys, x, y, sq, sq2, ex, ey⟩, fun z H2 hz => ?_⟩
    obtain ⟨T, x2, y2, rfl, hT, rfl, hx2, hy2⟩ := hz
    have q1 := hx2 xs sq
    have q2 := hy2 ys sq2
    rw [ex] at q1
    rw [ey] at q2
    cases q1; cases q2
    exact ⟨(pers_tup hT so).1, (pers_tup hT so).2, rp_pair hT rx ry⟩
  · refine ⟨xs, ys, sq, sq2, ?_⟩
    rw [rl.length, rl2.length]
    exact pairAt_none (Option.some.inj e)
end

/-! ### what is walked, by its expression -/
def evSrc (f : Ev D) : Ev Src := fun env st => (f env st).bind fun d st1 => .ofOpt ((srcD st1 d).map fun g => (g, st1))
def evEn (f : Ev (List D)) : Ev Src := fun env st => (f env st).bind fun ds st1 => match ds with
  | [d] => .ofOpt ((srcEn st1 d).map fun g => (g, st1))
  | _ => .stuck
def evZp (f : Ev (List D)) : Ev Src := fun env st => (f env st).bind fun ds st1 => match ds with
  | [d, e] => .ofOpt ((srcZp st1 d e).map fun g => (g, st1))
  | _ => .stuck
def evRg1 (f : Ev (List D)) : Ev Src := fun env st => (f env st).bind fun ds st1 => match ds with
  | [.int j] => .ofOpt ((srcRg [.int j]).map fun g => (g, st1))
  | _ => .stuck
def evRg2 (f : Ev (List D)) : Ev Src := fun env st => (f env st).bind fun ds st1 => match ds with
  | [.int i, .int j] => .ofOpt ((srcRg [.int i, .int j]).map fun g => (g, st1))
  | _ => .stuck
section
variable {X : Cx} {tg : Expr} {W : WX}
theorem PI.weak {e : Expr} {t t' : TI} (h : PI X tg e t) (i : ∀ σ H R, t' σ H R → t σ H R) : PI X tg e t' := ⟨fun pins s σ H R I q => h.run pins s σ H R I (i σ H R q)⟩
theorem Out.src {m : List Addr} {H : Hp} {st : Store} {g : Src} {J : It} {R : It → Hp → Prop} (h : Out X.K X.mg (SrcOk X.K X.mg) m H (some (g, st)) R) (so : StOk X.K X.mg m H st) (s : SrcOk X.K X.mg m H g J) : R J H :=
  h m H J (Pre.refl m) (Pers.refl H) so s
/-- a value walked -/
theorem walk_value {pins : List (Addr × Obj)} {s : Shared} {σ : L2.St} {m : List Addr} {H : Hp} {st : Store} {d : D} {x : V} {v : Value} {R : It → Hp → Prop} (I : Inv X pins σ H s) (so : StOk X.K X.mg m H st) (rd : Rp X.K X.mg m H d x) (rv : RelV x v)
    (o : Out X.K X.mg (SrcOk X.K X.mg) m H ((srcD st d).map fun g => (g, st)) R) : wpAny (model X.prog X.w) X.A (pyIter v) (PIE X pins σ tg R) X.xe s := by
  have lst : ∀ {a : Addr} {ys : List V}, SqL X.K H a ys → R (Itl X.K a) H → wpAny (model X.prog X.w) X.A (pyIter (.ref a)) (PIE X pins σ tg R) X.xe s := fun {a ys} sq q => by
    obtain ⟨its, _, p, _⟩ := I.list sq
    exact wpAny_pyIter_list p.isList (pi_one (tk := s.toks) I _ (turn_list a _) ⟨_, Heap.get?_push_size _ rfl, rfl, rfl⟩ q)
  cases d with
  | tup k ds =>
    obtain ⟨a, ys, rfl, ta, rl⟩ := rd
    cases rv
    obtain ⟨its, _, p, _⟩ := I.tuple ta.sq
    exact wpAny_pyIter_tuple (show s.heap.IsTuple a its.toArray from p) (pi_one (tk := s.toks) I _ (turn_tuple a _) ⟨_, Heap.get?_push_size _ rfl, rfl, rfl⟩ (o.src so (.tup ta.sq rl)))
  | str z =>
    cases rd
    obtain ⟨t, rfl⟩ := rv
    have q : R (Its z) H := o.src so .str
    by_cases ha : z.cps.all (· < 128) = true
    · exact wpAny_pyIter_ascii ha (pi_one (tk := s.toks) I _ (turn_str _ z t _ (.inl rfl)) ⟨_, Heap.get?_push_size _ rfl, rfl, rfl⟩ q)
    · exact wpAny_pyIter_wide (Bool.eq_false_iff.mpr ha) (pi_one (tk := s.toks) I _ (turn_str _ z t _ (.inr rfl)) ⟨_, Heap.get?_push_size _ rfl, rfl, rfl⟩ q)
  | ref l =>
    obtain ⟨a, rfl, em⟩ := rd
    cases rv
    simp only [srcD] at o
    split at o
    · rename_i lk ds e
      obtain ⟨ys, _, sq⟩ := (so.at_ l lk _ a e em).lst_rd
      exact lst sq (o.src so (.lst em))
    · rename_i kvs e
      rcases so.at_ l _ _ a e em with ⟨kv', r, ob, c⟩ | ⟨kv', r, ob, c⟩
      · obtain ⟨k1, k2, k3, es, ep, vs, k4, k5, _, _⟩ := I.frzK c
        exact iter_keys k1 k2 k3 k4 (pi_one (tk := s.toks) I _ (turn_keys _ k4) ⟨_, Heap.get?_push_size _ rfl, rfl, by rw [k5] <;> rfl⟩ (o.src so (.keysK r c)))
      · obtain ⟨k1, k2, k3, es, ep, k4, k5, k6⟩ := I.frzT c
        exact iter_keys k1 k2 k3 k4 (pi_one (tk := s.toks) I _ (turn_keysT _ k4) ⟨_, Heap.get?_push_size _ rfl, rfl, by rw [k5] <;> rfl⟩ (o.src so (.keysT r c)))
    · exact o.elim
  | _ => exact o.elim
theorem pi_src {e : Expr} {f : Ev D} (he : PE X e (rdE X.K X.mg W f)) : PI X tg e (rdI X.K X.mg W (evSrc f)) := ⟨fun pins s σ H R I h => by
  obtain ⟨m, env, st, ho, so, h⟩ := h
  refine thn (he.run pins s σ H _ I ⟨m, env, st, ho, so, Fin.bind (R := Rp X.K X.mg) h⟩) fun v s1 hv => ?_
  obtain ⟨x, H1, I1, r1, m1, st1, d, _, _, s2, r2, h1⟩ := hv
  exact walk_value I1 s2 r2 r1 h1.out⟩
theorem pi_rg1 {a : Expr} {p pos : Pos} {f : Ev (List D)} (hg : Gl X "range") (hm : X.mg "range" = none) (ha : PA X [a] (rdA X.K X.mg W f)) (hs : starEach [a] X.env = [(false, eval a X.env)] := by rfl) :
    PI X tg (.Call (.Name "range" p) [a] [] pos) (rdI X.K X.mg W (evRg1 f)) := PI.weak (pi_range1 hg hm ha hs) fun σ H R h => by
  obtain ⟨m, env, st, ho, so, h⟩ := h
  refine ⟨m, env, st, ho, so, (Fin.bind (R := RpL X.K X.mg) h).imp fun vs H1 _ hv => ?_⟩
  obtain ⟨m1, st1, ds, _, _, s2, r2, h1⟩ := hv
  split at h1
  · rename_i j
    replace h1 := h1.out
    obtain ⟨v, rfl, rfl⟩ := r2.one
    simp only [srcRg] at h1
    split at h1
    · rename_i hj
      obtain ⟨h2, h3⟩ := of_decide_eq_true hj
      exact ⟨j, rfl, h2, h3, h1.src s2 .rng⟩
    · exact h1.elim
  · exact h1.elim
theorem pi_rg2 {a b : Expr} {p pos : Pos} {f : Ev (List D)} (hg : Gl X "range") (hm : X.mg "range" = none) (ha : PA X [a, b] (rdA X.K X.mg W f)) (hs : starEach [a, b] X.env = [(false, eval a X.env), (false, eval b X.env)] := by rfl) (hs2 : starEach [b] X.env = [(false, eval b X.env)] := by rfl) :
    PI X tg (.Call (.Name "range" p) [a, b] [] pos) (rdI X.K X.mg W (evRg2 f)) := PI.weak (pi_range2 hg hm ha hs hs2) fun σ H R h => by
  obtain ⟨m, env, st, ho, so, h⟩ := h
  refine ⟨m, env, st, ho, so, (Fin.bind (R := RpL X.K X.mg) h).imp fun vs H1 _ hv => ?_⟩
  obtain ⟨m1, st1, ds, _, _, s2, r2, h1⟩ := hv
  split at h1
  · rename_i i j
    replace h1 := h1.out
    obtain ⟨v, w, rfl, rfl, rfl⟩ := r2.two
    simp only [srcRg] at h1
    split at h1
    · rename_i hj
      obtain ⟨h2, h3⟩ := of_decide_eq_true hj.1
      obtain ⟨h4, h5⟩ := of_decide_eq_true hj.2
      exact ⟨i, j, rfl, ⟨h2, h3, h4, h5⟩, h1.src s2 .rng⟩
    · exact h1.elim
  · exact h1.elim
theorem pi_en {e : Expr} {p pos tpos : Pos} {elts : List Expr} {kk : Nat} {f : Ev (List D)} (hg : Gl X "enumerate") (hm : X.mg "enumerate" = none) (ha : PA X [e] (rdA X.K X.mg W f)) (hs : starEach [e] X.env = [(false, eval e X.env)] := by rfl) :
    PI X (.Tuple elts kk tpos) (.Call (.Name "enumerate" p) [e] [] pos) (rdI X.K X.mg W (evEn f)) := PI.weak (pi_enum hg hm ha hs) fun σ H R h => by
  obtain ⟨m, env, st, ho, so, h⟩ := h
  refine ⟨m, env, st, ho, so, (Fin.bind (R := RpL X.K X.mg) h).imp fun vs H1 _ hv => ?_⟩
  obtain ⟨m1, st1, ds, _, _, s2, r2, h1⟩ := hv
  split at h1
  · rename_i d
    replace h1 := h1.out
    obtain ⟨v, rfl, rv⟩ := r2.one
    cases d with
    | ref l =>
      obtain ⟨a, rfl, em⟩ := rv
      simp only [srcEn] at h1
      split at h1
      · rename_i lk ds e
        obtain ⟨ys, _, sq⟩ := (s2.at_ l lk _ a e em).lst_rd
        exact ⟨a, ys, rfl, sq, h1.src s2 (.enum em)⟩
      · exact h1.elim
    | _ => exact h1.elim
  · exact h1.elim
theorem pi_zp {e e2 : Expr} {p pos tpos : Pos} {elts : List Expr} {kk : Nat} {f : Ev (List D)} (hg : Gl X "zip") (hm : X.mg "zip" = none) (ha : PA X [e, e2] (rdA X.K X.mg W f))
    (hs : starEach [e, e2] X.env = (false, eval e X.env) :: starEach [e2] X.env := by rfl) (hpl : (backTo pos (starEach [e2] X.env)).any (·.1) = false := by rfl) :
    PI X (.Tuple elts kk tpos) (.Call (.Name "zip" p) [e, e2] [] pos) (rdI X.K X.mg W (evZp f)) := PI.weak (RZ.pi_zipA hg hm ha hs hpl) fun σ H R h => by
  obtain ⟨m, env, st, ho, so, h⟩ := h
  refine ⟨m, env, st, ho, so, (Fin.bind (R := RpL X.K X.mg) h).imp fun vs H1 _ hv => ?_⟩
  obtain ⟨m1, st1, ds, _, _, s2, r2, h1⟩ := hv
  split at h1
  · rename_i d e
    replace h1 := h1.out
    obtain ⟨v, w, rfl, rv, rw'⟩ := r2.two
    unfold srcZp at h1
    split at h1
    · rename_i l k
      obtain ⟨a, rfl, ea⟩ := rv
      obtain ⟨b, rfl, eb⟩ := rw'
      split at h1
      · rename_i lk ds lk2 es e1 e2
        obtain ⟨xs, _, sq⟩ := (s2.at_ l lk _ a e1 ea).lst_rd
        obtain ⟨ys, _, sq2⟩ := (s2.at_ k lk2 _ b e2 eb).lst_rd
        exact ⟨a, b, xs, ys, rfl, .inl ⟨sq, sq2, h1.src s2 (.zipL ea eb)⟩⟩
      · exact h1.elim
    · obtain ⟨a, xs, rfl, ta, ra⟩ := rv
      obtain ⟨b, ys, rfl, tb, rb⟩ := rw'
      exact ⟨a, b, xs, ys, rfl, .inr ⟨ta.sq, tb.sq, h1.src s2 (.zipT ta.sq ra tb.sq rb)⟩⟩
    · exact h1.elim
  · exact h1.elim
end
end PP
set_option Elab.async false
set_option linter.all false
set_option maxRecDepth 100000
set_option maxHeartbeats 2000000
/-! PP8: names, constants, truth, displays, calls, methods. -/
namespace PP
open PySem PySem.Spec PyProof.Rows L2
variable [Tbl]

def evVar (i : Nat) : Ev D := fun env st => match env[i]? with
  | some (some d) => .ok d st
  | _ => .stuck
def evC (d : D) : Ev D := fun _ st => .ok d st
def asB : D → Option Bool
  | .bl b => some b
  | _ => none
/-- a comparison as a test -/
def evTB (f : Ev D) : Ev Bool := fun env st => (f env st).bind fun d st1 => .ofOpt ((asB d).map fun b => (b, st1))
def evNot (f : Ev D) : Ev D := fun env st => (f env st).bind fun d st1 => .ofOpt ((truD d st1).map fun p => (.bl (!p.1), p.2))
def evAnd (f g : Ev D) : Ev D := fun env st => (f env st).bind fun d st1 => match truD d st1 with
  | some (b, st2) => if b = true then g env st2 else .ok d st2
  | none => .stuck
def evOr (f g : Ev D) : Ev D := fun env st => (f env st).bind fun d st1 => match truD d st1 with
  | some (b, st2) => if b = true then .ok d st2 else g env st2
  | none => .stuck
def evIf {α : Type} (c : Ev Bool) (f g : Ev α) : Ev α := fun env st => (c env st).bind fun b st1 => if b = true then f env st1 else g env st1
def tyes : Ev Bool := fun _ st => .ok true st
def tnot (c : Ev Bool) : Ev Bool := fun env st => (c env st).bind fun b st1 => .ok (!b) st1
def tand (c e : Ev Bool) : Ev Bool := fun env st => (c env st).bind fun b st1 => if b = true then e env st1 else .ok false st1
def tor (c e : Ev Bool) : Ev Bool := fun env st => (c env st).bind fun b st1 => if b = true then .ok true st1 else e env st1
/-- a op b op' c -/
def evChain (f g : Op2) (a b c : Ev D) : Ev D := fun env st => (a env st).bind fun x st1 => (b env st1).bind fun y st2 => (Res.ofOpt (f x y st2)).bind fun z st3 => match asB z with
  | some true => (c env st3).bind fun w st4 => .ofOpt (g y w st4)
  | some false => .ok (.bl false) st3
  | none => .stuck
def mkTup : OpL := fun ds st => if ds.length ≤ sizeLine then some (.tup false ds, st) else none
def mkLst : OpL := fun ds st => if ds.length ≤ sizeLine then newL ds st else none
def mkDct : Ev D := fun _ st => .ok (.ref st.length) (st ++ [(false, .dct [])])

section
variable {X : Cx} {W : WX} {a b c : Expr} {pos : Pos} {fa fb fc : Ev D}
theorem pe_evVar {i : Nat} {x : Str} (hN : X.N[i]? = some x) (hv : Vis X.env.scope x) (hd : (x == ("__debug__" : Str)) = false := by decide) (hcd : (x == ("__classdict__" : Str)) = false := by decide) : PE X (.Name x pos) (rdE X.K X.mg W (evVar i)) :=
  PE.weak (pe_var hN hv hd hcd) fun σ H Q h => by
    obtain ⟨m, env, st, ho, so, h⟩ := h
    unfold evVar at h
    split at h
    · rename_i d e
      obtain ⟨v, ev, r⟩ := ho.at_ i d e
      exact ⟨v, ev, h m H v (Pre.refl m) (Pers.refl H) so r⟩
    · exact h.elim
theorem rd_const {d : D} {v : V} (hr : ∀ m H, Rp X.K X.mg m H d v) {e : Expr} (h : PE X e (tC v)) : PE X e (rdE X.K X.mg W (evC d)) := PE.weak h fun σ H Q h => by
  obtain ⟨m, env, st, ho, so, h⟩ := h
  exact h m H v (Pre.refl m) (Pers.refl H) so (hr m H)
theorem pe_evInt {i : Int} {j} : PE X (.Constant (.int i) j pos) (rdE X.K X.mg W (evC (.int i))) := rd_const (X := X) (d := .int i) (v := .int i) (fun _ _ => rfl) pe_int
theorem pe_evBl {i : Bool} {j} : PE X (.Constant (.bool i) j pos) (rdE X.K X.mg W (evC (.bl i))) := rd_const (X := X) (d := .bl i) (v := .bl i) (fun _ _ => rfl) pe_bl
theorem pe_evNon {j} : PE X (.Constant .none j pos) (rdE X.K X.mg W (evC .non)) := rd_const (X := X) (d := .non) (v := .non) (fun _ _ => rfl) pe_non
theorem pe_evStr {i : Str} {j} : PE X (.Constant (.str i) j pos) (rdE X.K X.mg W (evC (.str i))) := rd_const (X := X) (d := .str i) (v := .str i) (fun _ _ => rfl) pe_str
/-- a built-in type as a value -/
theorem pe_evTy {x : Str} {n : String} (hg : Gl X x) (hm : X.mg x = none) (hv : bootBuiltins x = some (.type n)) (hn : x ≠ "__name__" := by decide) (hd : (x == ("__debug__" : Str)) = false := by decide) : PE X (.Name x pos) (rdE X.K X.mg W (evC (.ty n))) :=
  rd_const (X := X) (d := .ty n) (v := .ty n) (fun _ _ => rfl) (pe_bltn (v := .ty n) hg hm hv rfl hn hd)
/-- a text of the top -/
theorem pe_evGStr {x : Str} {z : Str} {t : Tok} (hg : Gl X x) (hm : X.mg x = some (.str z t)) (hd : (x == ("__debug__" : Str)) = false := by decide) : PE X (.Name x pos) (rdE X.K X.mg W (evC (.str z))) :=
  rd_const (X := X) (d := .str z) (v := .str z) (fun _ _ => rfl) (pe_glob (v := .str z) hg hm ⟨t, rfl⟩ hd)
theorem pt_evTB (h : ∀ {t : TE}, PE X a t → PT X a (tTest t)) (ha : PE X a (rdE X.K X.mg W fa)) : PT X a (rdT X.K X.mg W (evTB fa)) := PT.weak (h ha) fun σ H Q h => by
  obtain ⟨m, env, st, ho, so, h⟩ := h
  refine ⟨m, env, st, ho, so, (Fin.bind (R := Rp X.K X.mg) h).imp fun v H1 _ hv => ?_⟩
  obtain ⟨m1, st1, d, _, _, s1, r1, h1⟩ := hv
  cases d with
  | bl k => cases r1; exact ⟨k, rfl, (h1.out) m1 H1 k (Pre.refl _) (Pers.refl _) s1 rfl⟩
  | _ => exact h1.elim
/-- a comparison as a test -/
theorem pt_cmp2 {op : CmpOp} {f : Op2} (ho : OpR X (compareOp op) (rdOp2 X.K X.mg f)) (ha : PE X a (rdE X.K X.mg W fa)) (hb : PE X b (rdE X.K X.mg W fb)) (hm : behindInMarks op b = false) : PT X (.Compare a [op] [b] pos) (rdT X.K X.mg W (evTB (ev2 f fa fb))) :=
  PT.weak (pt_cmpR ho ha hb hm) fun σ H Q h => by
    have h2 : rdE X.K X.mg W (ev2 f fa fb) σ H (fun x H' => ∃ k, x = .bl k ∧ Q k H') := by
      obtain ⟨m, env, st, ho, so, h⟩ := h
      refine ⟨m, env, st, ho, so, (Fin.bind (R := Rp X.K X.mg) h).imp fun v H1 _ hv => ?_⟩
      obtain ⟨m1, st1, d, _, _, s1, r1, h1⟩ := hv
      cases d with
      | bl k => cases r1; exact ⟨k, rfl, (h1.out) m1 H1 k (Pre.refl _) (Pers.refl _) s1 rfl⟩
      | _ => exact h1.elim
    exact rd2 h2
theorem rd_chain {f g : Op2} {σ : L2.St} {H : Hp} {Q : VK} (h : rdE X.K X.mg W (evChain f g fa fb fc) σ H Q) : tChain (rdOp2 X.K X.mg f) (rdOp2 X.K X.mg g) (rdE X.K X.mg W fa) (rdE X.K X.mg W fb) (rdE X.K X.mg W fc) σ H Q := by
  obtain ⟨m, env, st, ho, so, h⟩ := h
  refine ⟨m, env, st, ho, so, (Fin.bind (R := Rp X.K X.mg) h).imp fun x H1 p1 hv => ?_⟩
  obtain ⟨m1, st1, d, pm1, _, s1, r1, h1⟩ := hv
  refine ⟨m1, env, st1, ho.mono pm1 p1, s1, (Fin.bind (R := Rp X.K X.mg) h1).imp fun y H2 p2 hv => ?_⟩
  obtain ⟨m2, st2, e, pm2, _, s2, r2, h2⟩ := hv
  refine ⟨m2, st2, d, e, s2, Rp.mono pm2 p2 _ _ r1, r2, ?_⟩
  have h3 := (Fin.bind (R := Rp X.K X.mg) h2).out
  cases ef : f d e st2 with
  | none => rw [ef] at h3; exact h3.elim
  | some q =>
    obtain ⟨z, st3⟩ := q
    rw [ef] at h3
    intro m3 H3 zv pm3 p3 s3 r3
    obtain ⟨m4, st4, z4, pm4, p4, s4, r4, h4⟩ := h3 m3 H3 zv pm3 p3 s3 r3
    cases z4 with
    | bl k =>
      cases r4
      refine ⟨k, rfl, ?_⟩
      cases k with
      | false => exact h4 m4 H3 _ (Pre.refl _) (Pers.refl _) s4 rfl
      | true =>
        refine ⟨m4, env, st4, ((ho.mono pm1 p1).mono pm2 p2).mono pm4 p3, s4, (Fin.bind (R := Rp X.K X.mg) h4).imp fun w H5 p5 hv => ?_⟩
        obtain ⟨m5, st5, d5, pm5, _, s5, r5, h5⟩ := hv
        exact ⟨m5, st5, e, d5, s5, Rp.mono pm5 p5 _ _ (Rp.mono pm4 p3 _ _ r2), r5, h5.out⟩
    | _ => exact h4.elim
theorem pe_evChain {op op' : CmpOp} {f g : Op2} (ho : OpR X (compareOp op) (rdOp2 X.K X.mg f)) (ho' : OpR X (compareOp op') (rdOp2 X.K X.mg g)) (ha : PE X a (rdE X.K X.mg W fa)) (hb : PE X b (rdE X.K X.mg W fb)) (hc : PE X c (rdE X.K X.mg W fc))
    (hm : lastMarks [op, op'] [b, c] = false := by with_unfolding_all rfl) : PE X (.Compare a [op, op'] [b, c] pos) (rdE X.K X.mg W (evChain f g fa fb fc)) := PE.weak (pe_chain ho ho' ha hb hc hm) fun _ _ _ h => rd_chain h
theorem pt_evChain {op op' : CmpOp} {f g : Op2} (ho : OpR X (compareOp op) (rdOp2 X.K X.mg f)) (ho' : OpR X (compareOp op') (rdOp2 X.K X.mg g)) (ha : PE X a (rdE X.K X.mg W fa)) (hb : PE X b (rdE X.K X.mg W fb)) (hc : PE X c (rdE X.K X.mg W fc))
    (hm : lastMarks [op, op'] [b, c] = false := by with_unfolding_all rfl) : PT X (.Compare a [op, op'] [b, c] pos) (rdT X.K X.mg W (evTB (evChain f g fa fb fc))) := PT.weak (pt_chain ho ho' ha hb hc hm) fun σ H Q h => by
  refine rd_chain ?_
  obtain ⟨m, env, st, ho, so, h⟩ := h
  refine ⟨m, env, st, ho, so, (Fin.bind (R := Rp X.K X.mg) h).imp fun v H1 _ hv => ?_⟩
  obtain ⟨m1, st1, d, _, _, s1, r1, h1⟩ := hv
  cases d with
  | bl k => cases r1; exact ⟨k, rfl, (h1.out) m1 H1 k (Pre.refl _) (Pers.refl _) s1 rfl⟩
  | _ => exact h1.elim
/-- an expression's value and its truth -/
theorem truth_run {m : List Addr} {H1 : Hp} {pins : List (Addr × Obj)} {σ : L2.St} {s1 : Shared} {x : V} {v : Value} {d : D} {st1 : Store} {Q : Bool → Shared → Prop} (I1 : Inv X pins σ H1 s1) (r1 : RelV x v) (s2 : StOk X.K X.mg m H1 st1) (rd : Rp X.K X.mg m H1 d x) {b : Bool} {st2 : Store} (e : truD d st1 = some (b, st2))
    (h : ∀ m' H' s', Pre m m' → Pers H1 H' → StOk X.K X.mg m' H' st2 → Inv X pins σ H' s' → Q b s') : wpAny (model X.prog X.w) X.A (truthy v) Q X.xe s1 := by
  refine thn (tru_truD pins s1 σ H1 x v (fun c H' => c = b ∧ ∃ m', Pre m m' ∧ Pers H1 H' ∧ StOk X.K X.mg m' H' st2) I1 r1 ⟨m, st1, d, s2, rd, ?_⟩) fun c s' hc => ?_
  · rw [e]
    exact fun m' H' c a1 a2 a3 a4 => ⟨(show b = c from a4).symm, m', a1, a2, a3⟩
  · obtain ⟨H', I', rfl, m', a1, a2, a3⟩ := hc
    exact h m' H' s' a1 a2 a3 I'
theorem pe_evNot (ha : PE X a (rdE X.K X.mg W fa)) : PE X (.UnaryOp .Not a pos) (rdE X.K X.mg W (evNot fa)) := ⟨fun pins s σ H Q I h => by
  obtain ⟨m, env, st, ho, so, h⟩ := h
  refine UnaryOp_ (thn (ha.run pins s σ H _ I ⟨m, env, st, ho, so, Fin.bind (R := Rp X.K X.mg) h⟩) fun v s1 hv => ?_)
  obtain ⟨x, H1, I1, r1, m1, st1, d, pm, p, s2, r2, h1⟩ := hv
  cases e : truD d st1 with
  | none => rw [e] at h1; exact h1.elim
  | some q =>
    obtain ⟨bb, st2⟩ := q
    rw [e] at h1
    exact not_of (truth_run I1 r1 s2 r2 e fun m' H' s' a1 a2 a3 I' => ⟨.bl (!bb), H', I', rfl, h1 m' H' _ a1 a2 a3 rfl⟩)⟩
theorem pe_evAnd {rest : List Expr} (ha : PE X a (rdE X.K X.mg W fa)) (hb : PE X (.BoolOp .And (b :: rest) pos) (rdE X.K X.mg W fb)) : PE X (.BoolOp .And (a :: b :: rest) pos) (rdE X.K X.mg W (evAnd fa fb)) := ⟨fun pins s σ H Q I h => by
  obtain ⟨m, env, st, ho, so, h⟩ := h
  refine BoolOp_and (thn (ha.run pins s σ H _ I ⟨m, env, st, ho, so, (Fin.bind (R := Rp X.K X.mg) h).imp fun v H1 p1 q => And.intro p1 q⟩) fun v s1 hv => ?_)
  obtain ⟨x, H1, I1, r1, p1, m1, st1, d, pm, p, s2, r2, h1⟩ := hv
  cases e : truD d st1 with
  | none => rw [e] at h1; exact h1.elim
  | some q =>
    obtain ⟨bb, st2⟩ := q
    rw [e] at h1
    refine truth_run I1 r1 s2 r2 e fun m' H' s' a1 a2 a3 I' => ?_
    cases bb with
    | true => exact hb.run pins s' σ H' Q I' ⟨m', env, st2, (ho.mono pm p1).mono a1 a2, a3, Fin.mono a1 a2 h1⟩
    | false => exact ⟨x, H', I', r1, h1 m' H' x a1 a2 a3 (Rp.mono a1 a2 _ _ r2)⟩⟩
theorem pe_evOr {rest : List Expr} (ha : PE X a (rdE X.K X.mg W fa)) (hb : PE X (.BoolOp .Or (b :: rest) pos) (rdE X.K X.mg W fb)) : PE X (.BoolOp .Or (a :: b :: rest) pos) (rdE X.K X.mg W (evOr fa fb)) := ⟨fun pins s σ H Q I h => by
  obtain ⟨m, env, st, ho, so, h⟩ := h
  refine BoolOp_or (thn (ha.run pins s σ H _ I ⟨m, env, st, ho, so, (Fin.bind (R := Rp X.K X.mg) h).imp fun v H1 p1 q => And.intro p1 q⟩) fun v s1 hv => ?_)
  obtain ⟨x, H1, I1, r1, p1, m1, st1, d, pm, p, s2, r2, h1⟩ := hv
  cases e : truD d st1 with
  | none => rw [e] at h1; exact h1.elim
  | some q =>
    obtain ⟨bb, st2⟩ := q
    rw [e] at h1
    refine truth_run I1 r1 s2 r2 e fun m' H' s' a1 a2 a3 I' => ?_
    cases bb with
    | false => exact hb.run pins s' σ H' Q I' ⟨m', env, st2, (ho.mono pm p1).mono a1 a2, a3, Fin.mono a1 a2 h1⟩
    | true => exact ⟨x, H', I', r1, h1 m' H' x a1 a2 a3 (Rp.mono a1 a2 _ _ r2)⟩⟩
theorem rd_if {β : Type} {α : Type} {R : RL α β} {c : Ev Bool} {f g : Ev α} {σ : L2.St} {H : Hp} {Q : β → Hp → Prop} (h : rdG X.K X.mg R W (evIf c f g) σ H Q) : rdT X.K X.mg W c σ H (fun b H1 => if b = true then rdG X.K X.mg R W f σ H1 Q else rdG X.K X.mg R W g σ H1 Q) := by
  obtain ⟨m, env, st, ho, so, h⟩ := h
  refine ⟨m, env, st, ho, so, (Fin.bind (R := rEq Bool) h).imp fun b H1 p1 hv => ?_⟩
  obtain ⟨m1, st1, b1, pm, _, s1, r1, h1⟩ := hv
  cases (show b1 = b from r1)
  cases b with
  | true => exact ⟨m1, env, st1, ho.mono pm p1, s1, h1⟩
  | false => exact ⟨m1, env, st1, ho.mono pm p1, s1, h1⟩
variable {ta tb : Ev Bool}
theorem pe_evIf {e : Expr} (hc : PT X e (rdT X.K X.mg W ta)) (ha : PE X a (rdE X.K X.mg W fa)) (hb : PE X b (rdE X.K X.mg W fb)) : PE X (.IfExp e a b pos) (rdE X.K X.mg W (evIf ta fa fb)) := PE.weak (pe_ifExp hc ha hb) fun _ _ _ h => rd_if h
theorem pt_tnot (ha : PT X a (rdT X.K X.mg W ta)) : PT X (.UnaryOp .Not a pos) (rdT X.K X.mg W (tnot ta)) := PT.weak (pt_not ha) fun σ H Q h => by
  obtain ⟨m, env, st, ho, so, h⟩ := h
  refine ⟨m, env, st, ho, so, (Fin.bind (R := rEq Bool) h).imp fun b H1 p1 hv => ?_⟩
  obtain ⟨m1, st1, b1, pm, _, s1, r1, h1⟩ := hv
  cases (show b1 = b from r1)
  exact h1 m1 H1 _ (Pre.refl _) (Pers.refl _) s1 rfl
theorem rd_and {σ : L2.St} {H : Hp} {Q : Bool → Hp → Prop} (h : rdT X.K X.mg W (tand ta tb) σ H Q) : tAnd (rdT X.K X.mg W ta) (rdT X.K X.mg W tb) σ H Q := by
  obtain ⟨m, env, st, ho, so, h⟩ := h
  refine ⟨m, env, st, ho, so, (Fin.bind (R := rEq Bool) h).imp fun b H1 p1 hv => ?_⟩
  obtain ⟨m1, st1, b1, pm, _, s1, r1, h1⟩ := hv
  cases (show b1 = b from r1)
  cases b with
  | true => exact ⟨m1, env, st1, ho.mono pm p1, s1, h1⟩
  | false => exact h1 m1 H1 _ (Pre.refl _) (Pers.refl _) s1 rfl
theorem rd_or {σ : L2.St} {H : Hp} {Q : Bool → Hp → Prop} (h : rdT X.K X.mg W (tor ta tb) σ H Q) : tOr (rdT X.K X.mg W ta) (rdT X.K X.mg W tb) σ H Q := by
  obtain ⟨m, env, st, ho, so, h⟩ := h
  refine ⟨m, env, st, ho, so, (Fin.bind (R := rEq Bool) h).imp fun b H1 p1 hv => ?_⟩
  obtain ⟨m1, st1, b1, pm, _, s1, r1, h1⟩ := hv
  cases (show b1 = b from r1)
  cases b with
  | false => exact ⟨m1, env, st1, ho.mono pm p1, s1, h1⟩
  | true => exact h1 m1 H1 _ (Pre.refl _) (Pers.refl _) s1 rfl
theorem PW.weak {e : Expr} {t t' : TT} (h : PW X e t) (i : ∀ σ H Q, t' σ H Q → t σ H Q) : PW X e t' := ⟨fun wh pins s σ H Q I q => h.run wh pins s σ H Q I (i σ H Q q)⟩
theorem pw_tand {rest : List Expr} (ha : PT X a (rdT X.K X.mg W ta)) (hb : PW X (.BoolOp .And (b :: rest) pos) (rdT X.K X.mg W tb)) : PW X (.BoolOp .And (a :: b :: rest) pos) (rdT X.K X.mg W (tand ta tb)) := PW.weak (pw_and ha hb) fun _ _ _ h => rd_and h
theorem pw_tor {rest : List Expr} (ha : PT X a (rdT X.K X.mg W ta)) (hb : PW X (.BoolOp .Or (b :: rest) pos) (rdT X.K X.mg W tb)) : PW X (.BoolOp .Or (a :: b :: rest) pos) (rdT X.K X.mg W (tor ta tb)) := PW.weak (pw_or ha hb) fun _ _ _ h => rd_or h

/-! ### displays, calls -/
variable {es : List Expr} {fl : Ev (List D)}
theorem pa_evNil : PA X [] (rdA X.K X.mg W evNil) := PA.weak pa_nil fun _ _ _ h => rdNil h
theorem PA.cons' {e : Expr} {f : Ev D} (h1 : PE X e (rdE X.K X.mg W f)) (h2 : PA X es (rdA X.K X.mg W fl)) (hs : starEach (e :: es) X.env = (false, eval e X.env) :: starEach es X.env := by rfl) : PA X (e :: es) (rdA X.K X.mg W (evCons f fl)) := PA.weak (pa_cons h1 h2 hs) fun _ _ _ h => rdCons h
theorem pe_evTup {k} (h : PA X es (rdA X.K X.mg W fl)) : PE X (.Tuple es k pos) (rdE X.K X.mg W (evL mkTup fl)) := PE.weak (pe_tup h) fun σ H Q h => by
  obtain ⟨m, env, st, ho, so, h⟩ := h
  refine ⟨m, env, st, ho, so, (Fin.bind (R := RpL X.K X.mg) h).imp fun vs H1 _ hv => ?_⟩
  obtain ⟨m1, st1, ds, _, _, s1, r1, h1⟩ := hv
  replace h1 := h1.out
  unfold mkTup at h1
  split at h1
  · rename_i hl
    exact ⟨by rw [r1.length]; exact hl, fun p hp => h1.tup s1 r1 hp⟩
  · exact h1.elim
theorem pe_evLst (h : PA X es (rdA X.K X.mg W fl)) : PE X (.List es pos) (rdE X.K X.mg W (evL mkLst fl)) := PE.weak (pe_lst h) fun σ H Q h => by
  obtain ⟨m, env, st, ho, so, h⟩ := h
  refine ⟨m, env, st, ho, so, (Fin.bind (R := RpL X.K X.mg) h).imp fun vs H1 _ hv => ?_⟩
  obtain ⟨m1, st1, ds, _, _, s1, r1, h1⟩ := hv
  replace h1 := h1.out
  unfold mkLst at h1
  split at h1
  · rename_i hl
    exact ⟨by rw [r1.length]; exact hl, fun p hp => h1.lst s1 r1 hp⟩
  · exact h1.elim
theorem pe_evDct : PE X (.Dict [] [] pos) (rdE X.K X.mg W mkDct) := PE.weak pe_dnewK fun σ H Q h => by
  obtain ⟨m, env, st, ho, so, h⟩ := h
  exact fun p hp => Out.dctK (Q := Q) h so .nil hp
variable {x : Str} {e : Expr} {p : Pos} {id T : String} {f : OpL}
theorem pe_evB (hc : CallR X (.builtin id) (rdOpL X.K X.mg f)) (hg : Gl X x) (hm : X.mg x = none) (hv : bootBuiltins x = some (.builtin id)) (ha : PA X (e :: es) (rdA X.K X.mg W fl)) (hn : x ≠ "__name__" := by decide) (hdb : (x == ("__debug__" : Str)) = false := by decide)
    (he : starEach (e :: es) X.env = (false, eval e X.env) :: starEach es X.env := by rfl) (hpl : (backTo pos (starEach es X.env)).any (·.1) = false := by rfl) : PE X (.Call (.Name x p) (e :: es) [] pos) (rdE X.K X.mg W (evL f fl)) :=
  PE.weak (pe_callB hc hg hm hv ha hn hdb he hpl) fun _ _ _ h => rdL h
theorem pe_evBT (hc : CallR X (.type T) (rdOpL X.K X.mg f)) (hg : Gl X x) (hm : X.mg x = none) (hv : bootBuiltins x = some (.type T)) (ha : PA X (e :: es) (rdA X.K X.mg W fl)) (hn : x ≠ "__name__" := by decide) (hdb : (x == ("__debug__" : Str)) = false := by decide)
    (he : starEach (e :: es) X.env = (false, eval e X.env) :: starEach es X.env := by rfl) (hpl : (backTo pos (starEach es X.env)).any (·.1) = false := by rfl) : PE X (.Call (.Name x p) (e :: es) [] pos) (rdE X.K X.mg W (evL f fl)) :=
  PE.weak (pe_callTy hc hg hm hv ha hn hdb he hpl) fun _ _ _ h => rdL h
theorem pe_evBF (hc : CallR X (.builtin id) (rdOpL X.K X.mg f)) (hg : Gl X x) (hm : X.mg x = some (.builtin id)) (ha : PA X (e :: es) (rdA X.K X.mg W fl)) (hdb : (x == ("__debug__" : Str)) = false := by decide)
    (he : starEach (e :: es) X.env = (false, eval e X.env) :: starEach es X.env := by rfl) (hpl : (backTo pos (starEach es X.env)).any (·.1) = false := by rfl) : PE X (.Call (.Name x p) (e :: es) [] pos) (rdE X.K X.mg W (evL f fl)) :=
  PE.weak (pe_callBfun hc hg hm ha hdb he hpl) fun _ _ _ h => rdL h
end
end PP
set_option Elab.async false
set_option linter.all false
set_option maxRecDepth 100000
set_option maxHeartbeats 2000000
/-! PP9: methods. -/
namespace PP
open PySem PySem.Spec PyProof.Rows L2
variable [Tbl]

abbrev OpMt := D → List D → Store → Option (D × Store)
def isLst (d : D) (st : Store) : Bool := (lstD st d).isSome
def isStr (d : D) (_ : Store) : Bool := match d with
  | .str _ => true
  | _ => false
def isDct (d : D) (st : Store) : Bool := match d with
  | .ref l => match st[l]? with
    | some (_, .dct _) => true
    | _ => false
  | _ => false
def evM (ty : D → Store → Bool) (f : OpMt) (o : Ev D) (as : Ev (List D)) : Ev D := fun env st => (o env st).bind fun d st1 => if ty d st1 = true then (as env st1).bind fun ds st2 => .ofOpt (f d ds st2) else .stuck
def appendM : OpMt := fun d ds st => match d, ds with
  | .ref l, [v] => match st[l]? with
    | some (false, .lst xs) => if xs.length < sizeLine then some (.non, st.set l (false, .lst (xs ++ [v]))) else none
    | _ => none
  | _, _ => none
def extendM : OpMt := fun d ds st => match d, ds with
  | .ref l, [.ref k] => match st[l]?, st[k]? with
    | some (false, .lst xs), some (false, .lst ys) => if xs.length + ys.length ≤ sizeLine then some (.non, st.set l (false, .lst (xs ++ ys))) else none
    | _, _ => none
  | _, _ => none
def popM : OpMt := fun d ds st => match d, ds with
  | .ref l, [] => match st[l]? with
    | some (false, .lst xs) => (xs[xs.length - 1]?).map fun y => (y, st.set l (false, .lst xs.dropLast))
    | _ => none
  | _, _ => none
def popAtM : OpMt := fun d ds st => match d, ds with
  | .ref l, [.int i] => match st[l]? with
    | some (false, .lst xs) => if -(2 ^ 63) ≤ i ∧ i < 2 ^ 63 then (seqIndex? i xs.length).bind fun k => (xs[k]?).map fun y => (y, st.set l (false, .lst (xs.eraseIdx k))) else none
    | _ => none
  | _, _ => none
def insertM : OpMt := fun d ds st => match d, ds with
  | .ref l, [.int i, v] => match st[l]? with
    | some (false, .lst xs) => if xs.length < sizeLine ∧ 0 ≤ i ∧ i < 2 ^ 63 then some (.non, st.set l (false, .lst (xs.take i.toNat ++ [v] ++ xs.drop i.toNat))) else none
    | _ => none
  | _, _ => none
def joinM : OpMt := fun d ds st => match d, ds with
  | .str a, [e] => match (seqD st e).bind strsD with
    | some ys => if (ys.map (·.length)).sum + ys.length * a.length ≤ 16777216 then some (.str (Txt.join a ys), st) else none
    | none => none
  | _, _ => none
def splitM : OpMt := fun d ds st => match d, ds with
  | .str a, [.str b] => if (b.length == 0) = false ∧ a.length + 2 ≤ sizeLine then newL ((Txt.split a b).map D.str) st else none
  | _, _ => none
def startsM : OpMt := fun d ds st => match d, ds with
  | .str a, [.str b] => some (.bl (Txt.startswith a b), st)
  | _, _ => none
def endsM : OpMt := fun d ds st => match d, ds with
  | .str a, [.str b] => some (.bl (Txt.endswith a b), st)
  | _, _ => none
/-- d.get(k), d.get(k, e) -/
def evGet1 (o e : Ev D) : Ev D := fun env st => (o env st).bind fun d st1 => if isDct d st1 = true then (e env st1).bind fun k st2 => match lookD st2 d k with
  | some r => .ok (r.getD .non) st2
  | none => .stuck else .stuck
def evGet2 (o e x : Ev D) : Ev D := fun env st => (o env st).bind fun d st1 => if isDct d st1 = true then (e env st1).bind fun k st2 => (x env st2).bind fun z st3 => match lookD st3 d k with
  | some r => .ok (r.getD z) st3
  | none => .stuck else .stuck
def rdMt (K : PySem.W.Frag) (mg : Str → Option Value) (f : OpMt) : V → List V → Hp → VK → Prop := fun x xs H Q => ∃ m st d ds, StOk K mg m H st ∧ Rp K mg m H d x ∧ RpL K mg m H ds xs ∧ Out K mg (Rp K mg) m H (f d ds st) Q
section
variable {X : Cx} {W : WX}
theorem MtR.weak {id : String} {r r' : V → List V → Hp → VK → Prop} (h : MtR X id r) (i : ∀ x xs H Q, r' x xs H Q → r x xs H Q) : MtR X id r' := fun pins s σ H x xs v us Q I rx rs q => h pins s σ H x xs v us Q I rx rs (i _ _ _ _ q)
section
variable {m : List Addr} {H : Hp} {st : Store} {Q : VK}
/-- a list rewritten -/
theorem Out.wrote {l : Nat} {a : Addr} {xs ys : List V} {ds es : List D} {d : D} {v : V} (o : Out X.K X.mg (Rp X.K X.mg) m H (some (d, st.set l (false, .lst es))) Q) (so : StOk X.K X.mg m H st) (e : st[l]? = some (false, .lst ds)) (em : m[l]? = some a) (eH : H a = some (.lst xs))
    (r : RpL X.K X.mg m H es ys) (rv : Rp X.K X.mg m H d v) : Q v (upd H a (.lst ys)) := by
  have p : Pers H (upd H a (.lst ys)) := Pers.write eH (fun z => z)
  exact o m _ v (Pre.refl m) p (so.write e em p ⟨ys, RpL.mono (Pre.refl m) p _ _ r, upd_same⟩) (Rp.mono (Pre.refl m) p _ _ rv)
theorem lst_unlocked (so : StOk X.K X.mg m H st) {l : Nat} {a : Addr} {ds : List D} (e : st[l]? = some (false, .lst ds)) (em : m[l]? = some a) : ∃ xs, RpL X.K X.mg m H ds xs ∧ H a = some (.lst xs) := so.at_ l _ _ a e em
end
theorem RpL.dropLast {K : PySem.W.Frag} {mg : Str → Option Value} {m : List Addr} {H : Hp} {ds : List D} {xs : List V} (r : RpL K mg m H ds xs) : RpL K mg m H ds.dropLast xs.dropLast := by
  rw [List.dropLast_eq_take, List.dropLast_eq_take, r.length]
  exact r.take _
theorem RpL.eraseIdx {K : PySem.W.Frag} {mg : Str → Option Value} {m : List Addr} {H : Hp} {ds : List D} {xs : List V} (i : Nat) (r : RpL K mg m H ds xs) : RpL K mg m H (ds.eraseIdx i) (xs.eraseIdx i) := by
  rw [List.eraseIdx_eq_take_drop_succ, List.eraseIdx_eq_take_drop_succ]
  exact (r.take _).append (r.drop _)
theorem mt_appendM : MtR X "list.append" (rdMt X.K X.mg appendM) := MtR.weak (r := rAppend) mt_append fun x xs H Q h => by
  obtain ⟨m, st, d, ds, so, rd, rl, o⟩ := h
  unfold appendM at o
  split at o
  · rename_i l v
    obtain ⟨a, rfl, em⟩ := rd
    obtain ⟨w, rfl, rw'⟩ := rl.one
    split at o
    · rename_i ys e
      split at o
      · rename_i hl
        obtain ⟨zs, rz, eH⟩ := lst_unlocked so e em
        exact ⟨a, zs, w, rfl, rfl, eH, by rw [rz.length]; exact hl, o.wrote so e em eH (rz.append (.mk_cons rw' .mk_nil)) rfl⟩
      · exact o.elim
    · exact o.elim
  · exact o.elim
theorem mt_extendM : MtR X "list.extend" (rdMt X.K X.mg extendM) := MtR.weak (r := rExtend) mt_extend fun x xs H Q h => by
  obtain ⟨m, st, d, ds, so, rd, rl, o⟩ := h
  unfold extendM at o
  split at o
  · rename_i l k
    obtain ⟨a, rfl, em⟩ := rd
    obtain ⟨w, rfl, b, rfl, eb⟩ := rl.one
    split at o
    · rename_i ys zs e1 e2
      split at o
      · rename_i hl
        obtain ⟨us, ru, eH⟩ := lst_unlocked so e1 em
        obtain ⟨ws, rw', eH2⟩ := lst_unlocked so e2 eb
        exact ⟨a, b, us, ws, rfl, rfl, eH, eH2, by rw [ru.length, rw'.length]; exact hl, o.wrote so e1 em eH (ru.append rw') rfl⟩
      · exact o.elim
    · exact o.elim
  · exact o.elim
theorem mt_popM : MtR X "list.pop" (rdMt X.K X.mg popM) := MtR.weak (r := rPop) mt_pop fun x xs H Q h => by
  obtain ⟨m, st, d, ds, so, rd, rl, o⟩ := h
  unfold popM at o
  split at o
  · rename_i l
    obtain ⟨a, rfl, em⟩ := rd
    have e0 := rl.nil
    subst e0
    split at o
    · rename_i ys e
      obtain ⟨zs, rz, eH⟩ := lst_unlocked so e em
      cases ey : ys[ys.length - 1]? with
      | none => rw [ey] at o; exact o.elim
      | some y =>
        rw [ey] at o
        obtain ⟨w, ew, rw'⟩ := rz.get ey
        exact ⟨a, zs, w, rfl, rfl, eH, by rw [rz.length]; exact ew, Out.wrote (d := y) o so e em eH rz.dropLast rw'⟩
    · exact o.elim
  · exact o.elim
theorem mt_popAtM : MtR X "list.pop" (rdMt X.K X.mg popAtM) := MtR.weak (r := rPopAt) mt_popAt fun x xs H Q h => by
  obtain ⟨m, st, d, ds, so, rd, rl, o⟩ := h
  unfold popAtM at o
  split at o
  · rename_i l i
    obtain ⟨a, rfl, em⟩ := rd
    obtain ⟨w, rfl, rfl⟩ := rl.one
    split at o
    · rename_i ys e
      split at o
      · rename_i hi
        obtain ⟨zs, rz, eH⟩ := lst_unlocked so e em
        cases ek : seqIndex? i ys.length with
        | none => rw [ek] at o; exact o.elim
        | some k =>
          rw [ek] at o
          cases ey : ys[k]? with
          | none => simp only [Option.bind_some, ey] at o; exact o.elim
          | some y =>
            simp only [Option.bind_some, ey] at o
            obtain ⟨w, ew, rw'⟩ := rz.get ey
            exact ⟨a, zs, i, k, w, rfl, rfl, eH, hi.1, hi.2, by rw [rz.length]; exact ek, ew, Out.wrote (d := y) o so e em eH (rz.eraseIdx k) rw'⟩
      · exact o.elim
    · exact o.elim
  · exact o.elim
theorem mt_insertM : MtR X "list.insert" (rdMt X.K X.mg insertM) := MtR.weak mt_insert fun x xs H Q h => by
  obtain ⟨m, st, d, ds, so, rd, rl, o⟩ := h
  unfold insertM at o
  split at o
  · rename_i l i v
    obtain ⟨a, rfl, em⟩ := rd
    obtain ⟨w, y, rfl, rfl, ry⟩ := rl.two
    split at o
    · rename_i ys e
      split at o
      · rename_i hi
        obtain ⟨zs, rz, eH⟩ := lst_unlocked so e em
        exact ⟨a, zs, i, y, rfl, rfl, eH, by rw [rz.length]; exact hi.1, hi.2.1, hi.2.2, o.wrote so e em eH (((rz.take _).append (.mk_cons ry .mk_nil)).append (rz.drop _)) rfl⟩
      · exact o.elim
    · exact o.elim
  · exact o.elim
theorem mt_joinM : MtR X "str.join" (rdMt X.K X.mg joinM) := MtR.weak mt_join fun x xs H Q h => by
  obtain ⟨m, st, d, ds, so, rd, rl, o⟩ := h
  unfold joinM at o
  split at o
  · rename_i a e
    cases rd
    obtain ⟨w, rfl, rw'⟩ := rl.one
    split at o
    · rename_i ys ey
      split at o
      · rename_i hl
        obtain ⟨es, e1, e2⟩ := Option.bind_eq_some_iff.mp ey
        obtain ⟨p, zs, rfl, rz, sq⟩ := seqD_of so e1 rw'
        have e3 := strsD_of e2
        subst e3
        have e4 := rz.strs
        subst e4
        exact ⟨a, p, ys, rfl, rfl, sq, hl, o.here so rfl⟩
      · exact o.elim
    · exact o.elim
  · exact o.elim
theorem RpL.ofStrs {K : PySem.W.Frag} {mg : Str → Option Value} {m : List Addr} {H : Hp} : ∀ ys : List Str, RpL K mg m H (ys.map D.str) (ys.map V.str)
  | [] => rfl
  | y :: ys => ⟨_, _, rfl, rfl, RpL.ofStrs ys⟩
theorem mt_splitM : MtR X "str.split" (rdMt X.K X.mg splitM) := MtR.weak mt_split fun x xs H Q h => by
  obtain ⟨m, st, d, ds, so, rd, rl, o⟩ := h
  unfold splitM at o
  split at o
  · rename_i a b
    cases rd
    obtain ⟨w, rfl, rfl⟩ := rl.one
    split at o
    · rename_i hl
      exact ⟨a, b, rfl, rfl, hl.1, hl.2, fun p hp => o.lst so (RpL.ofStrs _) hp⟩
    · exact o.elim
  · exact o.elim
theorem mt_startsM : MtR X "str.startswith" (rdMt X.K X.mg startsM) := MtR.weak mt_startswith fun x xs H Q h => by
  obtain ⟨m, st, d, ds, so, rd, rl, o⟩ := h
  unfold startsM at o
  split at o
  · cases rd
    obtain ⟨w, rfl, rfl⟩ := rl.one
    exact ⟨_, _, rfl, rfl, o.here so rfl⟩
  · exact o.elim
theorem mt_endsM : MtR X "str.endswith" (rdMt X.K X.mg endsM) := MtR.weak mt_endswith fun x xs H Q h => by
  obtain ⟨m, st, d, ds, so, rd, rl, o⟩ := h
  unfold endsM at o
  split at o
  · cases rd
    obtain ⟨w, rfl, rfl⟩ := rl.one
    exact ⟨_, _, rfl, rfl, o.here so rfl⟩
  · exact o.elim
/-- the receiver is of its type -/
def TyOk (X : Cx) (ty : D → Store → Bool) (T : String) : Prop := ∀ m H st d v, StOk X.K X.mg m H st → Rp X.K X.mg m H d v → ty d st = true → tyV X.K T v H
theorem ty_lst : TyOk X isLst "list" := fun m H st d v so rd h => by
  obtain ⟨ds, e⟩ := Option.isSome_iff_exists.mp h
  obtain ⟨p, xs, rfl, _, sq⟩ := lstD_of so e rd
  exact .inl ⟨rfl, xs, sq⟩
theorem ty_str : TyOk X isStr "str" := fun m H st d v so rd h => by
  cases d with
  | str z => cases rd; exact rfl
  | _ => cases h
variable {o e : Expr} {es : List Expr} {name : Str} {apos cpos : Pos} {T id : String} {f : OpMt} {ty : D → Store → Bool} {fo : Ev D} {fl : Ev (List D)}
theorem pe_evM0 (hT : TyOk X ty T) (pa : PlainAttrs T) (slot : Slot T name id) (hty : typeOf (.builtin id) = pure (.type "method_descriptor")) (hm : MtR X id (rdMt X.K X.mg f)) (ho : PE X o (rdE X.K X.mg W fo))
    (hbase : attributeBase o name X.env (eval o X.env) = eval o X.env := by rfl) (hline : (apos.endLine == cpos.line) = true := by rfl) : PE X (.Call (.Attribute o name apos) [] [] cpos) (rdE X.K X.mg W (evM ty f fo evNil)) :=
  PE.weak (pe_bm0 pa slot hty hm ho hbase hline) fun σ H Q h => by
    obtain ⟨m, env, st, hv, so, h⟩ := h
    refine ⟨m, env, st, hv, so, (Fin.bind (R := Rp X.K X.mg) h).imp fun v H1 _ hv => ?_⟩
    obtain ⟨m1, st1, d, _, _, s1, r1, h1⟩ := hv
    split at h1
    · rename_i ht
      exact ⟨hT m1 H1 st1 d v s1 r1 ht, m1, st1, d, [], s1, r1, rfl, (show Fin X.K X.mg (Rp X.K X.mg) W σ m1 H1 (Res.ofOpt (f d [] st1)) Q from h1).out⟩
    · exact h1.elim
theorem pe_evM (hT : TyOk X ty T) (pa : PlainAttrs T) (slot : Slot T name id) (hty : typeOf (.builtin id) = pure (.type "method_descriptor")) (hm : MtR X id (rdMt X.K X.mg f)) (ho : PE X o (rdE X.K X.mg W fo)) (ha : PA X (e :: es) (rdA X.K X.mg W fl))
    (hbase : attributeBase o name X.env (eval o X.env) = eval o X.env := by rfl)
    (hfew : ((backTo cpos (starEach (e :: es) X.env)).all (fun x => !x.1) && (backToKw cpos (keywordEach [] X.env)).all (fun x => x.1.isSome)
      && decide ((e :: es).length + ([] : List Keyword).length + (if ([] : List Keyword).isEmpty then 0 else 1) < 30)) = true := by rfl)
    (hline : (apos.endLine == cpos.line) = true := by rfl) (hs : starEach (e :: es) X.env = (false, eval e X.env) :: starEach es X.env := by rfl) (hplain : (backTo cpos (starEach es X.env)).any (·.1) = false := by rfl) :
    PE X (.Call (.Attribute o name apos) (e :: es) [] cpos) (rdE X.K X.mg W (evM ty f fo fl)) :=
  PE.weak (pe_bm pa slot hty hm ho ha hbase hfew hline hs hplain) fun σ H Q h => by
    obtain ⟨m, env, st, hv0, so, h⟩ := h
    refine ⟨m, env, st, hv0, so, (Fin.bind (R := Rp X.K X.mg) h).imp fun v H1 p1 hv => ?_⟩
    obtain ⟨m1, st1, d, pm, _, s1, r1, h1⟩ := hv
    split at h1
    · rename_i ht
      refine ⟨hT m1 H1 st1 d v s1 r1 ht, m1, env, st1, hv0.mono pm p1, s1, (Fin.bind (R := RpL X.K X.mg) h1).imp fun vs H2 p2 hv => ?_⟩
      obtain ⟨m2, st2, ds, pm2, _, s2, r2, h2⟩ := hv
      exact ⟨m2, st2, d, ds, s2, Rp.mono pm2 p2 _ _ r1, r2, h2.out⟩
    · exact h1.elim
theorem isD_of {m : List Addr} {H : Hp} {st : Store} {d : D} {v : V} (so : StOk X.K X.mg m H st) (rd : Rp X.K X.mg m H d v) (h : isDct d st = true) : ∃ a, v = .ref a ∧ IsD H a := by
  cases d with
  | ref l =>
    obtain ⟨a, rfl, em⟩ := rd
    simp only [isDct] at h
    split at h
    · rename_i lk kvs e
      rcases so.at_ l _ _ a e em with ⟨kv', _, c⟩ | ⟨kv', _, c⟩
      · exact ⟨a, rfl, .inl ⟨_, c.rd⟩⟩
      · exact ⟨a, rfl, .inr ⟨_, c.rd⟩⟩
    · cases h
  | _ => cases h
variable {fe fx : Ev D} {x : Expr}
theorem getD_rp {m : List Addr} {H : Hp} {r : Option D} {ov : Option V} {z : D} {zv : V} (ro : RO (K := X.K) (mg := X.mg) m H r ov) (rz : Rp X.K X.mg m H z zv) : Rp X.K X.mg m H (r.getD z) (ov.getD zv) := by
  cases r <;> cases ov <;> first | exact rz | exact ro | exact ro.elim
theorem pe_evGet1 (hu : X.A.units + 1 < cLine) (ho : PE X o (rdE X.K X.mg W fo)) (he : PE X e (rdE X.K X.mg W fe)) (mm : M1 X o "get" apos e cpos) : PE X (.Call (.Attribute o "get" apos) [e] [] cpos) (rdE X.K X.mg W (evGet1 fo fe)) := ⟨fun pins s σ H Q I h => by
  obtain ⟨m, env, st, hv0, so, h⟩ := h
  refine wpAny_Call_method mm.base mm.few mm.line PySem.F.plainAttrs_dict PySem.F.slot_dict_get PySem.F.type_dict_get (thn (ho.run pins s σ H _ I ⟨m, env, st, hv0, so, (Fin.bind (R := Rp X.K X.mg) h).imp fun v H1 p1 q => And.intro p1 q⟩) fun u s1 hh => ?_)
  obtain ⟨xv, H1, I1, rx, p1, m1, st1, d, pm, _, s2, r1, h1⟩ := hh
  split at h1
  · rename_i hd
    obtain ⟨a, rfl, isd⟩ := isD_of s2 r1 hd
    obtain rfl : u = Value.ref a := rx
    obtain ⟨t1, t2, _⟩ := isD_at I1 isd
    refine ⟨t1, t2, ?_⟩
    rw [mm.trees]
    refine Calls.callWith_builtin rfl (Calls.evalArgs_plain (Calls.spliced_cons (thn (he.run pins s1 σ H1 _ I1 ⟨m1, env, st1, hv0.mono pm p1, s2, (Fin.bind (R := Rp X.K X.mg) h1).imp fun v H1 p1 q => And.intro p1 q⟩) fun iv s3 hh => Calls.spliced_nil ?_)))
    obtain ⟨y, H2, I2, ry, p2, m2, st2, k, pm2, _, s4, r2, h2⟩ := hh
    split at h2
    · rename_i r el
      obtain ⟨a', H3, ov, ea, I3, s5, p3, g, _, ro⟩ := look_at I2 s4 (Rp.mono pm2 p2 _ _ r1) r2 el
      cases ea
      exact d_get1 hu I3 g ry fun w' s6 I6 rw' => ⟨_, H3, I6, rw', h2 m2 H3 _ (Pre.refl _) p3 s5 (getD_rp (z := .non) (zv := .non) ro rfl)⟩
    · exact h2.elim
  · exact h1.elim⟩
theorem pe_evGet2 (hu : X.A.units + 1 < cLine) (ho : PE X o (rdE X.K X.mg W fo)) (he : PE X e (rdE X.K X.mg W fe)) (hx : PE X x (rdE X.K X.mg W fx)) (mm : M2 X o "get" apos e x cpos) : PE X (.Call (.Attribute o "get" apos) [e, x] [] cpos) (rdE X.K X.mg W (evGet2 fo fe fx)) := ⟨fun pins s σ H Q I h => by
  obtain ⟨m, env, st, hv0, so, h⟩ := h
  refine wpAny_Call_method mm.base mm.few mm.line PySem.F.plainAttrs_dict PySem.F.slot_dict_get PySem.F.type_dict_get (thn (ho.run pins s σ H _ I ⟨m, env, st, hv0, so, (Fin.bind (R := Rp X.K X.mg) h).imp fun v H1 p1 q => And.intro p1 q⟩) fun u s1 hh => ?_)
  obtain ⟨xv, H1, I1, rx, p1, m1, st1, d, pm, _, s2, r1, h1⟩ := hh
  split at h1
  · rename_i hd
    obtain ⟨a, rfl, isd⟩ := isD_of s2 r1 hd
    obtain rfl : u = Value.ref a := rx
    obtain ⟨t1, t2, _⟩ := isD_at I1 isd
    refine ⟨t1, t2, ?_⟩
    rw [mm.trees]
    refine Calls.callWith_builtin rfl (Calls.evalArgs_plain (Calls.spliced_cons (thn (he.run pins s1 σ H1 _ I1 ⟨m1, env, st1, hv0.mono pm p1, s2, (Fin.bind (R := Rp X.K X.mg) h1).imp fun v H1 p1 q => And.intro p1 q⟩) fun iv s3 hh => ?_)))
    obtain ⟨y, H2, I2, ry, p2, m2, st2, k, pm2, _, s4, r2, h2⟩ := hh
    refine Calls.spliced_cons (thn (hx.run pins s3 σ H2 _ I2 ⟨m2, env, st2, (hv0.mono pm p1).mono pm2 p2, s4, (Fin.bind (R := Rp X.K X.mg) h2).imp fun v H1 p1 q => And.intro p1 q⟩) fun xw s5 hh => Calls.spliced_nil ?_)
    obtain ⟨z, H3, I3, rz, p3, m3, st3, dz, pm3, _, s6, r3, h3⟩ := hh
    split at h3
    · rename_i r el
      obtain ⟨a', H4, ov, ea, I4, s7, p4, g, _, ro⟩ := look_at I3 s6 (Rp.mono pm3 p3 _ _ (Rp.mono pm2 p2 _ _ r1)) (Rp.mono pm3 p3 _ _ r2) el
      cases ea
      exact d_get2 hu I4 g ry rz fun w' s8 I8 rw' => ⟨_, H4, I8, rw', h3 m3 H4 _ (Pre.refl _) p4 s7 (getD_rp ro (Rp.mono (Pre.refl _) p4 _ _ r3))⟩
    · exact h3.elim
  · exact h1.elim⟩
end
end PP
set_option Elab.async false
set_option linter.all false
set_option maxRecDepth 100000
set_option maxHeartbeats 2000000
/-! PP10: targets, comprehensions. -/
namespace PP
open PySem PySem.Spec PyProof.Rows L2
variable [Tbl]

/-! ### targets -/
abbrev Tgt := D → EnvD → Option EnvD
abbrev Tgts := List D → EnvD → Option EnvD
def tgN (i : Nat) : Tgt := fun d env => some (env.set i (some d))
def tgsNil : Tgts := fun ds env => match ds with
  | [] => some env
  | _ => none
def tgsCons (t : Tgt) (u : Tgts) : Tgts := fun ds env => match ds with
  | d :: r => (t d env).bind fun env1 => u r env1
  | [] => none
def tgT (n : Nat) (t : Tgts) : Tgt := fun d env => match d with
  | .tup _ ds => if ds.length = n then t ds env else none
  | _ => none
theorem wipe_at {σ : L2.St} : ∀ {vs : List Nat} {j : Nat}, (wipe σ vs)[j]? = if j ∈ vs then (σ[j]?).map (fun _ => none) else σ[j]?
  | [], j => by simp [wipe]
  | v :: vs, j => by
    unfold wipe
    by_cases hv : v = j
    · subst hv
      rw [if_pos List.mem_cons_self]
      by_cases hl : v < σ.length
      · rw [List.getElem?_set_self (by rw [wipe_length]; exact hl), List.getElem?_eq_getElem hl]; rfl
      · rw [List.getElem?_eq_none (by rw [List.length_set, wipe_length]; omega), List.getElem?_eq_none (by omega)]; rfl
    · rw [List.getElem?_set_ne hv, wipe_at]
      by_cases hm : j ∈ vs
      · rw [if_pos hm, if_pos (List.mem_cons_of_mem _ hm)]
      · rw [if_neg hm, if_neg (fun z => (List.mem_cons.mp z).elim (fun q => hv q.symm) hm)]
theorem wipe_set {σ : L2.St} {vs : List Nat} {i : Nat} {x : Option V} (h : i ∈ vs) : wipe (σ.set i x) vs = wipe σ vs := by
  apply List.ext_getElem?
  intro j
  rw [wipe_at, wipe_at]
  by_cases hj : j ∈ vs
  · rw [if_pos hj, if_pos hj]
    by_cases hi : i = j
    · subst hi
      by_cases hl : i < σ.length
      · rw [List.getElem?_set_self hl, List.getElem?_eq_getElem hl]; rfl
      · rw [List.getElem?_eq_none (by rw [List.length_set]; omega), List.getElem?_eq_none (by omega)]
    · rw [List.getElem?_set_ne hi]
  · rw [if_neg hj, if_neg hj]
    rw [List.getElem?_set_ne (fun z => hj (by rw [← z]; exact h))]
theorem wipe_wipe {σ : L2.St} {vs : List Nat} : wipe (wipe σ vs) vs = wipe σ vs := by
  apply List.ext_getElem?
  intro j
  rw [wipe_at, wipe_at]
  by_cases hj : j ∈ vs
  · rw [if_pos hj, if_pos hj]; cases σ[j]? <;> rfl
  · rw [if_neg hj, if_neg hj]
/-- a target that stores into the slots sl alone -/
def rdTg (K : PySem.W.Frag) (mg : Str → Option Value) (sl : List Nat) (f : Tgt) : TG := fun v σ H Q => ∃ m env d env', EnvOk K mg m H env σ ∧ Rp K mg m H d v ∧ f d env = some env' ∧
  ∀ σ', EnvOk K mg m H env' σ' → (∀ vs : List Nat, (∀ i ∈ sl, i ∈ vs) → wipe σ' vs = wipe σ vs) → Q σ' H
def rdTgs (K : PySem.W.Frag) (mg : Str → Option Value) (sl : List Nat) (f : Tgts) : TGs := fun v σ H Q => ∃ m env d env', EnvOk K mg m H env σ ∧ RpL K mg m H d v ∧ f d env = some env' ∧
  ∀ σ', EnvOk K mg m H env' σ' → (∀ vs : List Nat, (∀ i ∈ sl, i ∈ vs) → wipe σ' vs = wipe σ vs) → Q σ' H
section
variable {X : Cx} {pos : Pos}
theorem PG.weak {e : Expr} {t t' : TG} (h : PG X e t) (i : ∀ v σ H Q, t' v σ H Q → t v σ H Q) : PG X e t' := ⟨fun pins s σ H v u Q I r q => h.run pins s σ H v u Q I r (i v σ H Q q)⟩
theorem PGs.weak {e : List Expr} {t t' : TGs} (h : PGs X e t) (i : ∀ v σ H Q, t' v σ H Q → t v σ H Q) : PGs X e t' := ⟨fun pins s σ H v u Q I r q => h.run pins s σ H v u Q I r (i v σ H Q q)⟩
theorem pg_tgN {i : Nat} {x : Str} (hN : X.N.Nodup) (hi : X.N[i]? = some x) (hx : Loc X.env.scope x) (hf : X.fn x = true ∨ X.env.scope.names.lookup x = some .local := by first | exact .inl rfl | exact .inr rfl | assumption) : PG X (.Name x pos) (rdTg X.K X.mg [i] (tgN i)) :=
  PG.weak (pg_name hN hi hx hf) fun v σ H Q h => by
    obtain ⟨m, env, d, env', ho, rd, e, h⟩ := h
    cases e
    exact h _ (ho.set rd) fun vs hv => wipe_set (hv i List.mem_cons_self)
theorem pgs_tgNil : PGs X [] (rdTgs X.K X.mg [] tgsNil) := PGs.weak pgs_nil fun v σ H Q h => by
  obtain ⟨m, env, d, env', ho, rd, e, h⟩ := h
  cases d with
  | nil => cases e; exact ⟨rd.nil, h _ ho fun _ _ => rfl⟩
  | cons d r => cases e
theorem pgs_tgCons {e : Expr} {es : List Expr} {sl sls : List Nat} {t : Tgt} {u : Tgts} (h1 : PG X e (rdTg X.K X.mg sl t)) (h2 : PGs X es (rdTgs X.K X.mg sls u))
    (hs : (assignEach (e :: es) X.env).map (·.2) = assign e X.env :: (assignEach es X.env).map (·.2) := by rfl) : PGs X (e :: es) (rdTgs X.K X.mg (sl ++ sls) (tgsCons t u)) := PGs.weak (pgs_cons h1 h2 hs) fun v σ H Q h => by
  obtain ⟨m, env, d, env', ho, rd, e, h⟩ := h
  cases d with
  | nil => cases e
  | cons d r =>
    obtain ⟨x, xs, rfl, r1, r2⟩ := rd
    obtain ⟨env1, e1, e2⟩ := Option.bind_eq_some_iff.mp e
    refine ⟨x, xs, rfl, m, env, d, env1, ho, r1, e1, fun σ1 ho1 w1 => ⟨m, env1, r, env', ho1, r2, e2, fun σ2 ho2 w2 => h σ2 ho2 fun vs hv => ?_⟩⟩
    rw [w2 vs fun i hi => hv i (List.mem_append_right _ hi), w1 vs fun i hi => hv i (List.mem_append_left _ hi)]
theorem pg_tgT {es : List Expr} {k : Nat} {sl : List Nat} {t : Tgts} {n : Nat} (hc : X.calm = true) (h : PGs X es (rdTgs X.K X.mg sl t))
    (hn : (assignEach es X.env).length = n := by rfl) (hst : (assignEach es X.env).findIdx? (·.1) = none := by rfl) : PG X (.Tuple es k pos) (rdTg X.K X.mg sl (tgT n t)) := PG.weak (pg_tup hc h hn hst) fun v σ H Q h => by
  obtain ⟨m, env, d, env', ho, rd, e, h⟩ := h
  cases d with
  | tup b ds =>
    obtain ⟨a, xs, rfl, ta, rl⟩ := rd
    simp only [tgT] at e
    split at e
    · rename_i hl
      exact ⟨a, xs, rfl, ta.sq, by rw [rl.length]; exact hl, m, env, ds, env', ho, rl, e, h⟩
    · cases e
  | _ => cases e
end

/-! ### comprehensions -/
def fuelF : Nat := 16777300
/-- one turn's place: an item more at l -/
def pushAt (l : Nat) (y : D) (st : Store) : Option Store := match st[l]? with
  | some (false, .lst acc) => if acc.length < sizeLine then some (st.set l (false, .lst (acc ++ [y]))) else none
  | _ => none
def lcLoop (g : Src) (tg : Tgt) (env : EnvD) (tt : Ev Bool) (te : Ev D) (l : Nat) : Nat → Nat → Store → Res D
  | 0, _, _ => .stuck
  | n + 1, i, st => match g i st with
    | none => .stuck
    | some none => .ok (.ref l) st
    | some (some d) => match tg d env with
      | none => .stuck
      | some env1 => match tt env1 st with
        | .ok b st2 => if b = true then match te env1 st2 with
          | .ok y st3 => match pushAt l y st3 with
            | some st4 => lcLoop g tg env tt te l n (i + 1) st4
            | none => .stuck
          | _ => .stuck else lcLoop g tg env tt te l n (i + 1) st2
        | _ => .stuck
def evLc (src : Ev Src) (tg : Tgt) (vs : List Nat) (tt : Ev Bool) (te : Ev D) : Ev D := fun env st => (src env st).bind fun g st1 => lcLoop g tg (wipeD env vs) tt te st1.length fuelF 0 (st1 ++ [(false, .lst [])])
/-- no exception is let out -/
abbrev WN : WX := fun _ _ _ _ => False
section
variable {X : Cx} {W : WX}
theorem pushAt_of {K : PySem.W.Frag} {mg : Str → Option Value} {m : List Addr} {H : Hp} {st st4 : Store} {l : Nat} {a : Addr} {y : D} {v : V} (so : StOk K mg m H st) (em : m[l]? = some a) (r : Rp K mg m H y v) (h : pushAt l y st = some st4) :
    ∃ acc, H a = some (.lst acc) ∧ acc.length < sizeLine ∧ StOk K mg m (upd H a (.lst (acc ++ [v]))) st4 ∧ Pers H (upd H a (.lst (acc ++ [v]))) := by
  unfold pushAt at h
  split at h
  · rename_i ds e
    split at h
    · rename_i hl
      cases h
      obtain ⟨xs, rx, eH⟩ := (show CellOk K mg m H a false (.lst ds) from so.at_ l _ _ a e em)
      have eH : H a = some (.lst xs) := eH
      have p : Pers H (upd H a (.lst (xs ++ [v]))) := Pers.write eH (fun z => z)
      exact ⟨xs, eH, by rw [rx.length]; exact hl, so.write e em p ⟨_, RpL.mono (Pre.refl m) p _ _ (rx.append (.mk_cons r .mk_nil)), upd_same⟩, p⟩
    · cases h
  · cases h
theorem rd_lc {src : Ev Src} {tg : Tgt} {sl vs : List Nat} {tt : Ev Bool} {te : Ev D} {σ : L2.St} {H : Hp} {Q : VK} (hsl : ∀ i ∈ sl, i ∈ vs) (h : rdE X.K X.mg W (evLc src tg vs tt te) σ H Q) :
    tLc (rdI X.K X.mg W src) (rdTg X.K X.mg sl tg) (rdT X.K X.mg WN tt) (rdE X.K X.mg WN te) vs σ H Q := by
  obtain ⟨m, env, st, ho, so, h⟩ := h
  refine ⟨m, env, st, ho, so, (Fin.bind (R := SrcOk X.K X.mg) h).imp fun J H1 p1 hv => ?_⟩
  obtain ⟨m1, st1, g, pm1, _, s1, sg, h1⟩ := hv
  intro D hD
  have pD : Pers H1 (upd H1 D (.lst [])) := Pers.new hD
  have sD : StOk X.K X.mg (m1 ++ [D]) (upd H1 D (.lst [])) (st1 ++ [(false, .lst [])]) := s1.snoc hD ⟨[], rfl, upd_same⟩
  have eD : (m1 ++ [D])[st1.length]? = some D := Pre.last s1.len
  refine ⟨fun i n H => ∃ mm st2, Pre (m1 ++ [D]) mm ∧ Pers (upd H1 D (.lst [])) H ∧ StOk X.K X.mg mm H st2 ∧ Fin X.K X.mg (Rp X.K X.mg) W σ mm H (lcLoop g tg (wipeD env vs) tt te st1.length n i st2) Q,
    ⟨fuelF, m1 ++ [D], _, Pre.refl _, Pers.refl _, sD, Fin.mono (Pre.snoc m1 D) pD h1⟩, ?_⟩
  rintro i n H2 ⟨mm, st2, pm, p, s2, hf⟩
  obtain ⟨go, stop⟩ := sg i mm H2 st2 ((Pre.snoc m1 D).trans pm) (pD.trans p) s2
  cases n with
  | zero => exact hf.elim
  | succ n =>
    unfold lcLoop at hf
    split at hf
    · exact hf.elim
    · rename_i eg
      exact .inl ⟨stop eg, hf mm H2 _ (Pre.refl _) (Pers.refl _) s2 ⟨D, rfl, pm _ _ eD⟩⟩
    · rename_i d eg
      obtain ⟨jg, jy⟩ := go d eg
      refine .inr ⟨jg, fun H3 => ∃ mm st3, Pre (m1 ++ [D]) mm ∧ Pers (upd H1 D (.lst [])) H3 ∧ StOk X.K X.mg mm H3 st3 ∧ Fin X.K X.mg (Rp X.K X.mg) W σ mm H3 (lcLoop g tg (wipeD env vs) tt te st1.length n (i + 1) st3) Q, fun H3 h3 => ⟨n, Nat.lt_succ_self n, h3⟩, fun x H3 hy => ?_⟩
      obtain ⟨p3, s3, r3⟩ := jy x H3 hy
      split at hf
      · exact hf.elim
      · rename_i env1 et
        have ho3 : EnvOk X.K X.mg mm H3 (wipeD env vs) (wipe σ vs) := ((((ho.mono pm1 p1).mono (Pre.snoc m1 D) pD).mono pm p).mono (Pre.refl _) p3).wipe vs
        refine ⟨mm, wipeD env vs, d, env1, ho3, r3, et, fun σ2 ho4 hw => ⟨(hw vs hsl).trans wipe_wipe, mm, env1, st2, ho4, s3, ?_⟩⟩
        split at hf
        · rename_i b st4 eb
          rw [eb]
          intro m5 H5 b5 pm5 p5 s5 rb
          cases (show b = b5 from rb)
          by_cases hb : b = true
          · subst hb
            rw [if_pos rfl] at hf ⊢
            split at hf
            · rename_i y st6 ey
              refine ⟨m5, env1, st4, ho4.mono pm5 p5, s5, ?_⟩
              rw [ey]
              intro m7 H7 y7 pm7 p7 s7 r7
              split at hf
              · rename_i st8 e8
                have em7 : m7[st1.length]? = some D := pm7 _ _ (pm5 _ _ (pm _ _ eD))
                obtain ⟨acc, eH, hl, s8, p8⟩ := pushAt_of s7 em7 r7 e8
                refine ⟨acc, eH, hl, m7, st8, (pm.trans pm5).trans pm7, (((p.trans p3).trans p5).trans p7).trans p8, s8, ?_⟩
                exact Fin.mono (pm5.trans pm7) (((p3.trans p5).trans p7).trans p8) hf
              · exact hf.elim
            · exact hf.elim
          · rw [if_neg hb] at hf ⊢
            exact ⟨m5, st4, pm.trans pm5, (p.trans p3).trans p5, s5, Fin.mono pm5 (p3.trans p5) hf⟩
        · exact hf.elim
theorem pts_evNil : PTs X [] (rdT X.K X.mg WN tyes) := ⟨fun pins s σ H Q I h => by
  obtain ⟨m, env, st, ho, so, h⟩ := h
  exact pts_nil.run pins s σ H Q I (h m H true (Pre.refl _) (Pers.refl _) so rfl)⟩
abbrev BlkE (X : Cx) (scope : Scope) (e : Expr) (f : Ev D) : Prop := ∀ (s : Shared) (H : Hp) (C : Addr) (cl : List (Str × Addr)) (fp : List Addr), PE (X.blk s H scope (compEnvC scope cl C X.env) fp) e (rdE X.K X.mg WN f)
abbrev BlkG (X : Cx) (scope : Scope) (e : Expr) (sl : List Nat) (f : Tgt) : Prop := ∀ (s : Shared) (H : Hp) (C : Addr) (cl : List (Str × Addr)) (fp : List Addr), PG (X.blk s H scope (compEnvC scope cl C X.env) fp) e (rdTg X.K X.mg sl f)
abbrev BlkT (X : Cx) (scope : Scope) (e : List Expr) (f : Ev Bool) : Prop := ∀ (s : Shared) (H : Hp) (C : Addr) (cl : List (Str × Addr)) (fp : List Addr), PTs (X.blk s H scope (compEnvC scope cl C X.env) fp) e (rdT X.K X.mg WN f)
abbrev BlkI (X : Cx) (scope : Scope) (tg e : Expr) (f : Ev Src) : Prop := ∀ (s : Shared) (H : Hp) (C : Addr) (cl : List (Str × Addr)) (fp : List Addr), PI (X.blk s H scope (compEnvC scope cl C X.env) fp) tg e (rdI X.K X.mg WN f)
variable {elt tg iter : Expr} {ifs : List Expr} {scope : Scope} {own : List (Str × Nat)} {pos : Pos} {src : Ev Src} {tgt : Tgt} {sl : List Nat} {tt : Ev Bool} {te : Ev D}
theorem pe_evLc (hc : X.calm = true) (hN : X.N.Nodup) (hi : PI X tg iter (rdI X.K X.mg W src)) (ok : blkC X.N X.env.scope scope own = true) (hsl : sl.all (fun i => (own.map (·.2)).contains i) = true) (hg : BlkG X scope tg sl tgt) (ht : BlkT X scope ifs tt) (he : BlkE X scope elt te)
    (hs : ∀ x, foldedSetIterable iter X.env x = pure x := by intro _; rfl) : PE X (.ListComp elt [⟨tg, iter, ifs, 0⟩] scope pos) (rdE X.K X.mg W (evLc src tgt (own.map (·.2)) tt te)) :=
  PE.weak (pe_lc hc hN hi (blkOk_by ok) hg ht he hs) fun _ _ _ h => rd_lc (fun i hi => List.contains_iff_mem.mp (List.all_eq_true.mp hsl i hi)) h

/-! ### two clauses -/
/-- the inner loop: what becomes of the store -/
def lcIn (g : Src) (tg : Tgt) (env : EnvD) (tt : Ev Bool) (te : Ev D) (l : Nat) : Nat → Nat → Store → Option Store
  | 0, _, _ => none
  | n + 1, i, st => match g i st with
    | none => none
    | some none => some st
    | some (some d) => match tg d env with
      | none => none
      | some env1 => match tt env1 st with
        | .ok b st2 => if b = true then match te env1 st2 with
          | .ok y st3 => match pushAt l y st3 with
            | some st4 => lcIn g tg env tt te l n (i + 1) st4
            | none => none
          | _ => none else lcIn g tg env tt te l n (i + 1) st2
        | _ => none
def lcOut (g : Src) (tg : Tgt) (env : EnvD) (tt : Ev Bool) (src1 : Ev Src) (tg1 : Tgt) (vs1 : List Nat) (tt1 : Ev Bool) (te : Ev D) (l : Nat) : Nat → Nat → Store → Res D
  | 0, _, _ => .stuck
  | n + 1, i, st => match g i st with
    | none => .stuck
    | some none => .ok (.ref l) st
    | some (some d) => match tg d env with
      | none => .stuck
      | some env1 => match tt env1 st with
        | .ok b st2 => if b = true then match src1 env1 st2 with
          | .ok g1 st3 => match lcIn g1 tg1 (wipeD env1 vs1) tt1 te l fuelF 0 st3 with
            | some st4 => lcOut g tg env tt src1 tg1 vs1 tt1 te l n (i + 1) st4
            | none => .stuck
          | _ => .stuck else lcOut g tg env tt src1 tg1 vs1 tt1 te l n (i + 1) st2
        | _ => .stuck
def evLc2 (src : Ev Src) (tg : Tgt) (vs : List Nat) (tt : Ev Bool) (src1 : Ev Src) (tg1 : Tgt) (vs1 : List Nat) (tt1 : Ev Bool) (te : Ev D) : Ev D :=
  fun env st => (src env st).bind fun g st1 => lcOut g tg (wipeD env vs) tt src1 tg1 vs1 tt1 te st1.length fuelF 0 (st1 ++ [(false, .lst [])])
theorem rd_lc2 {src src1 : Ev Src} {tg tg1 : Tgt} {sl sl1 vs vs1 : List Nat} {tt tt1 : Ev Bool} {te : Ev D} {σ : L2.St} {H : Hp} {Q : VK} (hsl : ∀ i ∈ sl, i ∈ vs) (hsl1 : ∀ i ∈ sl1, i ∈ vs1) (h : rdE X.K X.mg W (evLc2 src tg vs tt src1 tg1 vs1 tt1 te) σ H Q) :
    tLc2 (rdI X.K X.mg W src) (rdTg X.K X.mg sl tg) (rdT X.K X.mg WN tt) (rdI X.K X.mg WN src1) (rdTg X.K X.mg sl1 tg1) (rdT X.K X.mg WN tt1) (rdE X.K X.mg WN te) vs vs1 σ H Q := by
  obtain ⟨m, env, st, ho, so, h⟩ := h
  refine ⟨m, env, st, ho, so, (Fin.bind (R := SrcOk X.K X.mg) h).imp fun J H1 p1 hv => ?_⟩
  obtain ⟨m1, st1, g, pm1, _, s1, sg, h1⟩ := hv
  intro D hD
  have pD : Pers H1 (upd H1 D (.lst [])) := Pers.new hD
  have sD : StOk X.K X.mg (m1 ++ [D]) (upd H1 D (.lst [])) (st1 ++ [(false, .lst [])]) := s1.snoc hD ⟨[], rfl, upd_same⟩
  have eD : (m1 ++ [D])[st1.length]? = some D := Pre.last s1.len
  refine ⟨fun i n H => ∃ mm st2, Pre (m1 ++ [D]) mm ∧ Pers (upd H1 D (.lst [])) H ∧ StOk X.K X.mg mm H st2 ∧ Fin X.K X.mg (Rp X.K X.mg) W σ mm H (lcOut g tg (wipeD env vs) tt src1 tg1 vs1 tt1 te st1.length n i st2) Q,
    ⟨fuelF, m1 ++ [D], _, Pre.refl _, Pers.refl _, sD, Fin.mono (Pre.snoc m1 D) pD h1⟩, ?_⟩
  rintro i n H2 ⟨mm, st2, pm, p, s2, hf⟩
  obtain ⟨go, stop⟩ := sg i mm H2 st2 ((Pre.snoc m1 D).trans pm) (pD.trans p) s2
  cases n with
  | zero => exact hf.elim
  | succ n =>
    unfold lcOut at hf
    split at hf
    · exact hf.elim
    · rename_i eg
      exact .inl ⟨stop eg, hf mm H2 _ (Pre.refl _) (Pers.refl _) s2 ⟨D, rfl, pm _ _ eD⟩⟩
    · rename_i d eg
      obtain ⟨jg, jy⟩ := go d eg
      refine .inr ⟨jg, fun H3 => ∃ mm st3, Pre (m1 ++ [D]) mm ∧ Pers (upd H1 D (.lst [])) H3 ∧ StOk X.K X.mg mm H3 st3 ∧ Fin X.K X.mg (Rp X.K X.mg) W σ mm H3 (lcOut g tg (wipeD env vs) tt src1 tg1 vs1 tt1 te st1.length n (i + 1) st3) Q, fun H3 h3 => ⟨n, Nat.lt_succ_self n, h3⟩, fun x H3 hy => ?_⟩
      obtain ⟨p3, s3, r3⟩ := jy x H3 hy
      split at hf
      · exact hf.elim
      · rename_i env1 et
        have ho3 : EnvOk X.K X.mg mm H3 (wipeD env vs) (wipe σ vs) := ((((ho.mono pm1 p1).mono (Pre.snoc m1 D) pD).mono pm p).mono (Pre.refl _) p3).wipe vs
        refine ⟨mm, wipeD env vs, d, env1, ho3, r3, et, fun σ2 ho4 hw => ⟨(hw vs hsl).trans wipe_wipe, mm, env1, st2, ho4, s3, ?_⟩⟩
        split at hf
        · rename_i b st4 eb
          rw [eb]
          intro m5 H5 b5 pm5 p5 s5 rb
          cases (show b = b5 from rb)
          by_cases hb : b = true
          · subst hb
            rw [if_pos rfl] at hf ⊢
            split at hf
            · rename_i g1 st6 e6
              refine ⟨m5, env1, st4, ho4.mono pm5 p5, s5, ?_⟩
              rw [e6]
              intro m7 H7 J1 pm7 p7 s7 sg1
              split at hf
              · rename_i st8 e8
                -- the inner loop
                refine ⟨fun j k H => ∃ mk st9, Pre m7 mk ∧ Pers H7 H ∧ StOk X.K X.mg mk H st9 ∧ lcIn g1 tg1 (wipeD env1 vs1) tt1 te st1.length k j st9 = some st8, ⟨fuelF, m7, st6, Pre.refl _, Pers.refl _, s7, e8⟩, ?_⟩
                rintro j k H9 ⟨mk, st9, pm9, p9, s9, hk⟩
                obtain ⟨go1, stop1⟩ := sg1 j mk H9 st9 pm9 p9 s9
                have pmA : Pre (m1 ++ [D]) mk := ((pm.trans pm5).trans pm7).trans pm9
                have pA : Pers (upd H1 D (.lst [])) H9 := (((p.trans p3).trans p5).trans p7).trans p9
                cases k with
                | zero => cases hk
                | succ k =>
                  unfold lcIn at hk
                  split at hk
                  · cases hk
                  · rename_i eg1
                    cases hk
                    exact .inl ⟨stop1 eg1, mk, st8, pmA, pA, s9, Fin.mono ((pm5.trans pm7).trans pm9) (((p3.trans p5).trans p7).trans p9) hf⟩
                  · rename_i d1 eg1
                    obtain ⟨jg1, jy1⟩ := go1 d1 eg1
                    refine .inr ⟨jg1, fun H10 => ∃ mk st10, Pre m7 mk ∧ Pers H7 H10 ∧ StOk X.K X.mg mk H10 st10 ∧ lcIn g1 tg1 (wipeD env1 vs1) tt1 te st1.length k (j + 1) st10 = some st8, fun H10 h10 => ⟨k, Nat.lt_succ_self k, h10⟩, fun x1 H10 hy1 => ?_⟩
                    obtain ⟨p10, s10, r10⟩ := jy1 x1 H10 hy1
                    split at hk
                    · cases hk
                    · rename_i env2 et2
                      have ho5 : EnvOk X.K X.mg mk H10 (wipeD env1 vs1) (wipe σ2 vs1) := (((ho4.mono pm5 p5).mono pm7 p7).mono pm9 (p9.trans p10)).wipe vs1
                      refine ⟨mk, wipeD env1 vs1, d1, env2, ho5, r10, et2, fun σ3 ho6 hw3 => ⟨(hw3 vs1 hsl1).trans wipe_wipe, mk, env2, st9, ho6, s10, ?_⟩⟩
                      split at hk
                      · rename_i b2 st11 eb2
                        rw [eb2]
                        intro m12 H12 b12 pm12 p12 s12 rb2
                        cases (show b2 = b12 from rb2)
                        by_cases hb2 : b2 = true
                        · subst hb2
                          rw [if_pos rfl] at hk ⊢
                          split at hk
                          · rename_i y st13 ey
                            refine ⟨m12, env2, st11, ho6.mono pm12 p12, s12, ?_⟩
                            rw [ey]
                            intro m14 H14 y14 pm14 p14 s14 r14
                            split at hk
                            · rename_i st15 e15
                              have em : m14[st1.length]? = some D := pm14 _ _ (pm12 _ _ (pmA _ _ eD))
                              obtain ⟨acc, eH, hl, s16, p16⟩ := pushAt_of s14 em r14 e15
                              exact ⟨acc, eH, hl, m14, st15, (pm9.trans pm12).trans pm14, (((p9.trans p10).trans p12).trans p14).trans p16, s16, hk⟩
                            · cases hk
                          · cases hk
                        · rw [if_neg hb2] at hk ⊢
                          exact ⟨m12, st11, pm9.trans pm12, (p9.trans p10).trans p12, s12, hk⟩
                      · cases hk
              · exact hf.elim
            · exact hf.elim
          · rw [if_neg hb] at hf ⊢
            exact ⟨m5, st4, pm.trans pm5, (p.trans p3).trans p5, s5, Fin.mono pm5 (p3.trans p5) hf⟩
        · exact hf.elim
variable {tg1 iter1 : Expr} {ifs1 : List Expr} {src1 : Ev Src} {tgt1 : Tgt} {sl1 vs1 : List Nat} {tt1 : Ev Bool}
theorem pe_evLc2 (hc : X.calm = true) (hN : X.N.Nodup) (hi : PI X tg iter (rdI X.K X.mg W src)) (ok : blkC X.N X.env.scope scope own = true) (hsl : sl.all (fun i => (own.map (·.2)).contains i) = true) (hv : vs1.all (fun i => (own.map (·.2)).contains i) = true) (hsl1 : sl1.all (fun i => vs1.contains i) = true)
    (hg : BlkG X scope tg sl tgt) (ht : BlkT X scope ifs tt) (hi1 : BlkI X scope tg1 iter1 src1) (hg1 : BlkG X scope tg1 sl1 tgt1) (ht1 : BlkT X scope ifs1 tt1) (he : BlkE X scope elt te)
    (hs : ∀ x, foldedSetIterable iter X.env x = pure x := by intro _; rfl) (hs1 : ∀ env x, foldedSetIterable iter1 env x = pure x := by intro _ _; rfl) : PE X (.ListComp elt [⟨tg, iter, ifs, 0⟩, ⟨tg1, iter1, ifs1, 0⟩] scope pos) (rdE X.K X.mg W (evLc2 src tgt (own.map (·.2)) tt src1 tgt1 vs1 tt1 te)) :=
  PE.weak (pe_lc2 hc hN hi (blkOk_by ok) (fun i hi => List.contains_iff_mem.mp (List.all_eq_true.mp hv i hi)) hg ht hi1 hg1 ht1 he hs hs1) fun _ _ _ h => rd_lc2 (fun i hi => List.contains_iff_mem.mp (List.all_eq_true.mp hsl i hi)) (fun i hi => List.contains_iff_mem.mp (List.all_eq_true.mp hsl1 i hi)) h

/-! ### dict comprehensions: keys that are ints or texts -/
def dcPut (l : Nat) (k v : D) (st : Store) : Option Store := match st[l]? with
  | some (false, .dcK kvs) => if isK k = true ∧ kvs.length < sizeLine then some (st.set l (false, .dcK (dput kvs k v))) else none
  | _ => none
def dcEnd (l : Nat) (st : Store) : Res D := match st[l]? with
  | some (false, .dcK kvs) => .ok (.ref l) (st.set l (false, .dct kvs))
  | _ => .stuck
def dcLoop (g : Src) (tg : Tgt) (env : EnvD) (tt : Ev Bool) (tk te : Ev D) (l : Nat) : Nat → Nat → Store → Res D
  | 0, _, _ => .stuck
  | n + 1, i, st => match g i st with
    | none => .stuck
    | some none => dcEnd l st
    | some (some d) => match tg d env with
      | none => .stuck
      | some env1 => match tt env1 st with
        | .ok b st2 => if b = true then match tk env1 st2 with
          | .ok k st3 => match te env1 st3 with
            | .ok y st4 => match dcPut l k y st4 with
              | some st5 => dcLoop g tg env tt tk te l n (i + 1) st5
              | none => .stuck
            | _ => .stuck
          | _ => .stuck else dcLoop g tg env tt tk te l n (i + 1) st2
        | _ => .stuck
def evDc (src : Ev Src) (tg : Tgt) (vs : List Nat) (tt : Ev Bool) (tk te : Ev D) : Ev D := fun env st => (src env st).bind fun g st1 => dcLoop g tg (wipeD env vs) tt tk te st1.length fuelF 0 (st1 ++ [(false, .dcK [])])
theorem set_self {st : Store} {l : Nat} {x : Bool × Cell} (h : l < st.length) : (st.set l x)[l]? = some x := List.getElem?_set_self h
theorem dcPut_of {K : PySem.W.Frag} {mg : Str → Option Value} {m : List Addr} {H : Hp} {st st4 : Store} {l : Nat} {a : Addr} {k y : D} {kv v : V} (so : StOk K mg m H st) (em : m[l]? = some a) (rk : Rp K mg m H k kv) (r : Rp K mg m H y v) (h : dcPut l k y st = some st4) :
    ∃ kvs k', kv = kV k' ∧ H a = some (.dK kvs) ∧ kvs.length < sizeLine ∧ StOk K mg m (upd H a (.dK (putK kvs k' v))) st4 ∧ Pers H (upd H a (.dK (putK kvs k' v))) := by
  unfold dcPut at h
  split at h
  · rename_i ds e
    split at h
    · rename_i hl
      cases h
      obtain ⟨k', rfl⟩ := isK_of hl.1
      obtain ⟨xs, rx, eH⟩ := (show CellOk K mg m H a false (.dcK ds) from so.at_ l _ _ a e em)
      have eH : H a = some (.dK xs) := eH
      have p : Pers H (upd H a (.dK (putK xs k' v))) := Pers.write eH (fun z => z)
      exact ⟨xs, k', Rp_kD.mp rk, eH, by rw [← rx.length]; exact hl.2, so.write e em p ⟨_, (Kvs.put keq_fK k' r rx).mono (Pre.refl m) p, upd_same⟩, p⟩
    · cases h
  · cases h
theorem rd_dc {src : Ev Src} {tg : Tgt} {sl vs : List Nat} {tt : Ev Bool} {tk te : Ev D} {σ : L2.St} {H : Hp} {Q : VK} (hsl : ∀ i ∈ sl, i ∈ vs) (h : rdE X.K X.mg W (evDc src tg vs tt tk te) σ H Q) :
    tDc (rdI X.K X.mg W src) (rdTg X.K X.mg sl tg) (rdT X.K X.mg WN tt) (rdE X.K X.mg WN tk) (rdE X.K X.mg WN te) vs σ H Q := by
  obtain ⟨m, env, st, ho, so, h⟩ := h
  refine ⟨m, env, st, ho, so, (Fin.bind (R := SrcOk X.K X.mg) h).imp fun J H1 p1 hv => ?_⟩
  obtain ⟨m1, st1, g, pm1, _, s1, sg, h1⟩ := hv
  intro D hD
  have pD : Pers H1 (upd H1 D (.dK [])) := Pers.new hD
  have sD : StOk X.K X.mg (m1 ++ [D]) (upd H1 D (.dK [])) (st1 ++ [(false, .dcK [])]) := s1.snoc hD ⟨[], .nil, upd_same⟩
  have eD : (m1 ++ [D])[st1.length]? = some D := Pre.last s1.len
  refine ⟨fun i n H => ∃ mm st2, Pre (m1 ++ [D]) mm ∧ Pers (upd H1 D (.dK [])) H ∧ StOk X.K X.mg mm H st2 ∧ Fin X.K X.mg (Rp X.K X.mg) W σ mm H (dcLoop g tg (wipeD env vs) tt tk te st1.length n i st2) Q,
    ⟨fuelF, m1 ++ [D], _, Pre.refl _, Pers.refl _, sD, Fin.mono (Pre.snoc m1 D) pD h1⟩, ?_⟩
  rintro i n H2 ⟨mm, st2, pm, p, s2, hf⟩
  obtain ⟨go, stop⟩ := sg i mm H2 st2 ((Pre.snoc m1 D).trans pm) (pD.trans p) s2
  cases n with
  | zero => exact hf.elim
  | succ n =>
    unfold dcLoop at hf
    split at hf
    · exact hf.elim
    · rename_i eg
      unfold dcEnd at hf
      split at hf
      · rename_i kvs ek
        obtain ⟨xs, rx, eH⟩ := (show CellOk X.K X.mg mm H2 D false (.dcK kvs) from s2.at_ _ _ _ D ek (pm _ _ eD))
        have eH : H2 D = some (.dK xs) := eH
        have s3 : StOk X.K X.mg mm H2 (st2.set st1.length (false, .dct kvs)) := by
          have q := s2.write (o := .dK xs) (c' := .dct kvs) (lk' := false) ek (pm _ _ eD) (by rw [show upd H2 D (.dK xs) = H2 from funext fun b => by by_cases hb : b = D <;> simp [upd, hb, eH]]; exact Pers.refl _) (.inl ⟨xs, rx.mono (Pre.refl _) (by rw [show upd H2 D (.dK xs) = H2 from funext fun b => by by_cases hb : b = D <;> simp [upd, hb, eH]]; exact Pers.refl _), upd_same⟩)
          rw [show upd H2 D (.dK xs) = H2 from funext fun b => by by_cases hb : b = D <;> simp [upd, hb, eH]] at q
          exact q
        exact .inl ⟨stop eg, hf mm H2 _ (Pre.refl _) (Pers.refl _) s3 ⟨D, rfl, pm _ _ eD⟩⟩
      · exact hf.elim
    · rename_i d eg
      obtain ⟨jg, jy⟩ := go d eg
      refine .inr ⟨jg, fun H3 => ∃ mm st3, Pre (m1 ++ [D]) mm ∧ Pers (upd H1 D (.dK [])) H3 ∧ StOk X.K X.mg mm H3 st3 ∧ Fin X.K X.mg (Rp X.K X.mg) W σ mm H3 (dcLoop g tg (wipeD env vs) tt tk te st1.length n (i + 1) st3) Q, fun H3 h3 => ⟨n, Nat.lt_succ_self n, h3⟩, fun x H3 hy => ?_⟩
      obtain ⟨p3, s3, r3⟩ := jy x H3 hy
      split at hf
      · exact hf.elim
      · rename_i env1 et
        have ho3 : EnvOk X.K X.mg mm H3 (wipeD env vs) (wipe σ vs) := ((((ho.mono pm1 p1).mono (Pre.snoc m1 D) pD).mono pm p).mono (Pre.refl _) p3).wipe vs
        refine ⟨mm, wipeD env vs, d, env1, ho3, r3, et, fun σ2 ho4 hw => ⟨(hw vs hsl).trans wipe_wipe, mm, env1, st2, ho4, s3, ?_⟩⟩
        split at hf
        · rename_i b st4 eb
          rw [eb]
          intro m5 H5 b5 pm5 p5 s5 rb
          cases (show b = b5 from rb)
          by_cases hb : b = true
          · subst hb
            rw [if_pos rfl] at hf ⊢
            split at hf
            · rename_i k st6 ek
              refine ⟨m5, env1, st4, ho4.mono pm5 p5, s5, ?_⟩
              rw [ek]
              intro m7 H7 k7 pm7 p7 s7 r7
              split at hf
              · rename_i y st8 ey
                refine ⟨m7, env1, st6, (ho4.mono pm5 p5).mono pm7 p7, s7, ?_⟩
                rw [ey]
                intro m9 H9 y9 pm9 p9 s9 r9
                split at hf
                · rename_i st10 e10
                  have em : m9[st1.length]? = some D := pm9 _ _ (pm7 _ _ (pm5 _ _ (pm _ _ eD)))
                  obtain ⟨kvs, k', ek', eH, hl, s11, p11⟩ := dcPut_of s9 em (Rp.mono pm9 p9 _ _ r7) r9 e10
                  exact ⟨kvs, k', ek', eH, hl, m9, st10, ((pm.trans pm5).trans pm7).trans pm9, ((((p.trans p3).trans p5).trans p7).trans p9).trans p11, s11, Fin.mono ((pm5.trans pm7).trans pm9) ((((p3.trans p5).trans p7).trans p9).trans p11) hf⟩
                · exact hf.elim
              · exact hf.elim
            · exact hf.elim
          · rw [if_neg hb] at hf ⊢
            exact ⟨m5, st4, pm.trans pm5, (p.trans p3).trans p5, s5, Fin.mono pm5 (p3.trans p5) hf⟩
        · exact hf.elim
variable {kx vx : Expr} {tk : Ev D}
theorem pe_evDc (hc : X.calm = true) (hN : X.N.Nodup) (hi : PI X tg iter (rdI X.K X.mg W src)) (ok : blkC X.N X.env.scope scope own = true) (hsl : sl.all (fun i => (own.map (·.2)).contains i) = true) (hg : BlkG X scope tg sl tgt) (ht : BlkT X scope ifs tt) (hk : BlkE X scope kx tk) (he : BlkE X scope vx te)
    (hs : ∀ x, foldedSetIterable iter X.env x = pure x := by intro _; rfl) : PE X (.DictComp kx vx [⟨tg, iter, ifs, 0⟩] scope pos) (rdE X.K X.mg W (evDc src tgt (own.map (·.2)) tt tk te)) :=
  PE.weak (pe_dc hc hN hi (blkOk_by ok) hg ht hk he hs) fun _ _ _ h => rd_dc (fun i hi => List.contains_iff_mem.mp (List.all_eq_true.mp hsl i hi)) h
end
end PP
set_option Elab.async false
set_option linter.all false
set_option maxRecDepth 100000
set_option maxHeartbeats 2000000
/-! PP11: statements. -/
namespace PP
open PySem PySem.Spec PyProof.Rows L2
variable [Tbl]

inductive Flw where
  | nx (env : EnvD) | rt (d : D) | bk (env : EnvD) | ct (env : EnvD)
inductive ResS where
  | fl (f : Flw) (st : Store)
  | er (c : Str) (fs : List (Str × D)) (env : EnvD) (st : Store)
  | stuck
abbrev Ss := EnvD → Store → ResS
def ofE {α : Type} (env : EnvD) (r : Res α) (k : α → Store → ResS) : ResS := match r with
  | .ok a st => k a st
  | .err c fs st => .er c fs env st
  | .stuck => .stuck
def sNext : Ss := fun env st => .fl (.nx env) st
def sBrk : Ss := fun env st => .fl (.bk env) st
def sCont : Ss := fun env st => .fl (.ct env) st
def sSeq (f g : Ss) : Ss := fun env st => match f env st with
  | .fl (.nx e) s => g e s
  | r => r
def sSet (i : Nat) (f : Ev D) : Ss := fun env st => ofE env (f env st) fun d s => .fl (.nx (env.set i (some d))) s
def sTg (t : Tgt) (f : Ev D) : Ss := fun env st => ofE env (f env st) fun d s => match t d env with
  | some e => .fl (.nx e) s
  | none => .stuck
/-- a, b = x, y (both sides written) -/
def sPar (i j : Nat) (f : Ev (List D)) : Ss := fun env st => ofE env (f env st) fun ds s => match ds with
  | [d, e] => .fl (.nx ((env.set i (some d)).set j (some e))) s
  | _ => .stuck
def sSub (put : OpS) (o i v : Ev D) : Ss := fun env st => ofE env (v env st) fun x s1 => ofE env (o env s1) fun d s2 => ofE env (i env s2) fun k s3 => match put d k x s3 with
  | some s4 => .fl (.nx env) s4
  | none => .stuck
def sAug (i : Nat) (op : Op2) (f : Ev D) : Ss := fun env st => match env[i]? with
  | some (some d) => ofE env (f env st) fun e s => match op d e s with
    | some (r, s1) => .fl (.nx (env.set i (some r))) s1
    | none => .stuck
  | _ => .stuck
def sExpr (f : Ev D) : Ss := fun env st => ofE env (f env st) fun _ s => .fl (.nx env) s
def sRet (f : Ev D) : Ss := fun env st => ofE env (f env st) fun d s => .fl (.rt d) s
def sRetN : Ss := fun _ st => .fl (.rt .non) st
def sIf (c : Ev Bool) (f g : Ss) : Ss := fun env st => ofE env (c env st) fun b s => if b = true then f env s else g env s
def forE (g : Src) (tg : Tgt) (body : Ss) : Nat → Nat → Ss
  | 0, _ => fun _ _ => .stuck
  | n + 1, i => fun env st => match g i st with
    | none => .stuck
    | some none => .fl (.nx env) st
    | some (some d) => match tg d env with
      | none => .stuck
      | some env1 => match body env1 st with
        | .fl (.nx e) s => forE g tg body n (i + 1) e s
        | .fl (.ct e) s => forE g tg body n (i + 1) e s
        | .fl (.bk e) s => .fl (.nx e) s
        | r => r
def sFor (src : Ev Src) (tg : Tgt) (body : Ss) : Ss := fun env st => ofE env (src env st) fun g s => forE g tg body fuelF 0 env s
def whileE (c : Ev Bool) (body : Ss) : Nat → Ss
  | 0 => fun _ _ => .stuck
  | n + 1 => fun env st => ofE env (c env st) fun b s => if b = true then match body env s with
      | .fl (.nx e) s => whileE c body n e s
      | .fl (.ct e) s => whileE c body n e s
      | .fl (.bk e) s => .fl (.nx e) s
      | r => r else .fl (.nx env) s
def fuelW : Nat := 1000000000
def sWhile (c : Ev Bool) (body : Ss) : Ss := whileE c body fuelW

section
variable (K : PySem.W.Frag) (mg : Str → Option Value)
def FlOk (D : Ends) (m : List Addr) (H : Hp) : Flw → Prop
  | .nx env => ∀ σ, EnvOk K mg m H env σ → D.nx σ H
  | .rt d => ∀ v, Rp K mg m H d v → D.rt v H
  | .bk env => ∀ σ, EnvOk K mg m H env σ → D.bk σ H
  | .ct env => ∀ σ, EnvOk K mg m H env σ → D.ct σ H
def FinS (W : WX) (D : Ends) (m : List Addr) (H : Hp) : ResS → Prop
  | .fl f st => ∀ m' H', Pre m m' → Pers H H' → StOk K mg m' H' st → FlOk K mg D m' H' f
  | .er c fs env st => ∀ m' H' σ cls dd, Pre m m' → Pers H H' → StOk K mg m' H' st → EnvOk K mg m' H' env σ → ExOk K mg m' H' c fs cls dd → W cls dd σ H'
  | .stuck => False
def rdS (W : WX) (f : Ss) : TS := fun D σ H => ∃ m env st, EnvOk K mg m H env σ ∧ StOk K mg m H st ∧ FinS K mg W D m H (f env st)
variable {K mg}
variable {W : WX} {D : Ends} {m m1 : List Addr} {H H1 : Hp} {σ : L2.St}
theorem FinS.mono {r : ResS} (pm : Pre m m1) (p : Pers H H1) (h : FinS K mg W D m H r) : FinS K mg W D m1 H1 r := by
  cases r with
  | fl f st => exact fun m' H' a1 a2 => h m' H' (pm.trans a1) (p.trans a2)
  | er c fs env st => exact fun m' H' σ cls dd a1 a2 => h m' H' σ cls dd (pm.trans a1) (p.trans a2)
  | stuck => exact h
/-- an expression, then the rest -/
theorem FinS.ofE {α β : Type} {R : RL α β} {env : EnvD} {r : Res α} {k : α → Store → ResS} (ho : EnvOk K mg m H env σ) (h : FinS K mg W D m H (PP.ofE env r k)) :
    Fin K mg R W σ m H r (fun y H1 => ∃ m1 st1 a, Pre m m1 ∧ Pers H H1 ∧ StOk K mg m1 H1 st1 ∧ R m1 H1 a y ∧ FinS K mg W D m1 H1 (k a st1)) := by
  cases r with
  | ok a st => exact fun m' H' v a1 a2 a3 a4 => ⟨m', st, a, a1, a2, a3, a4, FinS.mono a1 a2 h⟩
  | err c fs st => exact fun m' H' cls dd a1 a2 a3 a4 => h m' H' σ cls dd a1 a2 a3 (ho.mono a1 a2) a4
  | stuck => exact h
theorem FinS.here {f : Flw} {st : Store} (h : FinS K mg W D m H (.fl f st)) (so : StOk K mg m H st) : FlOk K mg D m H f := h m H (Pre.refl m) (Pers.refl H) so
end
section
variable {X : Cx} {W : WX} {pos : Pos} {e : Expr} {f : Ev D}
theorem ps_sNext {st : Stmt} (h : PS X st tNext) : PS X st (rdS X.K X.mg W sNext) := PS.weak h fun D σ H h => by
  obtain ⟨m, env, st, ho, so, h⟩ := h
  exact h.here so σ ho
theorem ps_sPass : PS X (.Pass pos) (rdS X.K X.mg W sNext) := ps_sNext ps_pass
theorem ps_sDoc {x j pos'} : PS X (.Expr (.Constant (.str x) j pos) pos') (rdS X.K X.mg W sNext) := ps_sNext ps_doc
theorem ps_sBrk : PS X (.Break pos) (rdS X.K X.mg W sBrk) := PS.weak ps_break fun D σ H h => by
  obtain ⟨m, env, st, ho, so, h⟩ := h
  exact h.here so σ ho
theorem ps_sCont : PS X (.Continue pos) (rdS X.K X.mg W sCont) := PS.weak ps_continue fun D σ H h => by
  obtain ⟨m, env, st, ho, so, h⟩ := h
  exact h.here so σ ho
theorem pss_sNil : PSs X [] (rdS X.K X.mg W sNext) := PSs.weak pss_nil fun D σ H h => by
  obtain ⟨m, env, st, ho, so, h⟩ := h
  exact h.here so σ ho
theorem rd_seq {f g : Ss} {D : Ends} {σ : L2.St} {H : Hp} (h : rdS X.K X.mg W (sSeq f g) D σ H) : tSeq (rdS X.K X.mg W f) (rdS X.K X.mg W g) D σ H := by
  obtain ⟨m, env, st, ho, so, h⟩ := h
  refine ⟨m, env, st, ho, so, ?_⟩
  unfold sSeq at h
  split at h
  · rename_i e s ef
    rw [ef]
    exact fun m' H' a1 a2 a3 σ' ho' => ⟨m', e, s, ho', a3, FinS.mono a1 a2 h⟩
  · rename_i ef
    cases r : f env st with
    | fl fl s =>
      rw [r] at h ef
      cases fl with
      | nx e => exact absurd rfl (ef e s)
      | rt d => exact h
      | bk e => exact h
      | ct e => exact h
    | er c fs e s => rw [r] at h; exact h
    | stuck => rw [r] at h; exact h
theorem pss_sSeq {st : Stmt} {rest : List Stmt} {f g : Ss} (h1 : PS X st (rdS X.K X.mg W f)) (h2 : PSs X rest (rdS X.K X.mg W g)) : PSs X (st :: rest) (rdS X.K X.mg W (sSeq f g)) := PSs.weak (pss_cons h1 h2) fun _ _ _ h => rd_seq h
theorem pss_sOne {st : Stmt} {f : Ss} (h1 : PS X st (rdS X.K X.mg W f)) : PSs X [st] (rdS X.K X.mg W f) := pss_one h1
theorem rd_asg {f : Ev D} {g : TG} {k : D → EnvD → Store → ResS} {D : Ends} {σ : L2.St} {H : Hp} (hk : ∀ m env d v st H, EnvOk X.K X.mg m H env σ → StOk X.K X.mg m H st → Rp X.K X.mg m H d v → FinS X.K X.mg W D m H (k d env st) → g v σ H D.nx)
    (h : rdS X.K X.mg W (fun env st => ofE env (f env st) fun d s => k d env s) D σ H) : tAsg (rdE X.K X.mg W f) g D σ H := by
  obtain ⟨m, env, st, ho, so, h⟩ := h
  refine ⟨m, env, st, ho, so, (FinS.ofE (R := Rp X.K X.mg) ho h).imp fun v H1 p hv => ?_⟩
  obtain ⟨m1, st1, d, pm, _, s1, r1, h1⟩ := hv
  exact hk m1 env d v st1 H1 (ho.mono pm p) s1 r1 h1
theorem rd_sSet {i : Nat} {D : Ends} {σ : L2.St} {H : Hp} (h : rdS X.K X.mg W (sSet i f) D σ H) : tAsg (rdE X.K X.mg W f) (gName i) D σ H :=
  rd_asg (k := fun d env s => .fl (.nx (env.set i (some d))) s) (fun m env d v st H ho so r h => h.here so _ (ho.set r)) h
theorem ps_sSet {i : Nat} {x : Str} {pos' : Pos} (hN : X.N.Nodup) (hi : X.N[i]? = some x) (hx : Loc X.env.scope x) (he : PE X e (rdE X.K X.mg W f)) (hs : swapsWith e (some (.Name x pos')) pos.line X.env = pure false := by rfl) (hf : X.fn x = true ∨ X.env.scope.names.lookup x = some .local := by first | exact .inl rfl | exact .inr rfl | assumption) :
    PS X (.Assign [.Name x pos'] e pos) (rdS X.K X.mg W (sSet i f)) := PS.weak (ps_set hN hi hx he hs hf) fun _ _ _ h => rd_sSet h
theorem rd_sTg {sl : List Nat} {t : Tgt} {D : Ends} {σ : L2.St} {H : Hp} (h : rdS X.K X.mg W (sTg t f) D σ H) : tAsg (rdE X.K X.mg W f) (rdTg X.K X.mg sl t) D σ H :=
  rd_asg (k := fun d env s => match t d env with
    | some e => .fl (.nx e) s
    | none => .stuck) (fun m env d v st H ho so r h => by
      split at h
      · rename_i env1 e1
        exact ⟨m, env, d, env1, ho, r, e1, fun σ' ho' _ => h.here so σ' ho'⟩
      · exact h.elim) h
theorem ps_sTg {tg : Expr} {sl : List Nat} {t : Tgt} (he : PE X e (rdE X.K X.mg W f)) (hg : PG X tg (rdTg X.K X.mg sl t)) (hs : swapsWithSole [tg] e pos.line X.env = pure false := by rfl) (hw : swappedStores [tg] e X.env = pure none := by rfl)
    (h1 : (assignEach [tg] X.env).map (·.2) = [assign tg X.env] := by rfl) : PS X (.Assign [tg] e pos) (rdS X.K X.mg W (sTg t f)) := PS.weak (ps_asg he hg hs hw h1) fun _ _ _ h => rd_sTg h
theorem ps_sPar {i j : Nat} {x y : Str} {a b : Expr} {fl : Ev (List D)} {px py pt : Pos} {kt k2 pt2} (hc : X.calm = true) (hN : X.N.Nodup) (hi : X.N[i]? = some x) (hj : X.N[j]? = some y) (hij : i ≠ j)
    (hx : X.env.scope.names.lookup x = some .local) (hy : X.env.scope.names.lookup y = some .local) (ha : PA X [a, b] (rdA X.K X.mg W fl))
    (hw : swappedStores [.Tuple [.Name x px, .Name y py] kt pt] (.Tuple [a, b] k2 pt2) X.env = pure (some [x, y]))
    (hs : swapsWithSole [.Tuple [.Name x px, .Name y py] kt pt] (.Tuple [a, b] k2 pt2) pos.line X.env = pure false := by rfl) :
    PS X (.Assign [.Tuple [.Name x px, .Name y py] kt pt] (.Tuple [a, b] k2 pt2) pos) (rdS X.K X.mg W (sPar i j fl)) := PS.weak (ps_par hc hN hi hj hij hx hy ha hw hs) fun D σ H h => by
  obtain ⟨m, env, st, ho, so, h⟩ := h
  refine ⟨m, env, st, ho, so, (FinS.ofE (R := RpL X.K X.mg) ho h).imp fun vs H1 p hv => ?_⟩
  obtain ⟨m1, st1, ds, pm, _, s1, r1, h1⟩ := hv
  split at h1
  · rename_i d e
    obtain ⟨v, w, rfl, rv, rw'⟩ := r1.two
    exact ⟨v, w, rfl, h1.here s1 _ (((ho.mono pm p).set rv).set rw')⟩
  · exact h1.elim
theorem ps_sSub {o i : Expr} {fo fi fv : Ev D} {put : OpS} {pos' : Pos} (hset : PSet X (rdSet X.K X.mg put)) (ho : PE X o (rdE X.K X.mg W fo)) (hi : PE X i (rdE X.K X.mg W fi)) (hv : PE X e (rdE X.K X.mg W fv))
    (ha : ∀ v, assign (.Subscript o i pos') X.env v = (do
      let ov ← holding [v] (eval o X.env)
      let iv ← holding [v, ov] (eval i X.env)
      standAt pos'
      holding [v, ov, iv] (setItem ov iv v)
      release [v, ov, iv] []) := by intro _; rfl)
    (hs : swapsWithSole [.Subscript o i pos'] e pos.line X.env = pure false := by rfl) (hw : swappedStores [.Subscript o i pos'] e X.env = pure none := by rfl)
    (h1 : (assignEach [.Subscript o i pos'] X.env).map (·.2) = [assign (.Subscript o i pos') X.env] := by rfl) : PS X (.Assign [.Subscript o i pos'] e pos) (rdS X.K X.mg W (sSub put fo fi fv)) :=
  PS.weak (ps_asg hv (pg_sub ho hi hset ha) hs hw h1) fun D σ H h => by
    obtain ⟨m, env, st, hv0, so, h⟩ := h
    refine ⟨m, env, st, hv0, so, (FinS.ofE (R := Rp X.K X.mg) hv0 h).imp fun v H1 p hv => ?_⟩
    obtain ⟨m1, st1, d1, pm, _, s1, r1, h1⟩ := hv
    have hv1 := hv0.mono pm p
    refine ⟨m1, env, st1, hv1, s1, (FinS.ofE (R := Rp X.K X.mg) hv1 h1).imp fun o H2 p2 hv => ?_⟩
    obtain ⟨m2, st2, d2, pm2, _, s2, r2, h2⟩ := hv
    have hv2 := hv1.mono pm2 p2
    refine ⟨m2, env, st2, hv2, s2, (FinS.ofE (R := Rp X.K X.mg) hv2 h2).imp fun k H3 p3 hv => ?_⟩
    obtain ⟨m3, st3, d3, pm3, _, s3, r3, h3⟩ := hv
    split at h3
    · rename_i st4 e4
      exact ⟨m3, st3, d2, d3, d1, s3, Rp.mono pm3 p3 _ _ r2, r3, Rp.mono pm3 p3 _ _ (Rp.mono pm2 p2 _ _ r1), st4, e4, fun H4 p4 s4 => h3 m3 H4 (Pre.refl _) p4 s4 σ ((hv2.mono pm3 p3).mono (Pre.refl _) p4)⟩
    · exact h3.elim
theorem ps_sAug {i : Nat} {x : Str} {op : Operator} {g : Op2} {pos' : Pos} (hN : X.N.Nodup) (hi : X.N[i]? = some x) (hx : Loc X.env.scope x) (he : PE X e (rdE X.K X.mg W f)) (hop : PIp X op (rdOp2 X.K X.mg g)) (hf : X.fn x = true ∨ X.env.scope.names.lookup x = some .local := by first | exact .inl rfl | exact .inr rfl | assumption) :
    PS X (.AugAssign (.Name x pos') op e pos) (rdS X.K X.mg W (sAug i g f)) := PS.weak (ps_aug hN hi hx he hop hf) fun D σ H h => by
  obtain ⟨m, env, st, ho, so, h⟩ := h
  unfold sAug at h
  split at h
  · rename_i d ed
    obtain ⟨v, ev, rv⟩ := ho.at_ i d ed
    refine ⟨v, ev, m, env, st, ho, so, (FinS.ofE (R := Rp X.K X.mg) ho h).imp fun w H1 p hv => ?_⟩
    obtain ⟨m1, st1, d1, pm, _, s1, r1, h1⟩ := hv
    refine ⟨m1, st1, d, d1, s1, Rp.mono pm p _ _ rv, r1, ?_⟩
    cases eg : g d d1 st1 with
    | none => rw [eg] at h1; exact h1.elim
    | some q =>
      obtain ⟨r, st2⟩ := q
      rw [eg] at h1
      exact fun m' H' z a1 a2 a3 a4 => h1 m' H' a1 a2 a3 _ (((ho.mono pm p).mono a1 a2).set a4)
  · exact h.elim
theorem ps_sExpr (he : PE X e (rdE X.K X.mg W f)) (hs : swapsWith e none pos.line X.env = pure false := by rfl) : PS X (.Expr e pos) (rdS X.K X.mg W (sExpr f)) := PS.weak (ps_expr he hs) fun D σ H h => by
  obtain ⟨m, env, st, ho, so, h⟩ := h
  refine ⟨m, env, st, ho, so, (FinS.ofE (R := Rp X.K X.mg) ho h).imp fun w H1 p hv => ?_⟩
  obtain ⟨m1, st1, d1, pm, _, s1, r1, h1⟩ := hv
  exact h1.here s1 σ (ho.mono pm p)
theorem ps_sRet (he : PE X e (rdE X.K X.mg W f)) : PS X (.Return (some e) pos) (rdS X.K X.mg W (sRet f)) := PS.weak (ps_ret he) fun D σ H h => by
  obtain ⟨m, env, st, ho, so, h⟩ := h
  refine ⟨m, env, st, ho, so, (FinS.ofE (R := Rp X.K X.mg) ho h).imp fun w H1 p hv => ?_⟩
  obtain ⟨m1, st1, d1, pm, _, s1, r1, h1⟩ := hv
  exact h1.here s1 w r1
theorem ps_sRetN : PS X (.Return none pos) (rdS X.K X.mg W sRetN) := PS.weak ps_retN fun D σ H h => by
  obtain ⟨m, env, st, ho, so, h⟩ := h
  exact h.here so _ rfl
theorem ps_sIf {c : Expr} {tc : Ev Bool} {a b : List Stmt} {f g : Ss} (hc : PT X c (rdT X.K X.mg W tc)) (ha : PSs X a (rdS X.K X.mg W f)) (hb : PSs X b (rdS X.K X.mg W g)) : PS X (.If c a b pos) (rdS X.K X.mg W (sIf tc f g)) := PS.weak (ps_if hc ha hb) fun D σ H h => by
  obtain ⟨m, env, st, ho, so, h⟩ := h
  refine ⟨m, env, st, ho, so, (FinS.ofE (R := rEq Bool) ho h).imp fun w H1 p hv => ?_⟩
  obtain ⟨m1, st1, d1, pm, _, s1, r1, h1⟩ := hv
  cases (show d1 = w from r1)
  cases w with
  | true => exact ⟨m1, env, st1, ho.mono pm p, s1, h1⟩
  | false => exact ⟨m1, env, st1, ho.mono pm p, s1, h1⟩
/-- one turn's end: on, or out -/
theorem turn_end {D : Ends} {m : List Addr} {H : Hp} {r : ResS} {again : EnvD → Store → ResS} {N : L2.St → Hp → Prop} (hN : ∀ m' H' e s σ, Pre m m' → Pers H H' → StOk X.K X.mg m' H' s → EnvOk X.K X.mg m' H' e σ → FinS X.K X.mg W D m' H' (again e s) → N σ H')
    (h : FinS X.K X.mg W D m H (match r with
      | .fl (.nx e) s => again e s
      | .fl (.ct e) s => again e s
      | .fl (.bk e) s => .fl (.nx e) s
      | r => r)) : FinS X.K X.mg W { D with nx := N, ct := N, bk := D.nx } m H r := by
  cases r with
  | fl f s =>
    cases f with
    | nx e => exact fun m' H' a1 a2 a3 σ ho => hN m' H' e s σ a1 a2 a3 ho (FinS.mono a1 a2 h)
    | ct e => exact fun m' H' a1 a2 a3 σ ho => hN m' H' e s σ a1 a2 a3 ho (FinS.mono a1 a2 h)
    | bk e => exact h
    | rt d => exact h
  | er c fs e s => exact h
  | stuck => exact h
theorem ps_sFor {tg iter : Expr} {body : List Stmt} {src : Ev Src} {sl : List Nat} {t : Tgt} {b : Ss} (hp : PassesOwn (model X.prog X.w) X.A X.env X.xe) (hc : X.calm = true) (hi : PI X tg iter (rdI X.K X.mg W src)) (hg : PG X tg (rdTg X.K X.mg sl t)) (hb : PSs X body (rdS X.K X.mg W b))
    (hs : ∀ x, foldedSetIterable iter X.env x = pure x := by intro _; rfl) : PS X (.For tg iter body [] pos) (rdS X.K X.mg W (sFor src t b)) := PS.weak (ps_for hp hc hi hg hb hs) fun D σ H h => by
  obtain ⟨m, env, st, ho, so, h⟩ := h
  refine ⟨m, env, st, ho, so, (FinS.ofE (R := SrcOk X.K X.mg) ho h).imp fun J H1 p1 hv => ?_⟩
  obtain ⟨m1, st1, g, pm1, _, s1, sg, h1⟩ := hv
  refine ⟨fun i n σ H => ∃ mm env2 st2, Pre m1 mm ∧ Pers H1 H ∧ EnvOk X.K X.mg mm H env2 σ ∧ StOk X.K X.mg mm H st2 ∧ FinS X.K X.mg W D mm H (forE g t b n i env2 st2), ⟨fuelF, m1, env, st1, Pre.refl _, Pers.refl _, ho.mono pm1 p1, s1, h1⟩, ?_⟩
  rintro i n σ2 H2 ⟨mm, env2, st2, pm, p, ho2, s2, hf⟩
  obtain ⟨go, stop⟩ := sg i mm H2 st2 pm p s2
  cases n with
  | zero => exact hf.elim
  | succ n =>
    unfold forE at hf
    split at hf
    · exact hf.elim
    · rename_i eg
      exact .inl ⟨stop eg, hf.here s2 σ2 ho2⟩
    · rename_i d eg
      obtain ⟨jg, jy⟩ := go d eg
      refine .inr ⟨jg, fun σ H => ∃ mm env2 st2, Pre m1 mm ∧ Pers H1 H ∧ EnvOk X.K X.mg mm H env2 σ ∧ StOk X.K X.mg mm H st2 ∧ FinS X.K X.mg W D mm H (forE g t b n (i + 1) env2 st2), fun σ3 H3 h3 => ⟨n, Nat.lt_succ_self n, h3⟩, fun x H3 hy => ?_⟩
      obtain ⟨p3, s3, r3⟩ := jy x H3 hy
      split at hf
      · exact hf.elim
      · rename_i env3 et
        have ho3 := ho2.mono (Pre.refl mm) p3
        refine ⟨mm, env2, d, env3, ho3, r3, et, fun σ4 ho4 _ => ⟨mm, env3, st2, ho4, s3, ?_⟩⟩
        exact turn_end (again := forE g t b n (i + 1)) (fun m' H' e s σ5 a1 a2 a3 ho5 hf5 => ⟨m', e, s, pm.trans a1, (p.trans p3).trans a2, ho5, a3, hf5⟩) (FinS.mono (Pre.refl mm) p3 hf)
theorem ps_sWhile {c : Expr} {body : List Stmt} {tc : Ev Bool} {b : Ss} (hp : PassesOwn (model X.prog X.w) X.A X.env X.xe) (hc : PT X c (rdT X.K X.mg W tc)) (hb : PSs X body (rdS X.K X.mg W b)) : PS X (.While c body [] pos) (rdS X.K X.mg W (sWhile tc b)) := PS.weak (ps_while hp hc hb) fun D σ H h => by
  obtain ⟨m, env, st, ho, so, h⟩ := h
  refine ⟨fun n σ H => ∃ m env st, EnvOk X.K X.mg m H env σ ∧ StOk X.K X.mg m H st ∧ FinS X.K X.mg W D m H (whileE tc b n env st), ⟨fuelW, m, env, st, ho, so, h⟩, ?_⟩
  rintro n σ2 H2 ⟨m2, env2, st2, ho2, s2, hf⟩
  cases n with
  | zero => exact hf.elim
  | succ n =>
    refine ⟨m2, env2, st2, ho2, s2, (FinS.ofE (R := rEq Bool) ho2 (by unfold whileE at hf; exact hf)).imp fun w H3 p3 hv => ?_⟩
    obtain ⟨m3, st3, d3, pm3, _, s3, r3, h3⟩ := hv
    cases (show d3 = w from r3)
    have ho3 := ho2.mono pm3 p3
    by_cases hd : w = true
    · rw [if_pos hd] at h3
      rw [if_pos hd]
      exact ⟨fun σ H => ∃ m env st, EnvOk X.K X.mg m H env σ ∧ StOk X.K X.mg m H st ∧ FinS X.K X.mg W D m H (whileE tc b n env st), fun σ' H' h' => ⟨n, Nat.lt_succ_self n, h'⟩, m3, env2, st3, ho3, s3,
        turn_end (again := whileE tc b n) (fun m' H' e s σ5 a1 a2 a3 ho5 hf5 => ⟨m', e, s, ho5, a3, hf5⟩) h3⟩
    · rw [if_neg hd] at h3
      rw [if_neg hd]
      exact h3.here s3 σ2 ho3
end
end PP
set_option Elab.async false
set_option linter.all false
set_option maxRecDepth 100000
set_option maxHeartbeats 2000000
/-! PP12: defs of the text: what they promise, their calls, the law's own call. -/
namespace PP
open PySem PySem.Spec PyProof.Rows L2
variable [Tbl]

/-- a def as a function of data -/
abbrev Fn := List D → Store → Res D
def startD (n : Nat) (ds : List D) : EnvD := ds.map some ++ List.replicate (n - ds.length) none
def runS (n : Nat) (f : Ss) : Fn := fun ds st => match f (startD n ds) st with
  | .fl (.rt d) s => .ok d s
  | .fl (.nx _) s => .ok .non s
  | .er c fs _ s => .err c fs s
  | _ => .stuck
def evCall (g : Fn) (a : Ev (List D)) : Ev D := fun env st => (a env st).bind fun ds s => g ds s

section
variable (K : PySem.W.Frag) (mg : Str → Option Value)
def FinC (m : List Addr) (H : Hp) (r : Res D) (Q : VK) (E : XK) : Prop := match r with
  | .ok d st => ∀ m' H' v, Pre m m' → Pers H H' → StOk K mg m' H' st → Rp K mg m' H' d v → Q v H'
  | .err c fs st => ∀ m' H' cls dd, Pre m m' → Pers H H' → StOk K mg m' H' st → ExOk K mg m' H' c fs cls dd → E cls dd H'
  | .stuck => False
def spG (n : Nat) (g : Fn) : Sp := fun vs H Q E => ∃ m st ds, StOk K mg m H st ∧ RpL K mg m H ds vs ∧ ds.length = n ∧ FinC K mg m H (g ds st) Q E
/-- f keeps the promise of g, called where no repr is under way -/
structure FnG (P : Program) (w : World) (base : Heap) (k : Nat) (f : Addr) (fd : FuncData) (ps : List Str) (g : Fn) : Prop where
  run : ∀ (A : Around) (outer : List Env) (s : Shared) (H : Hp) (args : Args) (us : List Value) (vs : List V) (Q : VK) (E : XK), Room k A → A.guards = some [] → Env0 P w K mg base A outer s H → BindsTo s fd args (ps.zip us) → Vals vs us →
    spG K mg ps.length g vs H Q E → codeAny (model P w) A (.call (.ref f) args) (CR (L2.CX P w) outer P w H s Q E) s
variable {K mg}
theorem FnG.mono {P : Program} {w : World} {base : Heap} {j k : Nat} {f : Addr} {fd : FuncData} {ps : List Str} {g : Fn} (F : FnG K mg P w base j f fd ps g) (h : j ≤ k) : FnG K mg P w base k f fd ps g :=
  ⟨fun A outer s H args us vs Q E hr => F.run A outer s H args us vs Q E (hr.mono h)⟩
theorem spG.len {n : Nat} {g : Fn} {vs : List V} {H : Hp} {Q : VK} {E : XK} (h : spG K mg n g vs H Q E) : vs.length = n := by
  obtain ⟨m, st, ds, _, r, e, _⟩ := h
  rw [r.length, e]
theorem start_ok {m : List Addr} {H : Hp} {N : List Str} {ds : List D} {vs : List V} (r : RpL K mg m H ds vs) (hl : ds.length ≤ N.length) : EnvOk K mg m H (startD N.length ds) (L2.start N vs) := by
  refine ⟨?_, fun i d e => ?_⟩
  · unfold startD L2.start
    simp only [List.length_append, List.length_map, List.length_replicate]
    rw [r.length]
  · unfold startD at e
    by_cases hi : i < ds.length
    · rw [List.getElem?_append_left (by rw [List.length_map]; exact hi), List.getElem?_map] at e
      obtain ⟨d', e1, e2⟩ := Option.map_eq_some_iff.mp e
      cases e2
      obtain ⟨v, ev, rv⟩ := r.get e1
      refine ⟨v, ?_, rv⟩
      unfold L2.start
      rw [List.getElem?_append_left (by rw [List.length_map, r.length]; exact hi), List.getElem?_map, ev]
      rfl
    · exfalso
      rw [List.getElem?_append_right (by rw [List.length_map]; omega)] at e
      have := List.mem_of_getElem? e
      rw [List.mem_replicate] at this
      cases this.2
end
section
variable {P : Program} {w : World} {K : PySem.W.Frag} {mg : Str → Option Value} {base : Heap}
/-- a body's end is the def's -/
theorem runS_fin {W : WX} {f : Ss} {N : List Str} {ds : List D} {st : Store} {m : List Addr} {H : Hp} {Q : VK} {E : XK} (hW : ∀ cls d σ H, E cls d H → W cls d σ H) (h : FinC K mg m H (runS N.length f ds st) Q E) :
    FinS K mg W { nx := fun _ H' => Q .non H', rt := Q } m H (f (startD N.length ds) st) := by
  unfold runS at h
  cases e : f (startD N.length ds) st with
  | fl fl s =>
    rw [e] at h
    cases fl with
    | nx env => exact fun m' H' a1 a2 a3 σ _ => h m' H' .non a1 a2 a3 rfl
    | rt d => exact fun m' H' a1 a2 a3 v r => h m' H' v a1 a2 a3 r
    | bk env => exact h.elim
    | ct env => exact h.elim
  | er c fs env s =>
    rw [e] at h
    exact fun m' H' σ cls dd a1 a2 a3 _ x => hW cls dd σ H' (h m' H' cls dd a1 a2 a3 x)
  | stuck => rw [e] at h; exact h
/-- a def by its body -/
theorem fnG_of {k : Nat} {f : Addr} {name qual : Str} {params : Arguments} {body : List Stmt} {scope : Scope} {dV kV doc pm cdv ct oc : Value} {an od : Option Addr} {osl : Array (Option Value)} {N ps : List Str} {b : Ss}
    (lk : K.lookup f = some ⟨oc, od, .func (PySem.W.fnOf name qual params body scope dV kV doc pm an cdv ct), osl⟩) (hcd : PySem.W.codeIn K cdv qual = true) (S : FnScope N ps scope)
    (hb : ∀ (A : Around) (outer : List Env) (s : Shared) (H : Hp) (E : XK), Room k (A.deeper (envOfC qual scope s.heap.objs.size f cdv)) → (A.deeper (envOfC qual scope s.heap.objs.size f cdv)).guards = some [] →
      PSs (cxOf (L2.CX P w) P w K mg base N qual scope f cdv A outer s H E) body (rdS K mg (fun cls d _ H => E cls d H) b)) :
    FnG K mg P w base (k + 1) f (PySem.W.fnOf name qual params body scope dV kV doc pm an cdv ct) ps (runS N.length b) := by
  constructor
  intro A outer s H args us vs Q E hr hgs e0 bd rel hsp
  have hlen := spG.len hsp
  have hold : ∀ a u, base.get? a = some u → s.heap.get? a = some u := fun a u q => (e0.bs a u q).1
  have kinS : K.In s.heap := e0.mod.kin.keeps hold
  have noLim : s.heap.NoLimit := e0.mod.nolimit.keeps hold
  refine codeAny_call_function hr.depth (kinS _ _ lk) rfl S.co S.gen rfl (PySem.W.codeRec_of kinS hcd) (bd _ _ _ _ ?_)
  refine wpAny_newFunctionEnv_cells S.kind (fun y hy => ?_) fun env henv s2 fresh => ?_
  · rcases S.par y.1 (List.of_mem_zip (a := y.1) (b := y.2) hy).1 with hloc | hcell
    · exact .inl hloc
    · exact .inr ⟨hcell, PySem.W.cellsFrom_some _ _ _ (.inl hcell)⟩
  · subst henv
    refine ⟨noLim.keeps fresh.toInCall.keep, codeAny_func ?_⟩
    have J0 := inv_start (CX := L2.CX P w) (E := E) S hr.hd e0 hlen rel fresh
    have run := (hb A outer s H E (hr.deeper _) hgs).run [] s2 (L2.start N vs) H { nx := fun _ H' => Q .non H', rt := Q } J0
    obtain ⟨m, st, ds, so, rl, hd, fc⟩ := hsp
    have hle : ds.length ≤ N.length := by
      have := congrArg List.length S.pre
      rw [List.length_take] at this
      omega
    have done : ∀ {σ' : L2.St} {H' : Hp} {s' : Shared} {v : V} {u : Value}, Inv (cxOf (L2.CX P w) P w K mg base N qual scope f cdv A outer s H E) [] σ' H' s' → RelV v u → Q v H' → CE outer P w H s Q u s' :=
      fun {_ H' _ v _} J rv q => ⟨v, H', J.os, J.bare, J.base, J.hok, rv, q⟩
    refine wpAny_mono (run ⟨m, startD N.length ds, st, start_ok rl hle, so, runS_fin (fun _ _ _ _ z => z) fc⟩) (fun fl s3 hfl => ?_) fun _ _ z => z
    cases fl with
    | next => obtain ⟨_, _, J, q⟩ := hfl; exact done (v := V.non) (u := Value.none) J rfl q
    | ret u => obtain ⟨_, _, _, J, rv, q⟩ := hfl; exact done J rv q
    | brk => obtain ⟨_, _, _, q⟩ := hfl; exact q.elim
    | cont => obtain ⟨_, _, _, q⟩ := hfl; exact q.elim
/-- .. of a def that stands in the text -/
theorem Fun.okG {x qual : Str} {stm : Stmt} {f : Addr} {fd : FuncData} {N ps : List Str} {k n : Nat} {b : Ss} (F : Fun K x qual stm f fd) (S : FnScope N ps (defScope stm)) (hn : N.length = n)
    (hb : ∀ (cdv : Value) (A : Around) (outer : List Env) (s : Shared) (H : Hp) (E : XK), Room k (A.deeper (envOfC qual (defScope stm) s.heap.objs.size f cdv)) → (A.deeper (envOfC qual (defScope stm) s.heap.objs.size f cdv)).guards = some [] →
      PSs (cxOf (L2.CX P w) P w K mg base N qual (defScope stm) f cdv A outer s H E) (defBody stm) (rdS K mg (fun cls d _ H => E cls d H) b)) :
    FnG K mg P w base (k + 1) f fd ps (runS n b) := by
  obtain ⟨oc, od, kV, doc, pm, an, cdv, ct, osl, rfl, lk, hcd⟩ := F.ex
  subst hn
  exact fnG_of lk hcd S (hb cdv)
end
section
variable {X : Cx} {W : WX} {k : Nat} {f : Addr} {fd : FuncData} {ps : List Str} {g : Fn} {x : Str} {p pos : Pos} {e : Expr} {es : List Expr} {fl : Ev (List D)}
theorem run_fnG {pins : List (Addr × Obj)} {σ : L2.St} {H : Hp} {s : Shared} {Q : VK} {us : List Value} {vs : List V} (F : FnG X.K X.mg X.prog X.w X.base k f fd ps g) (hr : Room k X.A) (hgs : X.A.guards = some []) (hb : Binds X.K fd ps []) (tk : Takes X W) (I : Inv X pins σ H s) (rel : Vals vs us)
    (h : spG X.K X.mg ps.length g vs H Q (fun cls d H => W cls d σ H)) : wpAny (model X.prog X.w) X.A (call (.ref f) us) (EP X pins σ Q) X.xe s := by
  have bd := hb s us I.kIn (by rw [List.append_nil, ← rel.length]; exact spG.len h)
  rw [List.append_nil] at bd
  refine wpAny_call (codeAny_mono (F.run X.A X.stack s H ⟨us, []⟩ us vs Q _ hr hgs I.env0 bd rel h) fun res s2 hres => ?_)
  cases res with
  | error ex => exact passAt tk σ pins H s ex s2 I hres
  | ok flow =>
    cases flow with
    | ret u => exact I.after hres
    | next => exact hres.elim
    | brk => exact hres.elim
    | cont => exact hres.elim
theorem rd_call {n : Nat} {σ : L2.St} {H : Hp} {Q : VK} (hn : ∀ env st ds s, fl env st = .ok ds s → ds.length = n) (h : rdE X.K X.mg W (evCall g fl) σ H Q) : rdA X.K X.mg W fl σ H fun vs H1 => spG X.K X.mg n g vs H1 Q fun cls d H => W cls d σ H := by
  obtain ⟨m, env, st, ho, so, h⟩ := h
  have hn' := hn env st
  unfold evCall at h
  refine ⟨m, env, st, ho, so, ?_⟩
  cases e : fl env st with
  | ok ds s =>
    rw [e] at h
    intro m1 H1 vs pm p s1 r1
    refine ⟨m1, s, ds, s1, r1, hn' ds s e, ?_⟩
    have h2 := Fin.mono pm p (show Fin X.K X.mg (Rp X.K X.mg) W σ m H (g ds s) Q from h)
    cases eg : g ds s with
    | ok d s2 => rw [eg] at h2; exact h2
    | err c fs s2 => rw [eg] at h2; exact h2
    | stuck => rw [eg] at h2; exact h2
  | err c fs s => rw [e] at h; exact h
  | stuck => rw [e] at h; exact h
theorem pe_evCall (F : FnG X.K X.mg X.prog X.w X.base k f fd ps g) (hr : Room k X.A) (hgs : X.A.guards = some []) (hg : Gl X x) (hm : X.mg x = some (.ref f)) (hk : PySem.W.keepIn X.K (.ref f) = true) (hb : Binds X.K fd ps []) (tk : Takes X W) (ha : PA X (e :: es) (rdA X.K X.mg W fl))
    (hn : ∀ env st ds s, fl env st = .ok ds s → ds.length = ps.length) (hdb : (x == ("__debug__" : Str)) = false := by decide) (he : starEach (e :: es) X.env = (false, eval e X.env) :: starEach es X.env := by rfl) (hpl : (backTo pos (starEach es X.env)).any (·.1) = false := by rfl) :
    PE X (.Call (.Name x p) (e :: es) [] pos) (rdE X.K X.mg W (evCall g fl)) := ⟨fun pins s σ H Q I h => by
  refine wpAny_Call_Name_kw (ld_glob I hg hm ?_ hdb)
  exact PySem.W.callWith_K (h₀ := X.base) I.ok.mod.kin hk (thn (ha.run pos pins s σ H _ I (rd_call hn h)) fun us s1 hh => (by
    obtain ⟨vs, H1, I1, rel, q⟩ := hh
    exact ⟨I1.kIn, run_fnG F hr hgs hb tk I1 rel q⟩)) he hpl⟩
theorem pe_evCall0 (F : FnG X.K X.mg X.prog X.w X.base k f fd [] g) (hr : Room k X.A) (hgs : X.A.guards = some []) (hg : Gl X x) (hm : X.mg x = some (.ref f)) (hk : PySem.W.keepIn X.K (.ref f) = true) (hb : Binds X.K fd [] []) (tk : Takes X W)
    (hdb : (x == ("__debug__" : Str)) = false := by decide) : PE X (.Call (.Name x p) [] [] pos) (rdE X.K X.mg W (evCall g evNil)) := ⟨fun pins s σ H Q I h => by
  have h2 := rd_call (n := 0) (fun env st ds s (z : Res.ok [] st = .ok ds s) => by cases z; rfl) h
  obtain ⟨m, env, st, ho, so, h2⟩ := h2
  exact wpAny_Call_Name_kw (ld_glob I hg hm (PySem.W.callWith_K0 I.kIn hk (run_fnG (us := []) F hr hgs hb tk I .nil (h2 m H [] (Pre.refl _) (Pers.refl _) so rfl))) hdb)⟩
theorem len_nil {env : EnvD} {st : Store} {ds : List D} {s : Store} (h : evNil env st = .ok ds s) : ds.length = 0 := by
  have h' : Res.ok [] st = .ok ds s := h
  cases h'; rfl
theorem len_cons {a : Ev D} {b : Ev (List D)} {n : Nat} (hb : ∀ env st ds s, b env st = .ok ds s → ds.length = n) (env : EnvD) (st : Store) (ds : List D) (s : Store) (h : evCons a b env st = .ok ds s) : ds.length = n + 1 := by
  unfold evCons at h
  cases e : a env st with
  | ok x s1 =>
    rw [e] at h
    cases e2 : b env s1 with
    | ok xs s2 =>
      simp only [Res.bind, e2] at h
      cases h
      rw [List.length_cons, hb env s1 xs _ e2]
    | err c fs s2 => simp only [Res.bind, e2] at h; cases h
    | stuck => simp only [Res.bind, e2] at h; cases h
  | err c fs s1 => rw [e] at h; cases h
  | stuck => rw [e] at h; cases h
end
end PP
set_option Elab.async false
set_option linter.all false
set_option maxRecDepth 100000
set_option maxHeartbeats 2000000
/-! PP13: the law's own call. -/
namespace PP
open PySem PySem.Spec PyProof.Rows L2
variable [Tbl]

theorem RpL.ofInts {K : PySem.W.Frag} {mg : Str → Option Value} {m : List Addr} {H : Hp} : ∀ ns : List Int, RpL K mg m H (ns.map D.int) (ns.map V.int)
  | [] => rfl
  | n :: ns => ⟨_, _, rfl, rfl, RpL.ofInts ns⟩
/-- what the law's def gives at a script: True -/
def LawTrue (g : Fn) (ns : List Int) : Prop := ∃ st, g [.ref 0] [(true, .lst (ns.map D.int))] = .ok (.bl true) st
theorem spG_law {K : PySem.W.Frag} {mg : Str → Option Value} {g : Fn} {ns : List Int} {H : Hp} {a : Addr} {o : Obj} (h : LawTrue g ns) (tb : LamX.Tabs Tbl.T H) (eH : H a = some (.frz o (.lst (ns.map V.int)))) : spG K mg 1 g [.ref a] H (fun v _ => v = .bl true) fun _ _ _ => False := by
  obtain ⟨st, e⟩ := h
  refine ⟨[a], [(true, .lst (ns.map D.int))], [.ref 0], ⟨rfl, by simp, fun l lk c b e1 e2 => ?_, tb⟩, ⟨_, [], rfl, ⟨a, rfl, rfl⟩, rfl⟩, rfl, ?_⟩
  · cases l with
    | zero =>
      cases e1; cases e2
      exact ⟨_, RpL.ofInts ns, o, eH⟩
    | succ l => simp at e1
  · rw [e]
    exact fun m' H' v _ _ _ r => r
/-- no list stands in the written part -/
def noList (K : PySem.W.Frag) : Bool := K.all fun p => !(p.2.cls == Value.type "list")
theorem mem_lk {α : Type} {a : Addr} {o : α} : ∀ {l : List (Addr × α)}, l.lookup a = some o → (a, o) ∈ l
  | [], h => by cases h
  | (b, u) :: r, h => by
    rw [List.lookup_cons] at h
    split at h
    · rename_i e
      cases h
      have e' : a = b := by simpa using e
      subst e'
      exact List.mem_cons_self
    · exact List.mem_cons_of_mem _ (mem_lk h)
theorem noList_none {K : PySem.W.Frag} {h : Heap} {a : Addr} {vs : Array Value} (hn : noList K = true) (kin : K.In h) (ha : h.get? a = some { cls := .type "list", data := .seq vs }) : K.lookup a = none := by
  cases e : K.lookup a with
  | none => rfl
  | some o =>
    have q := kin a o e
    rw [ha] at q
    cases q
    have hm := mem_lk e
    have := List.all_eq_true.mp hn _ hm
    cases this
/-- no table of a code object stands in the written part -/
def noTabL (K : PySem.W.Frag) (cs : List (Addr × Addr)) : Bool := cs.all fun p => (K.lookup p.2).isNone
theorem noTab_none {K : PySem.W.Frag} {cs : List (Addr × Addr)} (hn : noTabL K cs = true) : ∀ p ∈ cs, K.lookup p.2 = none := fun p hp => by
  have := List.all_eq_true.mp hn p hp
  simpa using this
/-- a def's code object, and its table -/
def codeK (K : PySem.W.Frag) (f : Addr) : Option Addr := match K.lookup f with
  | some ⟨_, _, .func fd, _⟩ => match fd.code with
    | .ref c => some c
    | _ => none
  | _ => none
def tabK (K : PySem.W.Frag) (f : Addr) : Option (Addr × Addr) := match codeK K f with
  | some c => match K.lookup c with
    | some ⟨_, _, .fields vs, _⟩ => match (vs[11]? : Option Value) with
      | some (.ref P) => some (c, P)
      | _ => none
    | _ => none
  | none => none
theorem codeK_some {K : PySem.W.Frag} {f c : Addr} (h : codeK K f = some c) : ∃ oc od fd sl, K.lookup f = some ⟨oc, od, .func fd, sl⟩ ∧ fd.code = .ref c := by
  unfold codeK at h
  split at h
  · rename_i oc od fd sl e
    split at h
    · rename_i c' e2
      cases h
      exact ⟨oc, od, fd, sl, e, e2⟩
    · cases h
  · cases h
theorem tabK_some {K : PySem.W.Frag} {f c T : Addr} (h : tabK K f = some (c, T)) : codeK K f = some c ∧ ∃ oc od vs sl, K.lookup c = some ⟨oc, od, .fields vs, sl⟩ ∧ vs[11]? = some (.ref T) := by
  unfold tabK at h
  split at h
  · rename_i c' e
    split at h
    · rename_i oc od vs sl e1
      split at h
      · rename_i P e2
        cases h
        exact ⟨e, oc, od, vs, sl, e1, e2⟩
      · cases h
    · cases h
  · cases h
/-- what the top says of a def's table -/
def TabSays (mg : Str → Option Value) (h : Heap) (x : Str) : Prop := ∃ a o fd c P, mg x = some (.ref a) ∧ h.get? a = some o ∧ o.data = .func fd ∧ fd.code = .ref c ∧ h.IsCode c P #[] ∧ h.TableAt c P #[]
theorem tab_at {K : PySem.W.Frag} {mg : Str → Option Value} {h : Heap} {x : Str} {f c T : Addr} (kin : K.In h) (S : TabSays mg h x) (hm : mg x = some (.ref f)) (ht : tabK K f = some (c, T)) : PySem.W.CodeHd h c T ∧ h.get? T = some { cls := .none, data := .fields #[] } := by
  obtain ⟨a, o, fd, c', P, e1, e2, e3, e4, hc, htb⟩ := S
  rw [hm] at e1
  cases e1
  obtain ⟨k1, oc, od, vs, sl, k2, k3⟩ := tabK_some ht
  obtain ⟨oc2, od2, fd2, sl2, k4, k5⟩ := codeK_some k1
  have g1 := kin _ _ k4
  rw [e2] at g1
  cases g1
  cases e3
  rw [e4] at k5
  cases k5
  have hd := PySem.W.CodeHd.of hc htb
  obtain ⟨⟨o3, vs3, j1, _, j3, j4⟩, j5⟩ := htb
  have g2 := kin _ _ k2
  rw [j1] at g2
  cases g2
  cases j3
  rw [j4] at k3
  cases k3
  exact ⟨hd, j5⟩
/-- the tracked things at the law's start: the script, and tables -/
def startH (a : Addr) (u : HO) (ts : List Addr) : Hp := fun b => if b = a then some u else if b ∈ ts then some (.tbl #[]) else none
section
variable {P : Program} {w : World} {K : PySem.W.Frag} {mg mb : Str → Option Value} {k : Nat} {fa a : Addr} {fd : FuncData} {x : Str} {g : Fn} {s0 : Shared} {vs : List Value} {ns : List Int} {cs : List (Addr × Addr)}
/-- the law's call at the heap behind the top: tracked are the script (a new list: the written part has none at its place) and empty tables -/
theorem law_callG (kin : K.In s0.heap) (hns : s0.heap.Ns mainGlobals mg) (hb : s0.heap.Ns builtinsNs mb) (hbb : ∀ y : Str, y ≠ "__name__" → mb y = bootBuiltins y) (hlim : s0.heap.NoLimit) (hgen : s0.gens = #[])
    (bmn : ∃ (bm : Addr) (ob : Obj), mg "__builtins__" = some (.ref bm) ∧ bm ≠ builtinsNs ∧ s0.heap.get? bm = some ob ∧ ob.cls = .type "module" ∧ ob.dict = some builtinsNs ∧ ob.data = .plain)
    (tE : ∀ p ∈ cs, s0.heap.get? p.2 = some { cls := .none, data := .fields #[] }) (tN : ∀ p ∈ cs, K.lookup p.2 = none) (tC : ∀ p ∈ cs, PySem.W.CodeHd s0.heap p.1 p.2) (tT : ∀ p ∈ Tbl.T, p.1 ∈ cs.map (·.2))
    (ha : s0.heap.get? a = some { cls := .type "list", data := .seq vs.toArray }) (hK : K.lookup a = none) (hi : IntsAre vs ns) (hl : ns.length ≤ sizeLine) (hr : Room k callerA)
    (F : ∀ base : Heap, K.In base → base.Ns mainGlobals mg → (∀ p ∈ cs, LamX.TabB base mg p.1 p.2) → FnG K mg P w base k fa fd [x] g) (hbind : ∀ (s : Shared) (u : Value), BindsTo s fd ⟨[u], []⟩ [(x, u)]) (ht : LawTrue g ns) :
    codeAny (model P w) callerA (.call (.ref fa) ⟨[.ref a], []⟩) (fun r s' => r = .ok (.ret (.bool true)) ∧ OldK s0.heap s'.heap ∧ s'.os = s0.os ∧ AllBare s'.gens) s0 := by
  have rv := vals_ints hi
  have tEm : ∀ b ∈ cs.map (·.2), s0.heap.get? b = some { cls := .none, data := .fields #[] } := fun b hb => by
    obtain ⟨p, hp, rfl⟩ := List.mem_map.mp hb
    exact tE p hp
  have aNot : a ∉ cs.map (·.2) := fun z => by
    have q := tEm a z
    rw [ha] at q
    cases q
  generalize hH : startH a (HO.frz { cls := .type "list", data := .seq vs.toArray } (.lst (ns.map V.int))) (cs.map (·.2)) = H
  have atA : H a = some (.frz { cls := .type "list", data := .seq vs.toArray } (.lst (ns.map V.int))) := by rw [← hH]; exact if_pos rfl
  have atT : ∀ b ∈ cs.map (·.2), H b = some (.tbl #[]) := fun b hb => by
    rw [← hH]
    unfold startH
    rw [if_neg (fun z : b = a => aNot (by rw [← z]; exact hb)), if_pos hb]
  have off : ∀ b, b ≠ a → b ∉ cs.map (·.2) → H b = none := fun b h h2 => by
    rw [← hH]
    unfold startH
    rw [if_neg h, if_neg h2]
  have okH : HOk P w H s0.heap := fun b u q => by
    by_cases hba : b = a
    · subst hba
      rw [atA] at q
      cases q
      exact ⟨ha, by rw [List.length_map]; exact hl, vs, _, rv, ha⟩
    · by_cases hbt : b ∈ cs.map (·.2)
      · rw [atT b hbt] at q
        cases q
        exact tEm b hbt
      · rw [off b hba hbt] at q; cases q
  have hid : ∀ {b : Addr} {ob : Obj}, s0.heap.get? b = some ob → b ≠ a → b ∉ cs.map (·.2) → (hidT s0.heap H).get? b = some ob := fun q h h2 => hidT_get q (off _ h h2)
  -- things of another kind lie elsewhere
  have notA : ∀ {b : Addr} {ob : Obj}, s0.heap.get? b = some ob → (∀ us n, ob.data ≠ .seq us n) → b ≠ a := fun {b ob} q d z => by
    subst z
    rw [ha] at q
    cases q
    exact d _ _ rfl
  have notT : ∀ {b : Addr} {ob : Obj}, s0.heap.get? b = some ob → ob.data ≠ .fields #[] → b ∉ cs.map (·.2) := fun {b ob} q d z => by
    have e := tEm b z
    rw [q] at e
    cases e
    exact d rfl
  have nsH : ∀ {b : Addr} {mm : Str → Option Value}, s0.heap.Ns b mm → (hidT s0.heap H).Ns b mm := fun {b mm} ⟨ob, es, ep, q, d, r⟩ =>
    ⟨ob, es, ep, hid q (notA q (fun us n z => by rw [d] at z; cases z)) (notT q (fun z => by rw [d] at z; cases z)), d, r⟩
  have kinH : K.In (hidT s0.heap H) := fun b ob q => hid (kin b ob q) (fun z => by rw [z, hK] at q; cases q) fun z => by
    obtain ⟨p, hp, e⟩ := List.mem_map.mp z
    rw [← e, tN p hp] at q
    cases q
  have md : Mod K mg (hidT s0.heap H) := ⟨kinH, nsH hns, ⟨mb, nsH hb, hbb⟩, hlim.elim fun mc q => ⟨mc, nsH q.1, q.2⟩⟩
  have e0 : Env0 P w K mg (hidT s0.heap H) callerA [] s0 H := ⟨rfl, md, fun b ob q => of_hidT q, Nat.le_of_eq (hidT_size _ _), trivial, fun b q => (nomatch (show b ∈ ([] : List Addr) from q)), okH, .of_eq hgen⟩
  have TB : ∀ p ∈ cs, LamX.TabB (hidT s0.heap H) mg p.1 p.2 := fun p hp => by
    have eT := tE p hp
    constructor
    · obtain ⟨o, us, f1, f2, f3, f4, f5, f6, f7, q, r1, r2, rr⟩ := tC p hp
      refine ⟨o, us, f1, f2, f3, f4, f5, f6, f7, hid q (notA q (fun us n z => by rw [r2] at z; cases z)) (notT q fun z => ?_), r1, r2, rr⟩
      rw [r2] at z
      cases z
      have := rr.1
      simp at this
    · obtain ⟨bm, ob, b1, b2, b3, b4, b5, b6⟩ := bmn
      refine ⟨bm, ob, b1, b2, fun q => ?_, fun q => ?_, hid b3 (notA b3 (fun us n z => by rw [b6] at z; cases z)) (notT b3 fun z => by rw [b6] at z; cases z), b4, b5, b6⟩
      · obtain ⟨o, es, ep, e, d, _⟩ := hns
        rw [q, e] at b3
        cases b3
        rw [d] at b6
        cases b6
      · rw [q, eT] at b3
        cases b3
        cases b6
    · intro z
      obtain ⟨o, es, ep, e, d, _⟩ := hns
      rw [z, eT] at e
      cases e
      cases d
  have tabs : LamX.Tabs Tbl.T H := fun p hp => LamX.TabS.nil (atT _ (tT p hp))
  have run := (F _ kinH (nsH hns) TB).run callerA [] s0 H ⟨[.ref a], []⟩ [.ref a] [.ref a] (fun v _ => v = .bl true) (fun _ _ _ => False) hr rfl e0 (hbind s0 (.ref a)) (.cons rfl .nil) (spG_law ht tabs atA)
  refine codeAny_mono run fun res s2 hres => ?_
  cases res with
  | error ex =>
    obtain ⟨_, _, _, _, _, _, _, _, _, _, _, _, z⟩ := hres
    exact z.elim
  | ok fl =>
    cases fl with
    | next => exact hres.elim
    | brk => exact hres.elim
    | cont => exact hres.elim
    | ret u =>
      obtain ⟨v, H', os, bare, un, ok2, rel, q⟩ := hres
      cases (show v = .bl true from q)
      cases (show u = Value.bool true from rel)
      have old : ∀ b ob, b ∉ cs.map (·.2) → s0.heap.get? b = some ob → s2.heap.get? b = some ob := fun b ob nb z => by
        by_cases hba : b = a
        · subst hba
          have z2 := un.frzs b _ _ atA
          obtain ⟨y2, _⟩ := ok2 b _ z2
          rw [ha] at z
          cases z
          exact y2
        · exact un.keep b ob z (off b hba nb) (fun y => (nomatch (show b ∈ ([] : List Addr) from y))) (fun y => (nomatch (show b ∈ ([] : List Addr) from y)))
      have grew : ∀ p ∈ cs, ∃ more : Array Value, s2.heap.get? p.2 = some { cls := .none, data := .fields more } := fun p hp => by
        obtain ⟨more, z⟩ := un.tbls p.2 #[] (atT _ (List.mem_map_of_mem hp))
        exact ⟨_, ok2 p.2 _ z⟩
      refine ⟨rfl, ⟨fun b ob z => ?_, fun b ob z => ?_⟩, os, bare⟩
      · by_cases nb : b ∈ cs.map (·.2)
        · obtain ⟨p, hp, rfl⟩ := List.mem_map.mp nb
          obtain ⟨more, hm⟩ := grew p hp
          rw [tE p hp] at z
          cases z
          exact .inr (.inl ⟨((tC p hp).tab (tE p hp)).isCodeTable, rfl, #[], more, rfl, by rw [Array.empty_append]; exact hm⟩)
        · exact .inl (old b ob nb z)
      · by_cases nb : b ∈ cs.map (·.2)
        · obtain ⟨p, hp, rfl⟩ := List.mem_map.mp nb
          obtain ⟨more, hm⟩ := grew p hp
          exact ⟨_, hm⟩
        · exact ⟨ob, old b ob nb z⟩
end
end PP
namespace PP
open PySem PySem.Spec PyProof.Rows L2
/-- a law, by facts of its head -/
theorem walk_ofG {k : Nat} {x : Str} {l : PySem.W.OpenLaw} {n : Nat} {q : Program} {loose : List Str} {XP : (Str → Option Value) → Heap → Prop} {YP : World → Heap → Prop} {d : DefRec} (hn : l.most = some n) (hn2 : n ≤ sizeLine) (hdf : d.params.defaults = []) (hr : Room k callerA)
    (F : ∀ (w : World) (mg : Str → Option Value) (fa : Addr) (h : Heap), YP w h → h.Ns mainGlobals mg → mg d.name = some (.ref fa) → (∀ e ∈ recsOf q, TabSays mg h e.name) →
      ∃ (I : Tbl) (K : PySem.W.Frag) (fd : FuncData) (g : Fn) (cs : List (Addr × Addr)), K.In h ∧ noList K = true ∧ noTabL K cs = true ∧ (∀ p ∈ cs, PySem.W.CodeHd h p.1 p.2 ∧ h.get? p.2 = some { cls := .none, data := .fields #[] }) ∧ (∀ p ∈ I.T, p.1 ∈ cs.map (·.2)) ∧
        (∀ (s : Shared) (u : Value), BindsTo s fd ⟨[u], []⟩ [(x, u)]) ∧ (∀ ns : List Int, ns.length ≤ n → LawTrue g ns) ∧
        ∀ base : Heap, K.In base → base.Ns mainGlobals mg → (∀ p ∈ cs, LamX.TabB base mg p.1 p.2) → FnG K mg l.prog w base k fa fd [x] g) :
    PySem.W.WalkO q loose XP YP l.row.toRowW d [] (fun f vs => PySem.call f vs) := by
  refine Att.attach_call hn hdf fun w s₀ s₁ mg mb fa o pm cd doc a vs ns G Y ho hd hcd hmg hobj hints hlen hg => ?_
  obtain ⟨I, K, fd, g, cs, kin, nl, nt, hc, hT, hb, ht, hF⟩ := F w mg fa _ Y G.T.g hmg G.T.tab
  exact law_callG kin G.T.g G.T.b G.T.builtins G.T.nolimit hg G.T.bmain (fun p hp => (hc p hp).2) (noTab_none nt) (fun p hp => (hc p hp).1) hT hobj (noList_none nl kin hobj) hints (Nat.le_trans hlen hn2) hr hF hb (ht ns hlen)
end PP
set_option Elab.async false
set_option linter.all false
set_option maxRecDepth 100000
set_option maxHeartbeats 2000000
/-! PP14: walks over dicts (locked meanwhile); y = [..] on one line. -/
namespace PP
open PySem PySem.Spec PyProof.Rows L2
variable [Tbl]

def unlockD (l : Nat) (st : Store) : Option Store := match st[l]? with
  | some (true, .dct kvs) => some (st.set l (false, .dct kvs))
  | _ => none
/-- the place of an unlocked dict that stands at slot i -/
def lockAt (i : Nat) (env : EnvD) (st : Store) : Option (Nat × List (D × D)) := match env[i]? with
  | some (some (.ref l)) => match st[l]? with
    | some (false, .dct kvs) => some (l, kvs)
    | _ => none
  | _ => none
/-- a statement that walks over what stands at slot i: a dict is locked meanwhile -/
def sLock (i : Nat) (f : Ss) : Ss := fun env st => match lockAt i env st with
  | some (l, kvs) => match f env (st.set l (true, .dct kvs)) with
    | .fl fl s => match unlockD l s with
      | some s2 => .fl fl s2
      | none => .stuck
    | r => r
  | none => f env st
def evLock (i : Nat) (f : Ev D) : Ev D := fun env st => match lockAt i env st with
  | some (l, kvs) => match f env (st.set l (true, .dct kvs)) with
    | .ok d s => match unlockD l s with
      | some s2 => .ok d s2
      | none => .stuck
    | r => r
  | none => f env st
section
variable {K : PySem.W.Frag} {mg : Str → Option Value} {m m' : List Addr} {H H' : Hp} {st st' : Store} {l : Nat} {a : Addr} {kvs : List (D × D)}
/-- the dict's own object -/
structure DObj (K : PySem.W.Frag) (mg : Str → Option Value) (m : List Addr) (H : Hp) (a : Addr) (kvs : List (D × D)) (u : HO) : Prop where
  at_ : H a = some u
  mu : Mut (some u)
  st : Stays u → False
  tu : ∀ xs, u ≠ .tup xs
  re : ∀ (m' : List Addr) (H' : Hp) (ob : Obj), Pre m m' → PersT H H' → H' a = some (.frz ob u) → CellOk K mg m' H' a true (.dct kvs)
theorem dObj (h : CellOk K mg m H a false (.dct kvs)) : ∃ u, DObj K mg m H a kvs u := by
  rcases h with ⟨kv', r, c⟩ | ⟨kv', r, c⟩
  · exact ⟨.dK kv', c, True.intro, fun z => z, fun xs z => (by cases z), fun m' H' ob pm p e => .inl ⟨kv', r.monoT pm p, ob, e⟩⟩
  · exact ⟨.dT kv', c, True.intro, fun z => z, fun xs z => (by cases z), fun m' H' ob pm p e => .inr ⟨kv', r.monoT pm p, ob, e⟩⟩
theorem set_same {st : Store} {l : Nat} {x : Bool × Cell} (h : st[l]? = some x) : l < st.length := (List.getElem?_eq_some_iff.mp h).1
/-- a dict locked -/
theorem StOk.lock (so : StOk K mg m H st) (e : st[l]? = some (false, .dct kvs)) (em : m[l]? = some a) {u : HO} (d : DObj K mg m H a kvs u) (od : Obj) : StOk K mg m (upd H a (.frz od u)) (st.set l (true, .dct kvs)) ∧ Pers H (upd H a (.frz od u)) := by
  have p : Pers H (upd H a (.frz od u)) := Pers.write d.at_ d.st
  exact ⟨so.write e em p (d.re m _ od (Pre.refl m) p.toT upd_same), p⟩
/-- .. and unlocked again -/
theorem StOk.unlock (so : StOk K mg m' H' st') (em : m'[l]? = some a) {u : HO} {od : Obj} (eH : H' a = some (.frz od u)) (tu : ∀ xs, u ≠ .tup xs) (h : unlockD l st' = some st) : StOk K mg m' (upd H' a u) st ∧ PersT H' (upd H' a u) := by
  have pT : PersT H' (upd H' a u) := by
    refine ⟨fun b xs q => ?_, fun b o xs q => ?_, fun t p hp => ?_⟩
    · rw [upd_ne (fun z => by subst z; rw [eH] at q; cases q)]; exact q
    · rw [upd_ne (fun z => by
        subst z
        rw [eH] at q
        cases q
        exact tu xs rfl)]; exact q
    · obtain ⟨ps, h1, h2, h3⟩ := t p hp
      refine ⟨ps, by rw [upd_ne (fun z => by rw [z, eH] at h1; cases h1)]; exact h1, h2, fun pos cv hc => ?_⟩
      obtain ⟨c, e1, e2⟩ := h3 pos cv hc
      exact ⟨c, e1, by rw [upd_ne (fun z => by rw [z, eH] at e2; unfold LamX.CodeO at e2; cases e2)]; exact e2⟩
  unfold unlockD at h
  split at h
  · rename_i kvs e
    cases h
    refine ⟨⟨by rw [List.length_set, so.len], so.nd, fun j lk c b e1 e2 => ?_, pT.tabs so.tabs⟩, pT⟩
    by_cases hj : l = j
    · subst hj
      rw [List.getElem?_set_self (set_same e)] at e1
      rw [em] at e2
      cases e1; cases e2
      rcases so.at_ l _ _ a e em with ⟨kv', r, ob, c⟩ | ⟨kv', r, ob, c⟩
      · rw [eH] at c
        cases c
        exact .inl ⟨kv', r.monoT (Pre.refl _) pT, upd_same⟩
      · rw [eH] at c
        cases c
        exact .inr ⟨kv', r.monoT (Pre.refl _) pT, upd_same⟩
    · rw [List.getElem?_set_ne hj] at e1
      have nb : b ≠ a := fun z => by
        subst z
        obtain ⟨h1, q1⟩ := List.getElem?_eq_some_iff.mp em
        obtain ⟨h2, q2⟩ := List.getElem?_eq_some_iff.mp e2
        exact hj ((List.getElem_inj so.nd).mp (q1.trans q2.symm))
      exact (so.at_ j lk c b e1 e2).monoT (Pre.refl _) pT (upd_ne nb)
  · cases h
theorem pers_through {u : HO} {od : Obj} (d : H a = some u) (ns : Stays u → False) (p : Pers (upd H a (.frz od u)) H') : Pers H (upd H' a u) := ⟨fun b o w e => by
  have nb : b ≠ a := fun z => by subst z; rw [d] at e; cases e; exact ns (keeps_stays w)
  rw [upd_ne nb]
  exact p b o w (by rw [upd_ne nb]; exact e), fun t p2 hp => by
  have eH : H' a = some (.frz od u) := p a _ (show Keeps (.frz _ _) from True.intro) upd_same
  obtain ⟨ps, h1, h2, h3⟩ := p.tabs (tabs_write d ns t) p2 hp
  refine ⟨ps, by rw [upd_ne (fun z => by rw [z, eH] at h1; cases h1)]; exact h1, h2, fun pos cv hc => ?_⟩
  obtain ⟨c, e1, e2⟩ := h3 pos cv hc
  exact ⟨c, e1, by rw [upd_ne (fun z => by rw [z, eH] at e2; unfold LamX.CodeO at e2; cases e2)]; exact e2⟩⟩
end
section
variable {X : Cx} {W : WX}
theorem PS.or {st : Stmt} {t t' : TS} (h : PS X st t) (h' : PS X st t') : PS X st (fun D σ H => t D σ H ∨ t' D σ H) := ⟨fun pins s σ H D I q => q.elim (h.run pins s σ H D I) (h'.run pins s σ H D I)⟩
theorem PE.or {e : Expr} {t t' : TE} (h : PE X e t) (h' : PE X e t') : PE X e (fun σ H Q => t σ H Q ∨ t' σ H Q) := ⟨fun pins s σ H Q I q => q.elim (h.run pins s σ H Q I) (h'.run pins s σ H Q I)⟩
theorem lockAt_some {i : Nat} {env : EnvD} {st : Store} {l : Nat} {kvs : List (D × D)} (h : lockAt i env st = some (l, kvs)) : env[i]? = some (some (.ref l)) ∧ st[l]? = some (false, .dct kvs) := by
  unfold lockAt at h
  split at h
  · rename_i l' e
    split at h
    · rename_i kvs' e2
      cases h
      exact ⟨e, e2⟩
    · cases h
  · cases h
theorem ps_sLock {st : Stmt} {f : Ss} {i : Nat} (h : PS X st (rdS X.K X.mg W f)) : PS X st (rdS X.K X.mg W (sLock i f)) := PS.weak (PS.or (ps_lock h) h) fun D σ H h => by
  obtain ⟨m, env, st, ho, so, h⟩ := h
  unfold sLock at h
  cases e : lockAt i env st with
  | none =>
    rw [e] at h
    exact .inr ⟨m, env, st, ho, so, h⟩
  | some q =>
    obtain ⟨l, kvs⟩ := q
    rw [e] at h
    obtain ⟨e1, e2⟩ := lockAt_some e
    obtain ⟨v, ev, a, _, em⟩ := ho.at_ i _ e1
    obtain ⟨u, d⟩ := dObj (so.at_ l _ _ a e2 em)
    refine .inl ⟨a, u, d.at_, d.mu, fun od => ?_⟩
    obtain ⟨s1, p1⟩ := so.lock e2 em d od
    refine ⟨m, env, _, ho.mono (Pre.refl m) p1, s1, ?_⟩
    have h : FinS X.K X.mg W D m H (match f env (st.set l (true, .dct kvs)) with
      | .fl fl s => match unlockD l s with
        | some s2 => .fl fl s2
        | none => .stuck
      | r => r) := h
    cases er : f env (st.set l (true, .dct kvs)) with
    | stuck => rw [er] at h; exact h
    | er c fs env' s' =>
      rw [er] at h
      exact fun m' H' σ' cls dd a1 a2 a3 a4 a5 => h m' H' σ' cls dd a1 (p1.trans a2) a3 a4 a5
    | fl fl s' =>
      rw [er] at h
      cases eu : unlockD l s' with
      | none => simp only [eu] at h; exact h.elim
      | some s2 =>
        simp only [eu] at h
        intro m' H' a1 a2 a3
        have eH : H' a = some (.frz od u) := a2 a _ (show Keeps (.frz _ _) from True.intro) upd_same
        obtain ⟨s3, pT⟩ := a3.unlock (a1 l a em) eH d.tu eu
        have fin := h m' (upd H' a u) a1 (pers_through d.at_ d.st a2) s3
        cases fl with
        | nx env' => exact fun σ' ho' => ⟨eH, fin σ' (ho'.monoT (Pre.refl _) pT)⟩
        | rt dd => exact fun v r => ⟨eH, fin v (Rp.monoT (Pre.refl _) pT _ _ r)⟩
        | bk env' => exact fun σ' ho' => ⟨eH, fin σ' (ho'.monoT (Pre.refl _) pT)⟩
        | ct env' => exact fun σ' ho' => ⟨eH, fin σ' (ho'.monoT (Pre.refl _) pT)⟩
theorem rd_evLock {f : Ev D} {i : Nat} {σ : L2.St} {H : Hp} {Q : VK} (h : rdE X.K X.mg W (evLock i f) σ H Q) : tLockE (rdE X.K X.mg W f) σ H Q ∨ rdE X.K X.mg W f σ H Q := by
  obtain ⟨m, env, st, ho, so, h⟩ := h
  unfold evLock at h
  cases e : lockAt i env st with
  | none =>
    rw [e] at h
    exact .inr ⟨m, env, st, ho, so, h⟩
  | some q =>
    obtain ⟨l, kvs⟩ := q
    rw [e] at h
    obtain ⟨e1, e2⟩ := lockAt_some e
    obtain ⟨v, ev, a, _, em⟩ := ho.at_ i _ e1
    obtain ⟨u, d⟩ := dObj (so.at_ l _ _ a e2 em)
    refine .inl ⟨a, u, d.at_, d.mu, fun od => ?_⟩
    obtain ⟨s1, p1⟩ := so.lock e2 em d od
    refine ⟨m, env, _, ho.mono (Pre.refl m) p1, s1, ?_⟩
    have h : Fin X.K X.mg (Rp X.K X.mg) W σ m H (match f env (st.set l (true, .dct kvs)) with
      | .ok d s => match unlockD l s with
        | some s2 => .ok d s2
        | none => .stuck
      | r => r) Q := h
    cases er : f env (st.set l (true, .dct kvs)) with
    | stuck => rw [er] at h; exact h
    | err c fs s' =>
      rw [er] at h
      exact fun m' H' cls dd a1 a2 a3 a4 => h m' H' cls dd a1 (p1.trans a2) a3 a4
    | ok dd s' =>
      rw [er] at h
      cases eu : unlockD l s' with
      | none => simp only [eu] at h; exact h.elim
      | some s2 =>
        simp only [eu] at h
        intro m' H' v a1 a2 a3 r
        have eH : H' a = some (.frz od u) := a2 a _ (show Keeps (.frz _ _) from True.intro) upd_same
        obtain ⟨s3, pT⟩ := a3.unlock (a1 l a em) eH d.tu eu
        exact ⟨eH, h m' (upd H' a u) v a1 (pers_through d.at_ d.st a2) s3 (Rp.monoT (Pre.refl _) pT _ _ r)⟩
theorem pe_evLock {e : Expr} {f : Ev D} {i : Nat} (h : PE X e (rdE X.K X.mg W f)) : PE X e (rdE X.K X.mg W (evLock i f)) := PE.weak (PE.or (pe_lock h) h) fun _ _ _ h => rd_evLock h

/-! ### y = [..] -/
variable {i : Nat} {y : Str} {py : Pos} {elt tg iter : Expr} {ifs : List Expr} {scope : Scope} {own : List (Str × Nat)} {pos spos : Pos} {src : Ev Src} {tgt : Tgt} {sl : List Nat} {tt : Ev Bool} {te : Ev D}
theorem ps_sSetLc (hc : X.calm = true) (hN : X.N.Nodup) (hy : X.N[i]? = some y) (hyl : X.env.scope.names.lookup y = some .local) (hsw : swapsWith (.ListComp elt [⟨tg, iter, ifs, 0⟩] scope pos) (some (.Name y py)) spos.line X.env = pure true)
    (hi : PI X tg iter (rdI X.K X.mg W src)) (ok : blkC X.N X.env.scope scope own = true) (hsl : sl.all (fun i => (own.map (·.2)).contains i) = true) (hg : BlkG X scope tg sl tgt) (ht : BlkT X scope ifs tt) (he : BlkE X scope elt te)
    (hs : ∀ x, foldedSetIterable iter X.env x = pure x := by intro _; rfl) : PS X (.Assign [.Name y py] (.ListComp elt [⟨tg, iter, ifs, 0⟩] scope pos) spos) (rdS X.K X.mg W (sSet i (evLc src tgt (own.map (·.2)) tt te))) :=
  PS.weak (ps_setLc hc hN hy hyl hsw hi (blkOk_by ok) hg ht he hs) fun D σ H h => rd_lc (W := W) (fun i hi => List.contains_iff_mem.mp (List.all_eq_true.mp hsl i hi)) (rd_sSet h)
variable {tg1 iter1 : Expr} {ifs1 : List Expr} {src1 : Ev Src} {tgt1 : Tgt} {sl1 vs1 : List Nat} {tt1 : Ev Bool}
theorem ps_sSetLc2 (hc : X.calm = true) (hN : X.N.Nodup) (hy : X.N[i]? = some y) (hyl : X.env.scope.names.lookup y = some .local) (hsw : swapsWith (.ListComp elt [⟨tg, iter, ifs, 0⟩, ⟨tg1, iter1, ifs1, 0⟩] scope pos) (some (.Name y py)) spos.line X.env = pure true)
    (hi : PI X tg iter (rdI X.K X.mg W src)) (ok : blkC X.N X.env.scope scope own = true) (hsl : sl.all (fun i => (own.map (·.2)).contains i) = true) (hv : vs1.all (fun i => (own.map (·.2)).contains i) = true) (hsl1 : sl1.all (fun i => vs1.contains i) = true)
    (hg : BlkG X scope tg sl tgt) (ht : BlkT X scope ifs tt) (hi1 : BlkI X scope tg1 iter1 src1) (hg1 : BlkG X scope tg1 sl1 tgt1) (ht1 : BlkT X scope ifs1 tt1) (he : BlkE X scope elt te)
    (hs : ∀ x, foldedSetIterable iter X.env x = pure x := by intro _; rfl) (hs1 : ∀ env x, foldedSetIterable iter1 env x = pure x := by intro _ _; rfl) :
    PS X (.Assign [.Name y py] (.ListComp elt [⟨tg, iter, ifs, 0⟩, ⟨tg1, iter1, ifs1, 0⟩] scope pos) spos) (rdS X.K X.mg W (sSet i (evLc2 src tgt (own.map (·.2)) tt src1 tgt1 vs1 tt1 te))) :=
  PS.weak (ps_setLc2 hc hN hy hyl hsw hi (blkOk_by ok) (fun i hi => List.contains_iff_mem.mp (List.all_eq_true.mp hv i hi)) hg ht hi1 hg1 ht1 he hs hs1) fun D σ H h =>
    rd_lc2 (W := W) (fun i hi => List.contains_iff_mem.mp (List.all_eq_true.mp hsl i hi)) (fun i hi => List.contains_iff_mem.mp (List.all_eq_true.mp hsl1 i hi)) (rd_sSet h)
end
end PP
set_option Elab.async false
set_option linter.all false
set_option maxRecDepth 100000
set_option maxHeartbeats 2000000
/-! PP15: own exceptions: made, raised, caught. -/
namespace PP
open PySem PySem.Spec PyProof.Rows L2
variable [Tbl]

/-- the fields of an exception made of some values, the last stored first -/
def fldsOf : List Str → List D → List (Str × D) → Option (List (Str × D))
  | [], [], acc => some acc
  | n :: ns, d :: ds, acc => fldsOf ns ds ((n, d) :: acc)
  | _, _, _ => none
/-- raise C(e, ..) -/
def sRaise (c : Str) (ns : List Str) (f : Ev (List D)) : Ss := fun env st => ofE env (f env st) fun ds s => match fldsOf ns ds [] with
  | some fs => .er c fs env s
  | none => .stuck
/-- a field of the exception that the suite holds -/
def evFld (fs : List (Str × D)) (n : Str) : Ev D := fun _ st => .ofOpt ((fs.lookup n).map fun d => (d, st))
/-- what a clause's name says of an exception's class -/
abbrev ExT := Str → Str → Option Bool
/-- try: body / except cn as ..: return e -/
def sTry (T : ExT) (cn : Str) (i : Nat) (body : Ss) (h : List (Str × D) → Ev D) : Ss := fun env st => match body env st with
  | .er c fs env' s => match T c cn with
    | some true => if i < env'.length then (match h fs (env'.set i none) s with
      | .ok d s2 => .fl (.rt d) s2
      | _ => .stuck) else .stuck
    | some false => .er c fs env' s
    | none => .stuck
  | r => r
/-- what the written part says of the clauses' classes -/
def TabOk (K : PySem.W.Frag) (mg : Str → Option Value) (T : ExT) : Prop := ∀ c cn b a, T c cn = some b → mg c = some (.ref a) → ∀ v, mg cn = some v → PySem.W.exmOne K (.ref a) v = some b
section
variable {X : Cx} {W : WX} {k : Nat}
/-! ### __init__ of one field, of two -/
def spI1 (C : Addr) (K : PySem.W.Frag) (f : Str) : Sp := fun vs H Q _ => ∃ a v, vs = [.ref a, v] ∧ H a = some (exo a C none) ∧ ∀ dx, H dx = none → dx ≠ a → Q .non (upd (upd H dx (exd dx [(f, v)])) a (exo a C (some dx)))
def spI2 (C : Addr) (K : PySem.W.Frag) (f g : Str) : Sp := fun vs H Q _ => ∃ a v w, vs = [.ref a, v, w] ∧ H a = some (exo a C none) ∧ ∀ dx, H dx = none → dx ≠ a → Q .non (upd (upd (upd H dx (exd dx [(f, v)])) a (exo a C (some dx))) dx (exd dx [(g, w), (f, v)]))
/-- a heap where one thing stands beside -/
theorem end_heap {H1 : Hp} {a d : Addr} {o : HO} (h : Hp) (hn : H1 a = none) (e : ∀ b, b ≠ a → b ≠ d → h b = H1 b) : upd (del h a) d o = upd H1 d o := by
  funext b
  by_cases hd : b = d
  · subst hd; rw [upd_same, upd_same]
  · rw [upd_ne hd, upd_ne hd]
    by_cases ha : b = a
    · subst ha; rw [del_same, hn]
    · rw [del_ne ha, e b ha hd]
theorem ex_ok {m : List Addr} {H1 : Hp} {st : Store} {env : EnvD} {σ : L2.St} {d : Addr} {C : Addr} {c : Str} {fs : List (Str × D)} {xs : List (Str × V)} (hd : H1 d = none) (so : StOk X.K X.mg m H1 st) (gC : X.mg c = some (.ref C)) (r : FldOk X.K X.mg m H1 fs xs) :
    StOk X.K X.mg m (upd H1 d (.xd xs)) st ∧ Pers H1 (upd H1 d (.xd xs)) ∧ ExOk X.K X.mg m (upd H1 d (.xd xs)) c fs (.ref C) (some d) := by
  have p : Pers H1 (upd H1 d (.xd xs)) := Pers.new hd
  exact ⟨so.beside hd, p, C, rfl, gC, .inr ⟨d, xs, rfl, upd_same, Paired.mapP r fun q1 q2 h => ⟨h.1, Rp.mono (Pre.refl m) p _ _ h.2⟩⟩⟩
variable {c : Str} {C fI : Addr} {fd : FuncData} {f g : Str} {fl : Ev (List D)} {e : Expr} {es : List Expr} {p p2 pos pos2 : Pos}
/-- raise C(e), C's __init__ storing one field -/
theorem ps_sRaise1 (hc : X.calm = true) (tk : Takes X W) (T : OexC X.K C) (iC : PySem.W.findIn X.K (.ref C) "__init__" = some (some (.ref fI))) (tI : PySem.W.typeIn X.K (.ref fI) = some (.type "function"))
    (F1 : FnOk X.prog X.w X.K X.mg X.base CX0 k fI fd ["self", f] (spI1 C X.K f)) (hr : Room (k + 1) X.A) (hb : Binds X.K fd ["self", f] []) (hg : Gl X c) (gC : X.mg c = some (.ref C)) (ha : PA X (e :: es) (rdA X.K X.mg W fl))
    (hdb : (c == ("__debug__" : Str)) = false := by decide) (he : starEach (e :: es) X.env = (false, eval e X.env) :: starEach es X.env := by rfl) (hpl : (backTo pos (starEach es X.env)).any (·.1) = false := by rfl) :
    PS X (.Raise (some (.Call (.Name c p) (e :: es) [] pos)) none pos2) (rdS X.K X.mg W (sRaise c [f] fl)) := PS.weak (ps_raise hc tk (pmk_oex T iC tI F1 hr hb .nil pass0 hg gC ha hdb he hpl)) fun D σ H h => by
  obtain ⟨m, env, st, ho, so, h⟩ := h
  refine ⟨m, env, st, ho, so, (FinS.ofE (R := RpL X.K X.mg) ho h).imp fun vs H1 p hv => ?_⟩
  obtain ⟨m1, st1, ds, pm, _, s1, r1, h1⟩ := hv
  cases ds with
  | nil => exact h1.elim
  | cons d ds =>
    cases ds with
    | cons d2 ds => exact h1.elim
    | nil =>
      obtain ⟨v, rfl, rv⟩ := r1.one
      refine ⟨by simp, fun a hn => ⟨a, v, rfl, upd_same, fun dx hdx hne => ⟨rfl, dx, [(f, v)], upd_same, ?_, ?_, ?_⟩⟩⟩
      · rw [upd_ne hne, upd_same]
      · rw [upd_ne hne] at hdx; exact hdx
      · rw [upd_ne hne] at hdx
        rw [end_heap _ hn (fun b h1 h2 => by rw [upd_ne h1, upd_ne h2, upd_ne h1])]
        obtain ⟨s2, p2, x2⟩ := ex_ok (X := X) (env := env) (σ := σ) (fs := [(f, d)]) (xs := [(f, v)]) hdx s1 gC (.cons ⟨rfl, rv⟩ .nil)
        exact h1 m1 _ σ (.ref C) (some dx) (Pre.refl _) p2 s2 (((ho.mono pm p)).mono (Pre.refl _) p2) x2
/-- raise C(e, e'), two fields -/
theorem ps_sRaise2 (hc : X.calm = true) (tk : Takes X W) (T : OexC X.K C) (iC : PySem.W.findIn X.K (.ref C) "__init__" = some (some (.ref fI))) (tI : PySem.W.typeIn X.K (.ref fI) = some (.type "function"))
    (F1 : FnOk X.prog X.w X.K X.mg X.base CX0 k fI fd ["self", f, g] (spI2 C X.K f g)) (hr : Room (k + 1) X.A) (hb : Binds X.K fd ["self", f, g] []) (hg : Gl X c) (gC : X.mg c = some (.ref C)) (ha : PA X (e :: es) (rdA X.K X.mg W fl))
    (hdb : (c == ("__debug__" : Str)) = false := by decide) (he : starEach (e :: es) X.env = (false, eval e X.env) :: starEach es X.env := by rfl) (hpl : (backTo pos (starEach es X.env)).any (·.1) = false := by rfl) :
    PS X (.Raise (some (.Call (.Name c p) (e :: es) [] pos)) none pos2) (rdS X.K X.mg W (sRaise c [f, g] fl)) := PS.weak (ps_raise hc tk (pmk_oex T iC tI F1 hr hb .nil pass0 hg gC ha hdb he hpl)) fun D σ H h => by
  obtain ⟨m, env, st, ho, so, h⟩ := h
  refine ⟨m, env, st, ho, so, (FinS.ofE (R := RpL X.K X.mg) ho h).imp fun vs H1 p hv => ?_⟩
  obtain ⟨m1, st1, ds, pm, _, s1, r1, h1⟩ := hv
  match ds, r1, h1 with
  | [d, d2], r1, h1 =>
    obtain ⟨v, w, rfl, rv, rw'⟩ := r1.two
    refine ⟨by simp, fun a hn => ⟨a, v, w, rfl, upd_same, fun dx hdx hne => ⟨rfl, dx, [(g, w), (f, v)], ?_, upd_same, ?_, ?_⟩⟩⟩
    · rw [upd_ne (Ne.symm hne), upd_same]
    · rw [upd_ne hne] at hdx; exact hdx
    · rw [upd_ne hne] at hdx
      rw [end_heap _ hn (fun b h1 h2 => by rw [upd_ne h2, upd_ne h1, upd_ne h2, upd_ne h1])]
      obtain ⟨s2, p2, x2⟩ := ex_ok (X := X) (env := env) (σ := σ) (fs := [(g, d2), (f, d)]) (xs := [(g, w), (f, v)]) hdx s1 gC (.cons ⟨rfl, rw'⟩ (.cons ⟨rfl, rv⟩ .nil))
      exact h1 m1 _ σ (.ref C) (some dx) (Pre.refl _) p2 s2 (((ho.mono pm p)).mono (Pre.refl _) p2) x2
  | [], _, h1 => exact h1.elim
  | [_], _, h1 => exact h1.elim
  | _ :: _ :: _ :: _, _, h1 => exact h1.elim
end
section
variable {P : Program} {w : World} {K : PySem.W.Frag} {mg : Str → Option Value} {base : Heap} {C fI : Addr} {fd : FuncData} {f g : Str}
theorem init1_ok {qual : Str} {b : Stmt} {q1 q2 q3 q4 : Pos} {params : Arguments} {scope : Scope} {dV kV doc pm cdv ct oc : Value} {an od : Option Addr} {osl : Array (Option Value)}
    (lk : K.lookup fI = some ⟨oc, od, .func (PySem.W.fnOf "__init__" qual params [.Assign [.Attribute (.Name "self" q1) f q2] (.Name f q3) q4] scope dV kV doc pm an cdv ct), osl⟩) (hcd : PySem.W.codeIn K cdv qual = true) (S : FnScope ["self", f] ["self", f] scope)
    (T : OexC K C) (hno : PySem.W.findIn K (.ref C) f = some none) (hself : scope.names.lookup ("self" : Str) = some NameKind.local) (hf : scope.names.lookup f = some NameKind.local) (hd1 : (f == ("__debug__" : Str)) = false) (hd2 : (f == ("__classdict__" : Str)) = false) :
    FnOk P w K mg base CX0 1 fI (PySem.W.fnOf "__init__" qual params [.Assign [.Attribute (.Name "self" q1) f q2] (.Name f q3) q4] scope dV kV doc pm an cdv ct) ["self", f] (spI1 C K f) := by
  refine fn_of lk hcd S (fun vs H Q E h => ?_) (fun A outer s H vs Q E hr h => ?_)
  · obtain ⟨a, v, rfl, _⟩ := h
    rfl
  · obtain ⟨a, v, rfl, eH, q⟩ := h
    refine ⟨_, (pss_one (ps_ost (pe_var (i := 0) rfl (.inl hself)) (pe_var (i := 1) rfl (.inl hf) hd1 hd2))).nox, ?_⟩
    exact ⟨v, rfl, .ref a, rfl, a, C, rfl, T, hno, .inl ⟨eH, fun dx hdx hne => q dx hdx hne⟩⟩
theorem init2_ok {qual : Str} {q1 q2 q3 q4 q5 q6 q7 q8 : Pos} {params : Arguments} {scope : Scope} {dV kV doc pm cdv ct oc : Value} {an od : Option Addr} {osl : Array (Option Value)}
    (lk : K.lookup fI = some ⟨oc, od, .func (PySem.W.fnOf "__init__" qual params [.Assign [.Attribute (.Name "self" q1) f q2] (.Name f q3) q4, .Assign [.Attribute (.Name "self" q5) g q6] (.Name g q7) q8] scope dV kV doc pm an cdv ct), osl⟩) (hcd : PySem.W.codeIn K cdv qual = true) (S : FnScope ["self", f, g] ["self", f, g] scope)
    (T : OexC K C) (hno : PySem.W.findIn K (.ref C) f = some none) (hno2 : PySem.W.findIn K (.ref C) g = some none) (hself : scope.names.lookup ("self" : Str) = some NameKind.local) (hf : scope.names.lookup f = some NameKind.local) (hg : scope.names.lookup g = some NameKind.local)
    (hd1 : (f == ("__debug__" : Str)) = false) (hd2 : (f == ("__classdict__" : Str)) = false) (hd3 : (g == ("__debug__" : Str)) = false) (hd4 : (g == ("__classdict__" : Str)) = false) :
    FnOk P w K mg base CX0 1 fI (PySem.W.fnOf "__init__" qual params [.Assign [.Attribute (.Name "self" q1) f q2] (.Name f q3) q4, .Assign [.Attribute (.Name "self" q5) g q6] (.Name g q7) q8] scope dV kV doc pm an cdv ct) ["self", f, g] (spI2 C K f g) := by
  refine fn_of lk hcd S (fun vs H Q E h => ?_) (fun A outer s H vs Q E hr h => ?_)
  · obtain ⟨a, v, w, rfl, _⟩ := h
    rfl
  · obtain ⟨a, v, w, rfl, eH, q⟩ := h
    refine ⟨_, (pss_cons (ps_ost (pe_var (i := 0) rfl (.inl hself)) (pe_var (i := 1) rfl (.inl hf) hd1 hd2)) (pss_one (ps_ost (pe_var (i := 0) rfl (.inl hself)) (pe_var (i := 2) rfl (.inl hg) hd3 hd4)))).nox, ?_⟩
    refine ⟨v, rfl, .ref a, rfl, a, C, rfl, T, hno, .inl ⟨eH, fun dx hdx hne => ?_⟩⟩
    refine ⟨w, rfl, .ref a, rfl, a, C, rfl, T, hno2, .inr ⟨dx, [(f, v)], upd_same, ?_, by simp, q dx hdx hne⟩⟩
    rw [upd_ne hne, upd_same]
end
/-! ### an except clause's expression: the exception at slot i, its class, its dict -/
section
variable (K : PySem.W.Frag) (mg : Str → Option Value)
def rdHG {α β : Type} (R : RL α β) (i : Nat) (a : Addr) (cls : Value) (dd : Option Addr) (h : List (Str × D) → Ev α) : L2.St → Hp → (β → Hp → Prop) → Prop := fun σ H Q =>
  ∃ c fs m env st, σ[i]? = some (some (.ref a)) ∧ ExOk K mg m H c fs cls dd ∧ EnvOk K mg m H env σ ∧ StOk K mg m H st ∧ Fin K mg R WN σ m H (h fs env st) Q
abbrev rdH (i : Nat) (a : Addr) (cls : Value) (dd : Option Addr) (h : List (Str × D) → Ev D) : TE := rdHG K mg (Rp K mg) i a cls dd h
abbrev rdHA (i : Nat) (a : Addr) (cls : Value) (dd : Option Addr) (h : List (Str × D) → Ev (List D)) : TA := rdHG K mg (RpL K mg) i a cls dd h
variable {K mg}
theorem ExOk.mono {m m' : List Addr} {H H' : Hp} {c : Str} {fs : List (Str × D)} {cls : Value} {dd : Option Addr} (pm : Pre m m') (p : Pers H H') (x : ExOk K mg m H c fs cls dd) : ExOk K mg m' H' c fs cls dd := by
  obtain ⟨a, e1, e2, h | ⟨ad, xs, e3, e4, r⟩⟩ := x
  · exact ⟨a, e1, e2, .inl h⟩
  · exact ⟨a, e1, e2, .inr ⟨ad, xs, e3, p _ _ True.intro e4, Paired.mapP r fun q1 q2 h => ⟨h.1, Rp.mono pm p _ _ h.2⟩⟩⟩
theorem flds_get {m : List Addr} {H : Hp} : ∀ {fs : List (Str × D)} {xs : List (Str × V)} {n : Str} {d : D}, FldOk K mg m H fs xs → fs.lookup n = some d → ∃ v, xs.lookup n = some v ∧ Rp K mg m H d v
  | _, _, _, _, .nil, e => by cases e
  | (n1, d1) :: fs, (n2, v2) :: xs, n, d, .cons ⟨e1, r⟩ t, e => by
    have e1 : n1 = n2 := e1
    subst e1
    rw [List.lookup_cons] at e ⊢
    split at e
    · cases e; exact ⟨v2, rfl, r⟩
    · exact flds_get t e
end
section
variable {X : Cx} {i : Nat} {a : Addr} {cls : Value} {dd : Option Addr} {σ : L2.St} {H : Hp}
theorem rdH_bind {α β γ δ : Type} {R : RL α β} {R2 : RL γ δ} {h : List (Str × D) → Ev α} {k : List (Str × D) → α → Ev γ} {Q : δ → Hp → Prop} (q : rdHG X.K X.mg R2 i a cls dd (fun fs env st => (h fs env st).bind fun x s => k fs x env s) σ H Q) :
    rdHG X.K X.mg R i a cls dd h σ H fun y H1 => ∃ c fs m env st x, σ[i]? = some (some (.ref a)) ∧ ExOk X.K X.mg m H1 c fs cls dd ∧ EnvOk X.K X.mg m H1 env σ ∧ StOk X.K X.mg m H1 st ∧ R m H1 x y ∧ Fin X.K X.mg R2 WN σ m H1 (k fs x env st) Q := by
  obtain ⟨c, fs, m, env, st, e, x, ho, so, q⟩ := q
  refine ⟨c, fs, m, env, st, e, x, ho, so, (Fin.bind (R := R) q).imp fun y H1 p hv => ?_⟩
  obtain ⟨m1, st1, x1, pm, _, s1, r1, h1⟩ := hv
  exact ⟨c, fs, m1, env, st1, x1, e, x.mono pm p, ho.mono pm p, s1, r1, h1⟩
variable {X' : Cx} (hK : X'.K = X.K) (hM : X'.mg = X.mg)
theorem pe_hC {e : Expr} {d : D} {v : V} (hr : ∀ m H, Rp X.K X.mg m H d v) (h : PE X' e (tC v)) : PE X' e (rdH X.K X.mg i a cls dd fun _ => evC d) := PE.weak h fun σ H Q q => by
  obtain ⟨c, fs, m, env, st, _, _, _, so, q⟩ := q
  exact q m H v (Pre.refl _) (Pers.refl _) so (hr m H)
theorem pa_hNil : PA X' [] (rdHA X.K X.mg i a cls dd fun _ => evNil) := PA.weak pa_nil fun σ H Q q => by
  obtain ⟨c, fs, m, env, st, _, _, _, so, q⟩ := q
  exact q m H [] (Pre.refl _) (Pers.refl _) so rfl
theorem pa_hCons {e : Expr} {es : List Expr} {h : List (Str × D) → Ev D} {hl : List (Str × D) → Ev (List D)} (h1 : PE X' e (rdH X.K X.mg i a cls dd h)) (h2 : PA X' es (rdHA X.K X.mg i a cls dd hl)) (hs : starEach (e :: es) X'.env = (false, eval e X'.env) :: starEach es X'.env := by rfl) :
    PA X' (e :: es) (rdHA X.K X.mg i a cls dd fun fs => evCons (h fs) (hl fs)) := PA.weak (pa_cons h1 h2 hs) fun σ H Q q => by
  obtain ⟨c, fs, m, env, st, e, x, ho, so, q⟩ := q
  refine ⟨c, fs, m, env, st, e, x, ho, so, (Fin.bind (R := Rp X.K X.mg) q).imp fun y H1 p hv => ?_⟩
  obtain ⟨m1, st1, x1, pm, _, s1, r1, h1⟩ := hv
  refine ⟨c, fs, m1, env, st1, e, x.mono pm p, ho.mono pm p, s1, (Fin.bind (R := RpL X.K X.mg) h1).imp fun ys H2 p2 hv => ?_⟩
  obtain ⟨m2, st2, xs, pm2, _, s2, r2, h2⟩ := hv
  exact h2 m2 H2 (y :: ys) (Pre.refl _) (Pers.refl _) s2 (RpL.mk_cons (Rp.mono pm2 p2 _ _ r1) r2)
theorem pe_hOp {op : Operator} {f : Op2} {e e2 : Expr} {h h' : List (Str × D) → Ev D} {pos : Pos} (ho : OpR X' (binaryOp op) (rdOp2 X.K X.mg f)) (h1 : PE X' e (rdH X.K X.mg i a cls dd h)) (h2 : PE X' e2 (rdH X.K X.mg i a cls dd h')) :
    PE X' (.BinOp e op e2 pos) (rdH X.K X.mg i a cls dd fun fs => ev2 f (h fs) (h' fs)) := PE.weak (pe_op ho h1 h2) fun σ H Q q => by
  obtain ⟨c, fs, m, env, st, e, x, ho, so, q⟩ := q
  refine ⟨c, fs, m, env, st, e, x, ho, so, (Fin.bind (R := Rp X.K X.mg) q).imp fun y H1 p hv => ?_⟩
  obtain ⟨m1, st1, x1, pm, _, s1, r1, h1⟩ := hv
  refine ⟨c, fs, m1, env, st1, e, x.mono pm p, ho.mono pm p, s1, (Fin.bind (R := Rp X.K X.mg) h1).imp fun y2 H2 p2 hv => ?_⟩
  obtain ⟨m2, st2, x2, pm2, _, s2, r2, h2⟩ := hv
  exact ⟨m2, st2, x1, x2, s2, Rp.mono pm2 p2 _ _ r1, r2, h2.out⟩
theorem rdH_L {f : OpL} {hl : List (Str × D) → Ev (List D)} {Q : VK} (q : rdH X.K X.mg i a cls dd (fun fs => evL f (hl fs)) σ H Q) : tCB (rdOpL X.K X.mg f) (rdHA X.K X.mg i a cls dd hl) σ H Q := by
  obtain ⟨c, fs, m, env, st, e, x, ho, so, q⟩ := q
  refine ⟨c, fs, m, env, st, e, x, ho, so, (Fin.bind (R := RpL X.K X.mg) q).imp fun y H1 p hv => ?_⟩
  obtain ⟨m1, st1, x1, pm, _, s1, r1, h1⟩ := hv
  exact ⟨m1, st1, x1, s1, r1, h1.out⟩
theorem pe_hB {f : OpL} {x : Str} {id : String} {e : Expr} {es : List Expr} {hl : List (Str × D) → Ev (List D)} {p pos : Pos} (hc : CallR X' (.builtin id) (rdOpL X.K X.mg f)) (hg : Gl X' x) (hm : X'.mg x = none) (hv : bootBuiltins x = some (.builtin id)) (ha : PA X' (e :: es) (rdHA X.K X.mg i a cls dd hl))
    (hn : x ≠ "__name__" := by decide) (hdb : (x == ("__debug__" : Str)) = false := by decide) (he : starEach (e :: es) X'.env = (false, eval e X'.env) :: starEach es X'.env := by rfl) (hpl : (backTo pos (starEach es X'.env)).any (·.1) = false := by rfl) :
    PE X' (.Call (.Name x p) (e :: es) [] pos) (rdH X.K X.mg i a cls dd fun fs => evL f (hl fs)) := PE.weak (pe_callB hc hg hm hv ha hn hdb he hpl) fun σ H Q q => rdH_L q
theorem pe_hTup {es : List Expr} {hl : List (Str × D) → Ev (List D)} {k} {pos : Pos} (h : PA X' es (rdHA X.K X.mg i a cls dd hl)) : PE X' (.Tuple es k pos) (rdH X.K X.mg i a cls dd fun fs => evL mkTup (hl fs)) := PE.weak (pe_tup h) fun σ H Q q => by
  obtain ⟨c, fs, m, env, st, e, x, ho, so, q⟩ := q
  refine ⟨c, fs, m, env, st, e, x, ho, so, (Fin.bind (R := RpL X.K X.mg) q).imp fun y H1 p hv => ?_⟩
  obtain ⟨m1, st1, x1, pm, _, s1, r1, h1⟩ := hv
  replace h1 := h1.out
  unfold mkTup at h1
  split at h1
  · rename_i hl
    exact ⟨by rw [r1.length]; exact hl, fun p hp => h1.tup s1 r1 hp⟩
  · exact h1.elim
theorem pe_hLst {es : List Expr} {hl : List (Str × D) → Ev (List D)} {pos : Pos} (h : PA X' es (rdHA X.K X.mg i a cls dd hl)) : PE X' (.List es pos) (rdH X.K X.mg i a cls dd fun fs => evL mkLst (hl fs)) := PE.weak (pe_lst h) fun σ H Q q => by
  obtain ⟨c, fs, m, env, st, e, x, ho, so, q⟩ := q
  refine ⟨c, fs, m, env, st, e, x, ho, so, (Fin.bind (R := RpL X.K X.mg) q).imp fun y H1 p hv => ?_⟩
  obtain ⟨m1, st1, x1, pm, _, s1, r1, h1⟩ := hv
  replace h1 := h1.out
  unfold mkLst at h1
  split at h1
  · rename_i hl
    exact ⟨by rw [r1.length]; exact hl, fun p hp => h1.lst s1 r1 hp⟩
  · exact h1.elim
/-- e.f, e the exception at slot i (its class: C, by its name) -/
theorem pe_hFld {oe : Obj} {pn : List (Addr × Obj)} {x n : Str} {p pos : Pos} (cn : Str) (C : Addr) (hcl : cls = .ref C) (T : XfC X.K C) (hno : PySem.W.findIn X.K (.ref C) n = some none) (hz : Zc cls dd oe) (hf : ∃ vs, oe.data = .fields vs) (hN : X.N[i]? = some x) (hv : Vis X.env.scope x)
    (hd : (x == ("__debug__" : Str)) = false := by decide) (hcd : (x == ("__classdict__" : Str)) = false := by decide) (hb : attributeBase (.Name x p) n X.env (eval (.Name x p) X.env) = eval (.Name x p) X.env := by rfl) :
    PE (X.suite a ((a, oe) :: pn)) (.Attribute (.Name x p) n pos) (rdH X.K X.mg i a cls dd fun fs => evFld fs n) := PE.weak (pe_xf T hno hz hf (pe_var (X := X.suite a ((a, oe) :: pn)) hN hv hd hcd) hb) fun σ H Q q => by
  obtain ⟨c, fs, m, env, st, es, x, ho, so, q⟩ := q
  replace q := q.out
  refine ⟨_, es, rfl, hcl, ?_⟩
  cases e : fs.lookup n with
  | none => rw [e] at q; exact q.elim
  | some d =>
    rw [e] at q
    obtain ⟨ca, _, _, ⟨e1, _⟩ | ⟨ad, xs, e3, e4, r⟩⟩ := x
    · rw [e1] at e; cases e
    · obtain ⟨v, ev, rv⟩ := flds_get r e
      exact ⟨ad, xs, v, e3, e4, ev, q.here so rv⟩
/-- try: body / except cn as n: return expr -/
theorem ps_sTry {W : WX} {T : ExT} {cn n : Str} {c : Value} {body : List Stmt} {b : Ss} {h : List (Str × D) → Ev D} {ex : Expr} {np pos pos' rp : Pos} (hT : TabOk X.K X.mg T) (hs : X.stack = X.env :: X.outer) (hfr : X.env.frame = some X.env.locals) (hN : X.N.Nodup) (hi : X.N[i]? = some n) (hln : X.env.kindOf n = some .local) (hg : Gl X cn) (hdb : (cn == ("__debug__" : Str)) = false) (hcn : X.mg cn = some c) (tk : Takes X W)
    (hb : ∀ (W : WX) (pn : List (Addr × Obj)) (xe : Value → Shared → Prop), Takes (X.tr pn xe) W → PassesOwn (model X.prog X.w) X.A X.env xe → PSs (X.tr pn xe) body (rdS X.K X.mg W b))
    (hh : ∀ (a : Addr) (oe : Obj) (cls : Value) (d : Option Addr) (pn : List (Addr × Obj)), (∃ cc, T cc cn = some true ∧ X.mg cc = some cls) → Zc cls d oe → (∃ vs, oe.data = .fields vs) → PE (X.suite a ((a, oe) :: pn)) ex (rdH X.K X.mg i a cls d h)) :
    PS X (.Try body [.ExceptHandler (some (.Name cn np)) (some n) [.Return (some ex) rp] pos'] [] [] pos) (rdS X.K X.mg W (sTry T cn i b h)) := by
  have hsu : ∀ (a : Addr) (oe : Obj) (cls : Value) (d : Option Addr) (pn : List (Addr × Obj)), Zc cls d oe → (∃ vs, oe.data = .fields vs) → PSs (X.suite a ((a, oe) :: pn)) [.Return (some ex) rp] (fun D σ H => (∃ cc, T cc cn = some true ∧ X.mg cc = some cls) ∧ rdH X.K X.mg i a cls d h σ H D.rt) := fun a oe cls d pn hz hf => by
    refine ⟨fun pins s σ H D I q => ?_⟩
    exact (pss_one (ps_ret (hh a oe cls d pn q.1 hz hf))).run pins s σ H D I q.2
  refine PS.weak (ps_try_as hs hfr hN hi hln ⟨hg, hdb, .inl hcn⟩ tk hb hsu) fun D σ H q => ?_
  obtain ⟨m, env, st, ho, so, q⟩ := q
  refine ⟨m, env, st, ho, so, ?_⟩
  unfold sTry at q
  cases e : b env st with
  | stuck => rw [e] at q; exact q
  | fl f s => rw [e] at q; exact q
  | er cc fs env' s =>
    rw [e] at q
    intro m' H' σ' cls dd pm p s1 ho1 x1
    obtain ⟨ca, ec, emg, rest⟩ := id x1
    cases eT : T cc cn with
    | none => simp only [eT] at q; exact q.elim
    | some bb =>
      refine ⟨bb, ec ▸ hT cc cn bb ca eT emg c hcn, fun hbt a ha => ?_, fun hbf => ?_⟩
      · subst hbt
        simp only [eT] at q
        split at q
        · rename_i hl
          refine ⟨⟨cc, eT, by rw [ec]; exact emg⟩, cc, fs, m', env'.set i none, s, ?_, x1, ho1.forget i, s1, ?_⟩
          · rw [List.getElem?_set_self (by rw [← ho1.len]; exact hl)]
          · cases eh : h fs (env'.set i none) s with
            | ok d s2 =>
              rw [eh] at q
              exact fun m2 H2 v a1 a2 a3 r => q m2 H2 (pm.trans a1) (p.trans a2) a3 v r
            | err _ _ _ => rw [eh] at q; exact q.elim
            | stuck => rw [eh] at q; exact q.elim
        · exact q.elim
      · subst hbf
        simp only [eT] at q
        exact q m' H' σ' cls dd pm p s1 ho1 x1
end
end PP
set_option Elab.async false
set_option linter.all false
set_option maxRecDepth 100000
set_option maxHeartbeats 2000000
/-! PP16: dict displays; callees in short; room. -/
namespace PP
open PySem PySem.Spec PyProof.Rows L2
variable [Tbl]

theorem u1 {A : Around} {k : Nat} (hr : Room k A) : A.units + 1 < cLine := by have := hr.un; omega
theorem u64 {A : Around} {k : Nat} (hr : Room k A) : A.units + 64 < cLine := by have := hr.un; omega
theorem u65 {A : Around} {k : Nat} (hr : Room k A) : A.units + 65 < cLine := by have := hr.un; omega
/-- what a caller knows of a def x -/
structure Cal (K : PySem.W.Frag) (mg : Str → Option Value) (P : Program) (w : World) (base : Heap) (x : Str) (k : Nat) (ps : List Str) (g : Fn) : Prop where
  ex : ∃ (f : Addr) (fd : FuncData), FnG K mg P w base k f fd ps g ∧ mg x = some (.ref f) ∧ PySem.W.keepIn K (.ref f) = true ∧ Binds K fd ps []
section
variable {X : Cx} {W : WX} {k : Nat} {ps : List Str} {g : Fn} {x : Str} {p pos : Pos} {e : Expr} {es : List Expr} {fl : Ev (List D)}
theorem pe_evCal (c : Cal X.K X.mg X.prog X.w X.base x k ps g) (hr : Room k X.A) (hgs : X.A.guards = some []) (hg : Gl X x) (tk : Takes X W) (ha : PA X (e :: es) (rdA X.K X.mg W fl)) (hn : ∀ env st ds s, fl env st = .ok ds s → ds.length = ps.length)
    (hdb : (x == ("__debug__" : Str)) = false := by decide) (he : starEach (e :: es) X.env = (false, eval e X.env) :: starEach es X.env := by rfl) (hpl : (backTo pos (starEach es X.env)).any (·.1) = false := by rfl) :
    PE X (.Call (.Name x p) (e :: es) [] pos) (rdE X.K X.mg W (evCall g fl)) := by
  obtain ⟨f, fd, F, hm, hk, hb⟩ := c.ex
  exact pe_evCall F hr hgs hg hm hk hb tk ha hn hdb he hpl
theorem pe_evCal0 (c : Cal X.K X.mg X.prog X.w X.base x k [] g) (hr : Room k X.A) (hgs : X.A.guards = some []) (hg : Gl X x) (tk : Takes X W) (hdb : (x == ("__debug__" : Str)) = false := by decide) :
    PE X (.Call (.Name x p) [] [] pos) (rdE X.K X.mg W (evCall g evNil)) := by
  obtain ⟨f, fd, F, hm, hk, hb⟩ := c.ex
  exact pe_evCall0 F hr hgs hg hm hk hb tk hdb

/-! ### {k: v, ..} -/
abbrev Evs := EnvD → Store → Res (List (D × D))
def evPrs : List (Ev D × Ev D) → Evs
  | [] => fun _ st => .ok [] st
  | (k, v) :: r => fun env st => (k env st).bind fun x s1 => (v env s1).bind fun y s2 => (evPrs r env s2).bind fun ps s3 => .ok ((x, y) :: ps) s3
def dispEnd (l : Nat) (ps : List (D × D)) (st : Store) : Res D := match st[l]? with
  | some (false, .dcK []) => if (ps.all fun p => isK p.1) = true ∧ ps.length ≤ 15 then .ok (.ref l) (st.set l (false, .dct (putAll [] ps))) else .stuck
  | _ => .stuck
def evDisp (trs : List (Ev D × Ev D)) : Ev D := fun env st => (evPrs trs env (st ++ [(false, .dcK [])])).bind fun ps s => dispEnd st.length ps s
def PrR (K : PySem.W.Frag) (mg : Str → Option Value) : RL (List (D × D)) (List (V × V)) := fun m H ps vs => Paired (fun (p : D × D) (q : V × V) => Rp K mg m H p.1 q.1 ∧ Rp K mg m H p.2 q.2) ps vs
theorem rd_prs : ∀ (trs : List (Ev D × Ev D)) {σ : L2.St} {H : Hp} {Q : List (V × V) → Hp → Prop}, rdG X.K X.mg (PrR X.K X.mg) W (evPrs trs) σ H Q → tPairs (trs.map fun t => (rdE X.K X.mg W t.1, rdE X.K X.mg W t.2)) σ H Q
  | [], σ, H, Q, h => by
    obtain ⟨m, env, st, ho, so, h⟩ := h
    exact h m H [] (Pre.refl _) (Pers.refl _) so .nil
  | (k, v) :: r, σ, H, Q, h => by
    obtain ⟨m, env, st, ho, so, h⟩ := h
    refine ⟨m, env, st, ho, so, (Fin.bind (R := Rp X.K X.mg) h).imp fun x H1 p hv => ?_⟩
    obtain ⟨m1, st1, d, pm, _, s1, r1, h1⟩ := hv
    refine ⟨m1, env, st1, ho.mono pm p, s1, (Fin.bind (R := Rp X.K X.mg) h1).imp fun y H2 p2 hv => ?_⟩
    obtain ⟨m2, st2, d2, pm2, _, s2, r2, h2⟩ := hv
    refine rd_prs r ⟨m2, env, st2, (ho.mono pm p).mono pm2 p2, s2, (Fin.bind (R := PrR X.K X.mg) h2).imp fun ps H3 p3 hv => ?_⟩
    obtain ⟨m3, st3, ds, pm3, _, s3, r3, h3⟩ := hv
    exact h3 m3 H3 ((x, y) :: ps) (Pre.refl _) (Pers.refl _) s3 (.cons ⟨Rp.mono pm3 p3 _ _ (Rp.mono pm2 p2 _ _ r1), Rp.mono pm3 p3 _ _ r2⟩ r3)
theorem prs_keys {K : PySem.W.Frag} {mg : Str → Option Value} {m : List Addr} {H : Hp} : ∀ {ps : List (D × D)} {vs : List (V × V)}, PrR K mg m H ps vs → (ps.all fun p => isK p.1) = true → ∃ kvs : List (Key × V), vs = kvs.map (fun kv => (kV kv.1, kv.2)) ∧ Kvs K mg m H fK ps kvs
  | _, _, .nil, _ => ⟨[], rfl, .nil⟩
  | p :: ps, q :: vs, .cons ⟨r1, r2⟩ t, h => by
    rw [List.all_cons, Bool.and_eq_true] at h
    obtain ⟨kvs, rfl, hk⟩ := prs_keys t h.2
    obtain ⟨k, ek⟩ := isK_of h.1
    rw [ek] at r1
    have e1 := Rp_kD.mp r1
    refine ⟨(k, q.2) :: kvs, ?_, .cons ⟨ek, r2⟩ hk⟩
    rw [List.map_cons, ← e1]
theorem pe_evDisp {trs : List (Ev D × Ev D)} {keys : List (Option Expr)} {values : List Expr} (h : PPs X pos keys values (trs.map fun t => (rdE X.K X.mg W t.1, rdE X.K X.mg W t.2))) (hall : keys.all (·.isSome) = true) (hl : keys.length = values.length) (h0 : keys ≠ [])
    (h15 : keys.length ≤ 15) : PE X (.Dict keys values pos) (rdE X.K X.mg W (evDisp trs)) := PE.weak (pe_disp h hall hl h0 h15) fun σ H Q h => by
  obtain ⟨m, env, st, ho, so, h⟩ := h
  intro p hp
  have pD : Pers H (upd H p (.dK [])) := Pers.new hp
  have sD : StOk X.K X.mg (m ++ [p]) (upd H p (.dK [])) (st ++ [(false, .dcK [])]) := so.snoc hp ⟨[], .nil, upd_same⟩
  have eD : (m ++ [p])[st.length]? = some p := Pre.last so.len
  refine rd_prs trs ⟨m ++ [p], env, _, ho.mono (Pre.snoc m p) pD, sD, (Fin.bind (R := PrR X.K X.mg) (Fin.mono (Pre.snoc m p) pD h)).imp fun vs H1 p1 hv => ?_⟩
  obtain ⟨m1, st1, ps, pm, _, s1, r1, h1⟩ := hv
  unfold dispEnd at h1
  split at h1
  · rename_i e1
    split at h1
    · rename_i hc
      obtain ⟨xs, rx, eH⟩ := (show CellOk X.K X.mg m1 H1 p false (.dcK []) from s1.at_ _ _ _ p e1 (pm _ _ eD))
      have eH : H1 p = some (.dK xs) := eH
      have ex := rx.nil_of
      subst ex
      obtain ⟨kvs, rfl, hk⟩ := prs_keys r1 hc.1
      refine ⟨eH, kvs, rfl, by rw [← hk.length]; exact hc.2, ?_⟩
      have pw : Pers H1 (upd H1 p (.dK (mergeK [] kvs))) := Pers.write eH (fun z => z)
      exact h1 m1 _ _ (Pre.refl _) pw (s1.write e1 (pm _ _ eD) pw (.inl ⟨_, (putAll_rp hk .nil).mono (Pre.refl _) pw, upd_same⟩)) ⟨p, rfl, pm _ _ eD⟩
    · exact h1.elim
  · exact h1.elim
end
end PP
set_option Elab.async false
set_option linter.all false
set_option maxRecDepth 100000
set_option maxHeartbeats 2000000
/-! PP17: a dict compared with an empty one; x op= e. -/
namespace PP
open PySem PySem.Spec PyProof.Rows L2
variable [Tbl]

/-- d == {} or d != {}: is d empty -/
def empD (st : Store) (d e : D) : Option Bool := match d, e with
  | .ref l, .ref k => match st[k]? with
    | some (false, .dct []) => if l = k then none else (dctK st d).map (·.isEmpty)
    | _ => none
  | _, _ => none
def eqX : Op2 := fun d e st => match empD st d e with
  | some b => some (.bl b, st)
  | none => eqD d e st
def neX : Op2 := fun d e st => match empD st d e with
  | some b => some (.bl (!b), st)
  | none => neD d e st
section
variable {X : Cx}
theorem empD_at {pins : List (Addr × Obj)} {σ : L2.St} {m : List Addr} {H : Hp} {s : Shared} {st : Store} (I : Inv X pins σ H s) (so : StOk X.K X.mg m H st) {d e : D} {x y : V} {b : Bool} (rd : Rp X.K X.mg m H d x) (re : Rp X.K X.mg m H e y) (h : empD st d e = some b) :
    ∃ (a c : Addr) (kv : List (Key × V)) (H1 : Hp), x = .ref a ∧ y = .ref c ∧ Inv X pins σ H1 s ∧ StOk X.K X.mg m H1 st ∧ Pers H H1 ∧ Rd H1 a (.dK kv) ∧ Rd H1 c (.dK []) ∧ b = kv.isEmpty := by
  unfold empD at h
  split at h
  · rename_i l k
    split at h
    · rename_i ek
      split at h
      · cases h
      · rename_i hlk
        obtain ⟨kvs, e1, rfl⟩ := Option.map_eq_some_iff.mp h
        obtain ⟨a, rfl, ea⟩ := id rd
        obtain ⟨c, rfl, ec⟩ := re
        obtain ⟨a', kv', H1, q, I1, s1, p1, hd, kr⟩ := dctK_at I so rd e1
        cases q
        have hac : a ≠ c := fun z => by
          subst z
          obtain ⟨h1, q1⟩ := List.getElem?_eq_some_iff.mp ea
          obtain ⟨h2, q2⟩ := List.getElem?_eq_some_iff.mp ec
          exact hlk ((List.getElem_inj so.nd).mp (q1.trans q2.symm))
        have hb : kvs.isEmpty = kv'.isEmpty := by cases kr <;> rfl
        rcases (s1.at_ k _ _ c ek ec).emp with eH | eH
        · exact ⟨a, c, kv', H1, rfl, rfl, I1, s1, p1, hd, .inl eH, hb⟩
        · obtain ⟨s2, p2⟩ := s1.turn ek ec eH (fun z => z) (.inl rfl)
          refine ⟨a, c, kv', _, rfl, rfl, Inv.asK I1 eH, s2, p1.trans p2, ?_, .inl upd_same, hb⟩
          rcases hd with hd | ⟨o, hd⟩
          · exact .inl (by rw [upd_ne hac]; exact hd)
          · exact .inr ⟨o, by rw [upd_ne hac]; exact hd⟩
    · cases h
  · cases h
theorem hits_none {K : Type} [DecidableEq K] {A : Around} {s : Shared} {ka : List (K × Value)} (h : ka.length = ([] : List (K × Value)).length) : PySem.W.KeqHits A s ([] : List (K × Value)) ka true := by
  cases ka with
  | nil => exact .nil
  | cons p r => cases h
theorem len_emp {kv : List (Key × V)} {vs : List (Key × Value)} (r : KV kv vs) : (vs.length == ([] : List (Key × Value)).length) = kv.isEmpty := by
  cases r <;> rfl
theorem op_eqX (hu : X.A.units + 64 < cLine) : OpR X (compareOp .Eq) (rdOp2 X.K X.mg eqX) := by
  intro pins s σ H x y v u Q I rx ry h
  obtain ⟨m, st, d, e, so, rd, re, o⟩ := h
  unfold eqX at o
  split at o
  · rename_i b eb
    obtain ⟨a, c, kv, H1, rfl, rfl, I1, s1, p1, hd, hc, rfl⟩ := empD_at I so rd re eb
    cases rx; cases ry
    obtain ⟨_, lo, vs, rel, dd⟩ := dk_rd I1.hok hd
    obtain ⟨_, lo2, ws, rel2, dd2⟩ := dk_rd I1.hok hc
    cases rel2
    refine PySem.W.keq_eq lo lo2 dd dd2 (by omega) (fun q => hits_none q) ?_
    rw [len_emp rel, Bool.and_true]
    exact ⟨.bl kv.isEmpty, H1, I1, rfl, o m H1 _ (Pre.refl _) p1 s1 rfl⟩
  · exact op_eqDd hu pins s σ H x y v u Q I rx ry ⟨m, st, d, e, so, rd, re, o⟩
theorem op_neX (hu : X.A.units + 64 < cLine) : OpR X (compareOp .NotEq) (rdOp2 X.K X.mg neX) := by
  intro pins s σ H x y v u Q I rx ry h
  obtain ⟨m, st, d, e, so, rd, re, o⟩ := h
  unfold neX at o
  split at o
  · rename_i b eb
    obtain ⟨a, c, kv, H1, rfl, rfl, I1, s1, p1, hd, hc, rfl⟩ := empD_at I so rd re eb
    cases rx; cases ry
    obtain ⟨_, lo, vs, rel, dd⟩ := dk_rd I1.hok hd
    obtain ⟨_, lo2, ws, rel2, dd2⟩ := dk_rd I1.hok hc
    cases rel2
    refine PySem.W.keq_ne lo lo2 dd dd2 (by omega) (fun q => hits_none q) ?_
    rw [len_emp rel, Bool.and_true]
    exact ⟨.bl (!kv.isEmpty), H1, I1, rfl, o m H1 _ (Pre.refl _) p1 s1 rfl⟩
  · exact op_neDd hu pins s σ H x y v u Q I rx ry ⟨m, st, d, e, so, rd, re, o⟩
/-- x += e, x -= e of ints -/
def augI (f : Int → Int → Int) : Op2 := fun d e st => match d, e with
  | .int a, .int b => some (.int (f a b), st)
  | _, _ => none
theorem PIp.weak {op : Operator} {t t' : TIp} (h : PIp X op t) (i : ∀ x y H Q, t' x y H Q → t x y H Q) : PIp X op t' := fun pins s σ H x y v u Q I rx ry q => h pins s σ H x y v u Q I rx ry (i _ _ _ _ q)
theorem ip_augAdd : PIp X .Add (rdOp2 X.K X.mg (augI fun i j => i + j)) := PIp.weak ip_add fun x y H Q h => by
  obtain ⟨m, st, d, e, so, rd, re, o⟩ := h
  unfold augI at o
  split at o
  · cases rd; cases re; exact ⟨_, _, rfl, rfl, o.here so rfl⟩
  · exact o.elim
theorem ip_augSub : PIp X .Sub (rdOp2 X.K X.mg (augI fun i j => i - j)) := PIp.weak ip_sub fun x y H Q h => by
  obtain ⟨m, st, d, e, so, rd, re, o⟩ := h
  unfold augI at o
  split at o
  · cases rd; cases re; exact ⟨_, _, rfl, rfl, o.here so rfl⟩
  · exact o.elim
end
/-! ### own exception classes, in short -/
structure XC1 (K : PySem.W.Frag) (mg : Str → Option Value) (P : Program) (w : World) (base : Heap) (c f : Str) (C : Addr) : Prop where
  gC : mg c = some (.ref C)
  oex : OexC K C
  xf : XfC K C
  no : PySem.W.findIn K (.ref C) f = some none
  ini : ∃ (fI : Addr) (fd : FuncData), PySem.W.findIn K (.ref C) "__init__" = some (some (.ref fI)) ∧ PySem.W.typeIn K (.ref fI) = some (.type "function") ∧ FnOk P w K mg base CX0 1 fI fd ["self", f] (spI1 C K f) ∧ Binds K fd ["self", f] []
structure XC2 (K : PySem.W.Frag) (mg : Str → Option Value) (P : Program) (w : World) (base : Heap) (c f g : Str) (C : Addr) : Prop where
  gC : mg c = some (.ref C)
  oex : OexC K C
  xf : XfC K C
  no : PySem.W.findIn K (.ref C) f = some none
  no2 : PySem.W.findIn K (.ref C) g = some none
  ini : ∃ (fI : Addr) (fd : FuncData), PySem.W.findIn K (.ref C) "__init__" = some (some (.ref fI)) ∧ PySem.W.typeIn K (.ref fI) = some (.type "function") ∧ FnOk P w K mg base CX0 1 fI fd ["self", f, g] (spI2 C K f g) ∧ Binds K fd ["self", f, g] []
theorem blk_of {N : List Str} {sc scope : Scope} {own : List (Str × Nat)} (h : blkC N sc scope own = true) : blkC N sc scope own = true := h
theorem cls_of {mg : Str → Option Value} {T : ExT} {cn : Str} {cls : Value} {C : Addr} (h : ∃ cc, T cc cn = some true ∧ mg cc = some cls) (hT : ∀ cc, T cc cn = some true → cc = cn) (g : mg cn = some (.ref C)) : cls = .ref C := by
  obtain ⟨cc, e1, e2⟩ := h
  rw [hT cc e1, g] at e2
  exact (Option.some.inj e2).symm
section
variable {X : Cx} {W : WX} {c f g : Str} {C : Addr} {fl : Ev (List D)} {e : Expr} {es : List Expr} {p pos pos2 : Pos}
theorem XC1.raise (x : XC1 X.K X.mg X.prog X.w X.base c f C) (hc : X.calm = true) (tk : Takes X W) (hr : Room 2 X.A) (hg : Gl X c) (ha : PA X (e :: es) (rdA X.K X.mg W fl))
    (hdb : (c == ("__debug__" : Str)) = false := by decide) (he : starEach (e :: es) X.env = (false, eval e X.env) :: starEach es X.env := by rfl) (hpl : (backTo pos (starEach es X.env)).any (·.1) = false := by rfl) :
    PS X (.Raise (some (.Call (.Name c p) (e :: es) [] pos)) none pos2) (rdS X.K X.mg W (sRaise c [f] fl)) := by
  obtain ⟨fI, fd, h1, h2, h3, h4⟩ := x.ini
  exact ps_sRaise1 hc tk x.oex h1 h2 h3 hr h4 hg x.gC ha hdb he hpl
theorem XC2.raise (x : XC2 X.K X.mg X.prog X.w X.base c f g C) (hc : X.calm = true) (tk : Takes X W) (hr : Room 2 X.A) (hg : Gl X c) (ha : PA X (e :: es) (rdA X.K X.mg W fl))
    (hdb : (c == ("__debug__" : Str)) = false := by decide) (he : starEach (e :: es) X.env = (false, eval e X.env) :: starEach es X.env := by rfl) (hpl : (backTo pos (starEach es X.env)).any (·.1) = false := by rfl) :
    PS X (.Raise (some (.Call (.Name c p) (e :: es) [] pos)) none pos2) (rdS X.K X.mg W (sRaise c [f, g] fl)) := by
  obtain ⟨fI, fd, h1, h2, h3, h4⟩ := x.ini
  exact ps_sRaise2 hc tk x.oex h1 h2 h3 hr h4 hg x.gC ha hdb he hpl
end
end PP
set_option Elab.async false
set_option linter.all false
set_option maxRecDepth 100000
set_option maxHeartbeats 2000000
/-! PP18: the head's facts: a Hook of any test of the written part and of its defs. -/
namespace PP
open PySem PySem.Spec PyProof.Rows L2 He
variable [Tbl]

def obsF (fb : PySem.W.Frag → Bool) (fn : List DefD) (K : PySem.W.Frag) : AlD := (fb K && fn.all fun d => d.ok K, fn.map fun d => fnW K d.at_)
def SaysF (fb : PySem.W.Frag → Bool) (fn : List DefD) (K : PySem.W.Frag) : Prop := obsF fb fn K = valD fn
/-- an object that a table may be -/
def isTab : Option Obj → Bool
  | some ⟨.none, _, .fields _, _⟩ => true
  | _ => false
/-- what is reached, but tables -/
def asT (g : Addr → Option Obj) (n : Nat) : List Addr := (asD g n).filter fun a => !isTab (g a)
def obsFG (n : Nat) (fb : PySem.W.Frag → Bool) (fn : List DefD) (g : Addr → Option Obj) : AlD := obsF fb fn (frG g (asT g n))
def hookF (n : Nat) (fb : PySem.W.Frag → Bool) (fn : List DefD) : PySem.W.Hook where
  α := AlD
  obs := fun s => obsFG n fb fn s.heap.get?
  val := fun _ => valD fn
  says := fun _ h => ∃ K : PySem.W.Frag, K.In h ∧ SaysF fb fn K
  of := fun _ _ q => ⟨_, frG_in, q⟩
  keeps := fun _ _ _ ⟨K, hK, q⟩ k => ⟨K, PySem.W.Frag.In.keeps hK k, q⟩
theorem obsFG_eq {n : Nat} {fb : PySem.W.Frag → Bool} {fn : List DefD} {g : Addr → Option Obj} {s : Shared} (h : ∀ a, g a = s.heap.get? a) : obsFG n fb fn g = (hookF n fb fn).obs s := by
  have q : g = s.heap.get? := funext h
  rw [q] <;> rfl
section
variable {tb : PySem.W.Frag → Bool} {fn : List DefD} {K : PySem.W.Frag}
theorem SaysF.test (c : SaysF tb fn K) : tb K = true := (ba (show (tb K && fn.all fun d => d.ok K) = true from congrArg (fun z : AlD => z.1) c)).1
theorem SaysF.at_ (c : SaysF tb fn K) (i : Nat) {d : DefD} (h : fn[i]? = some d := by rfl) : ∃ fd, FunD K d.name d.qual d.params d.body d.scope (d.dvs K) (d.kws K) (fAd K d.at_) fd := by
  have ok := (ba (show (tb K && fn.all fun d => d.ok K) = true from congrArg (fun z : AlD => z.1) c)).2
  have tx : fn.map (fun d => fnW K d.at_) = fn.map DefD.val := congrArg (fun z : AlD => z.2) c
  have q : (fn.map fun d => fnW K d.at_)[i]? = (fn.map DefD.val)[i]? := by rw [tx]
  rw [List.getElem?_map, List.getElem?_map, h] at q
  exact DefD.funD (Option.some.inj q) (List.all_eq_true.mp ok d (List.mem_of_getElem? h))
end
/-! ### own exception classes, by a test -/
def mroB (C : Addr) (hasDel hasDict : Bool) (mro : List Value) (l : List (Option Value)) : Bool := match mro, l with
  | .ref C' :: bm, [_, _, _, _, some (.builtin n), _] => decide (C' = C) && (decide (n = "ValueError.__new__") && (!hasDel && (hasDict && PySem.HandSPX.refsVE bm)))
  | _, _ => false
theorem mroB_of {C : Addr} {a b : Bool} {mro : List Value} {l : List (Option Value)} (h : mroB C a b mro l = true) : ∃ bm k0 k1 k2 k3 k5, mro = .ref C :: bm ∧ l = [k0, k1, k2, k3, some (.builtin "ValueError.__new__"), k5] ∧ a = false ∧ b = true ∧ PySem.HandSPX.refsVE bm = true := by
  unfold mroB at h
  split at h
  · obtain ⟨q1, h⟩ := ba h
    obtain ⟨q2, h⟩ := ba h
    obtain ⟨q3, h⟩ := ba h
    obtain ⟨q4, q5⟩ := ba h
    have q1 := of_decide_eq_true q1
    have q2 := of_decide_eq_true q2
    subst q1 q2
    exact ⟨_, _, _, _, _, _, rfl, rfl, by simpa using q3, q4, q5⟩
  · cases h
def clsB (K : PySem.W.Frag) (C : Addr) : Bool := match K.lookup C with
  | some ⟨.type t, _, .cls cd, sl⟩ => decide (t = "type") && mroB C cd.hasDel cd.hasDict cd.mro sl.toList
  | _ => false
theorem clsB_of {K : PySem.W.Frag} {C : Addr} (h : clsB K C = true) : ∃ nm q N bs bm sn sub ab col dd k0 k1 k2 k3 k5, K.lookup C = some (excClassObj nm q C N bs bm true sn sub ab col dd k0 k1 k2 k3 k5 "ValueError.__new__") ∧ PySem.HandSPX.refsVE bm = true := by
  unfold clsB at h
  cases e : K.lookup C with
  | none => rw [e] at h; cases h
  | some o =>
    rw [e] at h
    obtain ⟨oc, od, dt, sl⟩ := o
    cases oc with
    | type t =>
      cases dt with
      | cls cd =>
        obtain ⟨ht, hm⟩ := ba h
        have ht := of_decide_eq_true ht
        subst ht
        obtain ⟨bm, k0, k1, k2, k3, k5, e1, e2, e3, e4, e5⟩ := mroB_of hm
        obtain ⟨nm, bs, mro, nsp, qn, hdd, sn, sub, ab, col, del⟩ := cd
        obtain ⟨l⟩ := sl
        simp only at e1 e2 e3 e4
        subst e1 e2 e3 e4
        exact ⟨nm, qn, nsp, bs, bm, sn, sub, ab, col, od, k0, k1, k2, k3, k5, rfl, e5⟩
      | _ => cases h
    | _ => cases h
def oexB (K : PySem.W.Frag) (C : Addr) : Bool := clsB K C && (eqO (PySem.W.findIn K (.ref C) "__setattr__") (some (some (.builtin "object.__setattr__"))) && (decide (PySem.W.subIn K (.ref C) (.type "BaseException") = some true) && (decide (PySem.W.typeIn K (.ref C) = some (.type "type")) && PySem.W.keepIn K (.ref C))))
theorem oexB_ok {K : PySem.W.Frag} {C : Addr} (h : oexB K C = true) : OexC K C := by
  obtain ⟨h0, h⟩ := ba h
  obtain ⟨h1, h⟩ := ba h
  obtain ⟨h2, h⟩ := ba h
  obtain ⟨h3, h4⟩ := ba h
  exact ⟨clsB_of h0, eqO_ok h1, of_decide_eq_true h2, of_decide_eq_true h3, h4⟩
/-- a class's own statements -/
def clsBody : Stmt → List Stmt
  | .ClassDef _ _ _ b _ _ _ _ _ _ _ => b
  | _ => []
/-- a class c with an __init__ and these fields -/
def exB (c : Str) (fs : List Str) (K : PySem.W.Frag) : Bool := (Fa.glo c).ok K && (oexB K (ga K c) && (xfB K (ga K c) && (fs.all (fun f => eqO (PySem.W.findIn K (.ref (ga K c)) f) (some none)) &&
  (eqO (PySem.W.findIn K (.ref (ga K c)) "__init__") (some (some (.ref (ma K (ga K c) "__init__")))) && decide (PySem.W.typeIn K (.ref (ma K (ga K c) "__init__")) = some (.type "function"))))))
section
variable {P : Program} {w : World} {K : PySem.W.Frag} {h : Heap} {mg : Str → Option Value} {base : Heap}
theorem mkXC1 (kin : K.In h) (G : h.Ns mainGlobals mg) {c f : Str} (hb : exB c [f] K = true) {qual : Str} {params : Arguments} {scope : Scope} {q1 q2 q3 q4 : Pos} {fd : FuncData}
    (F : FunD K "__init__" qual params [.Assign [.Attribute (.Name "self" q1) f q2] (.Name f q3) q4] scope [] [] (fAd K (c, some "__init__")) fd) (S : FnScope ["self", f] ["self", f] scope) (hs : scope.names.lookup ("self" : Str) = some NameKind.local) (hf : scope.names.lookup f = some NameKind.local)
    (hd1 : (f == ("__debug__" : Str)) = false) (hd2 : (f == ("__classdict__" : Str)) = false)
    (bi : ∀ (kV doc pm : Value) (an : Option Addr) (cdv ct : Value) (us : List Value), us.length = 2 → bindArgs (PySem.W.fnOf "__init__" qual params [.Assign [.Attribute (.Name "self" q1) f q2] (.Name f q3) q4] scope .none kV doc pm an cdv ct) ⟨us, []⟩ = pure ((["self", f] : List Str).zip us)) :
    XC1 K mg P w base c f (ga K c) := by
  obtain ⟨h1, hb⟩ := ba hb
  obtain ⟨h2, hb⟩ := ba hb
  obtain ⟨h3, hb⟩ := ba hb
  obtain ⟨h4, hb⟩ := ba hb
  obtain ⟨h5, h6⟩ := ba hb
  have no := eqO_ok (List.all_eq_true.mp h4 f List.mem_cons_self)
  refine ⟨glo_ok kin G h1, oexB_ok h2, xfB_ok h3, no, ma K (ga K c) "__init__", fd, eqO_ok h5, of_decide_eq_true h6, ?_, FunD.bindsN F bi⟩
  obtain ⟨oc, od, dV, kV, doc, pm, an, cdv, ct, osl, rfl, lk, hcd, _, _⟩ := F.ex
  exact init1_ok (b := .Pass ⟨0, 0, 0, 0⟩) lk hcd S (oexB_ok h2) no hs hf hd1 hd2
/-- a def of the text -/
theorem FunD.okG {x qual : Str} {params : Arguments} {body : List Stmt} {scope : Scope} {f : Addr} {fd : FuncData} {N ps : List Str} {k n : Nat} {b : Ss} (F : FunD K x qual params body scope [] [] f fd) (S : FnScope N ps scope) (hn : N.length = n)
    (hb : ∀ (cdv : Value) (A : Around) (outer : List Env) (s : Shared) (H : Hp) (E : XK), Room k (A.deeper (envOfC qual scope s.heap.objs.size f cdv)) → (A.deeper (envOfC qual scope s.heap.objs.size f cdv)).guards = some [] →
      PSs (cxOf (L2.CX P w) P w K mg base N qual scope f cdv A outer s H E) body (rdS K mg (fun cls d _ H => E cls d H) b)) : FnG K mg P w base (k + 1) f fd ps (runS n b) := by
  obtain ⟨oc, od, dV, kV, doc, pm, an, cdv, ct, osl, rfl, lk, hcd, _, _⟩ := F.ex
  subst hn
  exact fnG_of lk hcd S (hb cdv)
theorem mkCal (kin : K.In h) (G : h.Ns mainGlobals mg) {x qual : Str} {params : Arguments} {body : List Stmt} {scope : Scope} {k : Nat} {ps : List Str} {g : Fn} {fd : FuncData} (hb : (Fa.glo x).ok K = true) (F : FunD K x qual params body scope [] [] (fAd K (x, none)) fd)
    (Gf : FnG K mg P w base k (fAd K (x, none)) fd ps g)
    (bi : ∀ (kV doc pm : Value) (an : Option Addr) (cdv ct : Value) (us : List Value), us.length = ps.length → bindArgs (PySem.W.fnOf x qual params body scope .none kV doc pm an cdv ct) ⟨us, []⟩ = pure (ps.zip us)) : Cal K mg P w base x k ps g :=
  ⟨_, fd, Gf, glo_ok kin G hb, F.kp, FunD.bindsN F bi⟩
end
end PP
set_option Elab.async false
set_option linter.all false
set_option maxRecDepth 100000
set_option maxHeartbeats 2000000
/-! PP19: reasoning about evaluators: values that hang on a part of the store alone; loops. -/
namespace PP
open PySem PySem.Spec PyProof.Rows L2
variable [Tbl]

/-- S goes on from st -/
def Ext (st S : Store) : Prop := ∃ ex, S = st ++ ex
theorem Ext.refl (st : Store) : Ext st st := ⟨[], by simp⟩
theorem Ext.app {st S : Store} (h : Ext st S) (ex : Store) : Ext st (S ++ ex) := by obtain ⟨e, rfl⟩ := h; exact ⟨e ++ ex, by simp⟩
theorem Ext.trans {a b c : Store} (h : Ext a b) (k : Ext b c) : Ext a c := by obtain ⟨e, rfl⟩ := h; obtain ⟨f, rfl⟩ := k; exact ⟨e ++ f, by simp⟩
theorem Ext.get {st S : Store} (h : Ext st S) {l : Nat} {x : Bool × Cell} (e : st[l]? = some x) : S[l]? = some x := by
  obtain ⟨ex, rfl⟩ := h
  rw [List.getElem?_append_left (List.getElem?_eq_some_iff.mp e).1]; exact e
theorem Ext.len {st S : Store} (h : Ext st S) : st.length ≤ S.length := by obtain ⟨ex, rfl⟩ := h; simp
/-- in every store that goes on from st the result is a, and things are only laid -/
def Rpu {α : Type} (r : Store → Res α) (st : Store) (a : α) : Prop := ∀ S, Ext st S → ∃ ex, r S = .ok a (S ++ ex)
abbrev Pr {α : Type} (f : Ev α) (env : EnvD) (st : Store) (a : α) : Prop := Rpu (f env) st a
/-- a def at such values -/
abbrev Pg (g : Fn) (ds : List D) (st : Store) (a : D) : Prop := Rpu (g ds) st a
/-- an operation that changes nothing -/
def Po {α : Type} (f : Store → Option (α × Store)) (st : Store) (a : α) : Prop := ∀ S, Ext st S → f S = some (a, S)
theorem Rpu.mono {α : Type} {r : Store → Res α} {st st' : Store} {a : α} (h : Rpu r st a) (e : Ext st st') : Rpu r st' a := fun S x => h S (e.trans x)
theorem Rpu.here {α : Type} {r : Store → Res α} {st : Store} {a : α} (h : Rpu r st a) : ∃ ex, r st = .ok a (st ++ ex) := h st (Ext.refl st)
theorem Rpu.bind {α β : Type} {r : Store → Res α} {k : α → Store → Res β} {st : Store} {a : α} {b : β} (h : Rpu r st a) (h2 : Rpu (k a) st b) : Rpu (fun S => (r S).bind k) st b := fun S x => by
  obtain ⟨ex, e⟩ := h S x
  obtain ⟨ex2, e2⟩ := h2 (S ++ ex) (x.app ex)
  exact ⟨ex ++ ex2, by show (r S).bind k = _; rw [e]; show k a (S ++ ex) = _; rw [e2, List.append_assoc]⟩
theorem Rpu.ok {α : Type} {st : Store} {a : α} : Rpu (fun S => .ok a S) st a := fun S _ => ⟨[], by simp⟩
theorem Po.rpu {α : Type} {f : Store → Option (α × Store)} {st : Store} {a : α} (h : Po f st a) : Rpu (fun S => .ofOpt (f S)) st a := fun S x => ⟨[], by show Res.ofOpt (f S) = _; rw [h S x, List.append_nil]; rfl⟩
section
variable {env : EnvD} {st : Store} {f g : Ev D} {x y z : D} {ds : List D}
theorem pr_var {i : Nat} (h : env[i]? = some (some x)) : Pr (evVar i) env st x := fun S _ => ⟨[], by unfold evVar; rw [h]; simp⟩
theorem pr_c : Pr (evC x) env st x := Rpu.ok
theorem pr_2 {op : Op2} (h1 : Pr f env st x) (h2 : Pr g env st y) (h : Po (op x y) st z) : Pr (ev2 op f g) env st z := Rpu.bind h1 (Rpu.bind h2 h.rpu)
theorem pr_1 {op : Op1} (h1 : Pr f env st x) (h : Po (op x) st z) : Pr (ev1 op f) env st z := Rpu.bind h1 h.rpu
theorem pr_nil : Pr evNil env st [] := Rpu.ok
theorem pr_cons {fl : Ev (List D)} (h1 : Pr f env st x) (h2 : Pr fl env st ds) : Pr (evCons f fl) env st (x :: ds) := Rpu.bind h1 (Rpu.bind h2 Rpu.ok)
theorem pr_L {op : OpL} {fl : Ev (List D)} (h1 : Pr fl env st ds) (h : Po (op ds) st z) : Pr (evL op fl) env st z := Rpu.bind h1 h.rpu
theorem pr_call {fn : Fn} {fl : Ev (List D)} (h1 : Pr fl env st ds) (h : Pg fn ds st z) : Pr (evCall fn fl) env st z := Rpu.bind h1 h
theorem pr_T {b : Bool} (h1 : Pr f env st x) (h : Po (truD x) st b) : Pr (evT f) env st b := Rpu.bind h1 h.rpu
theorem pr_TB {b : Bool} (h1 : Pr f env st (.bl b)) : Pr (evTB f) env st b := Rpu.bind h1 (fun S _ => ⟨[], by simp [asB, Res.ofOpt]⟩)
theorem pr_if {α : Type} {c : Ev Bool} {k l : Ev α} {a : α} {b : Bool} (h1 : Pr c env st b) (h : Pr (if b = true then k else l) env st a) : Pr (evIf c k l) env st a := Rpu.bind h1 (by cases b <;> exact h)
theorem pr_tnot {c : Ev Bool} {b : Bool} (h1 : Pr c env st b) : Pr (tnot c) env st (!b) := Rpu.bind h1 Rpu.ok
theorem pr_tand {c e : Ev Bool} {b b' : Bool} (h1 : Pr c env st b) (h : b = true → Pr e env st b') : Pr (tand c e) env st (b && b') := Rpu.bind h1 (by
  cases b with
  | true => exact h rfl
  | false => exact Rpu.ok)
theorem pr_tor {c e : Ev Bool} {b b' : Bool} (h1 : Pr c env st b) (h : b = false → Pr e env st b') : Pr (tor c e) env st (b || b') := Rpu.bind h1 (by
  cases b with
  | false => exact h rfl
  | true => exact Rpu.ok)
theorem pr_and {b : Bool} (h1 : Pr f env st x) (ht : Po (truD x) st b) (h : b = true → Pr g env st y) (hz : z = if b = true then y else x) : Pr (evAnd f g) env st z := Rpu.bind h1 (fun S e => by
  rw [ht S e]
  cases b with
  | true =>
    obtain ⟨ex, q⟩ := h rfl S e
    exact ⟨ex, by rw [hz]; exact q⟩
  | false => exact ⟨[], by rw [hz]; simp⟩)
theorem pr_not {b : Bool} (h1 : Pr f env st x) (ht : Po (truD x) st b) : Pr (evNot f) env st (.bl (!b)) := Rpu.bind h1 (fun S e => ⟨[], by rw [ht S e]; simp [Res.ofOpt]⟩)
theorem pr_subsc (h1 : Pr f env st x) (h2 : Pr g env st y) (h : Po (subscD x y) st z) : Pr (ev2 subscD f g) env st z := pr_2 h1 h2 h
theorem pr_part0 : Pr (evPart none) env st none := Rpu.ok
theorem pr_part1 {i : Int} (h : Pr f env st (.int i)) : Pr (evPart (some f)) env st (some i) := Rpu.bind h Rpu.ok
theorem pr_sl {op : OpSl} {lo hi : Option (Ev D)} {l h : Option Int} (h1 : Pr f env st x) (h2 : Pr (evPart lo) env st l) (h3 : Pr (evPart hi) env st h) (hz : Po (op x l h) st z) : Pr (evSl op f lo hi) env st z := Rpu.bind h1 (Rpu.bind h2 (Rpu.bind h3 hz.rpu))
theorem po_of {α : Type} {k : Store → Option (α × Store)} {st : Store} {a : α} (h : ∀ S, k S = some (a, S)) : Po k st a := fun S _ => h S
end
/-! ### comprehensions over items that stand still -/
theorem pushAt_mid (st ex : Store) (acc : List D) (y : D) (h : acc.length < sizeLine) : pushAt st.length y (st ++ (false, .lst acc) :: ex) = some (st ++ (false, .lst (acc ++ [y])) :: ex) := by
  unfold pushAt
  rw [List.getElem?_append_right (Nat.le_refl _), Nat.sub_self]
  simp only [List.getElem?_cons_zero]
  rw [if_pos h, List.set_append_right _ _ (Nat.le_refl _), Nat.sub_self]
  rfl
theorem lc_items {g : Src} {tg : Tgt} {env : EnvD} {tt : Ev Bool} {te : Ev D} {st : Store} (ds : List D) (p : D → Bool) (k : D → D) (hz : ds.length < sizeLine) (hg : ∀ S i, Ext st S → g i S = some ds[i]?)
    (hb : ∀ d ∈ ds, ∃ env1, tg d env = some env1 ∧ Pr tt env1 st (p d) ∧ (p d = true → Pr te env1 st (k d))) :
    ∀ (n i : Nat) (acc : List D) (ex : Store), i + n = ds.length → acc.length ≤ i → ∀ m, n < m → ∃ ex', lcLoop g tg env tt te st.length m i (st ++ (false, .lst acc) :: ex) = .ok (.ref st.length) (st ++ (false, .lst (acc ++ ((ds.drop i).filter p).map k)) :: ex')
  | 0, i, acc, ex, hi, ha, m, hm => by
    obtain ⟨m, rfl⟩ : ∃ j, m = j + 1 := ⟨m - 1, by omega⟩
    unfold lcLoop
    rw [hg _ i ⟨_, rfl⟩, List.getElem?_eq_none (by omega), List.drop_of_length_le (by omega)]
    exact ⟨ex, by simp⟩
  | n + 1, i, acc, ex, hi, ha, m, hm => by
    obtain ⟨m, rfl⟩ : ∃ j, m = j + 1 := ⟨m - 1, by omega⟩
    have hl : i < ds.length := by omega
    obtain ⟨env1, e1, e2, e3⟩ := hb ds[i] (List.getElem_mem hl)
    have drp : ds.drop i = ds[i] :: ds.drop (i + 1) := List.drop_eq_getElem_cons hl
    unfold lcLoop
    rw [hg _ i ⟨_, rfl⟩, List.getElem?_eq_getElem hl]
    simp only [e1]
    obtain ⟨x1, q1⟩ := e2 _ ⟨(false, .lst acc) :: ex, rfl⟩
    rw [q1]
    simp only
    by_cases hp : p ds[i] = true
    · rw [if_pos hp]
      have ex2 : Ext st (st ++ (false, Cell.lst acc) :: ex ++ x1) := ⟨(false, .lst acc) :: ex ++ x1, by simp⟩
      obtain ⟨x2, q2⟩ := e3 hp _ ex2
      rw [q2]
      simp only
      have r : st ++ (false, Cell.lst acc) :: ex ++ x1 ++ x2 = st ++ (false, Cell.lst acc) :: (ex ++ x1 ++ x2) := by simp
      rw [r, pushAt_mid _ _ _ _ (by omega)]
      simp only
      obtain ⟨ex', q⟩ := lc_items ds p k hz hg hb n (i + 1) (acc ++ [k ds[i]]) (ex ++ x1 ++ x2) (by omega) (by simp; omega) m (by omega)
      refine ⟨ex', q.trans ?_⟩
      rw [drp, List.filter_cons, if_pos hp, List.map_cons, List.append_assoc]
      rfl
    · rw [if_neg hp]
      have r : st ++ (false, Cell.lst acc) :: ex ++ x1 = st ++ (false, Cell.lst acc) :: (ex ++ x1) := by simp
      rw [r]
      obtain ⟨ex', q⟩ := lc_items ds p k hz hg hb n (i + 1) acc (ex ++ x1) (by omega) (by omega) m (by omega)
      refine ⟨ex', q.trans ?_⟩
      rw [drp, List.filter_cons, if_neg hp]
/-- a comprehension: the new list, and things laid behind it -/
theorem lc_run {src : Ev Src} {tg : Tgt} {vs : List Nat} {tt : Ev Bool} {te : Ev D} {env : EnvD} {st st1 : Store} {g : Src} (ds : List D) (p : D → Bool) (k : D → D) (hz : ds.length < sizeLine) (hs : src env st = .ok g st1) (hg : ∀ S i, Ext st1 S → g i S = some ds[i]?)
    (hb : ∀ d ∈ ds, ∃ env1, tg d (wipeD env vs) = some env1 ∧ Pr tt env1 st1 (p d) ∧ (p d = true → Pr te env1 st1 (k d))) : ∃ ex, evLc src tg vs tt te env st = .ok (.ref st1.length) (st1 ++ (false, .lst ((ds.filter p).map k)) :: ex) := by
  unfold evLc
  rw [hs]
  obtain ⟨ex, q⟩ := lc_items (st := st1) ds p k hz hg hb ds.length 0 [] [] (by omega) (by simp) fuelF (by
    have : sizeLine ≤ 16777216 := by decide
    unfold fuelF; omega)
  exact ⟨ex, by simp only [Res.bind]; simpa using q⟩
/-- such a list handed on at once -/
theorem pr_lcL {op : OpL} {src : Ev Src} {tg : Tgt} {vs : List Nat} {tt : Ev Bool} {te : Ev D} {env : EnvD} {st : Store} (ds : List D) (p : D → Bool) (k : D → D) {z : D} (hz : ds.length < sizeLine)
    (hs : ∀ S, Ext st S → ∃ g ex, src env S = .ok g (S ++ ex) ∧ ∀ S' i, Ext (S ++ ex) S' → g i S' = some ds[i]?)
    (hb : ∀ d ∈ ds, ∃ env1, tg d (wipeD env vs) = some env1 ∧ Pr tt env1 st (p d) ∧ (p d = true → Pr te env1 st (k d)))
    (ho : ∀ S l, Ext st S → S[l]? = some (false, .lst ((ds.filter p).map k)) → op [.ref l] S = some (z, S)) : Pr (evL op (evCons (evLc src tg vs tt te) evNil)) env st z := fun S x => by
  obtain ⟨g, e1, q1, q2⟩ := hs S x
  have x1 : Ext st (S ++ e1) := x.app e1
  obtain ⟨ex, q⟩ := lc_run ds p k hz q1 q2 (fun d hd => by
    obtain ⟨env1, a, b, c⟩ := hb d hd
    exact ⟨env1, a, b.mono x1, fun h => (c h).mono x1⟩)
  refine ⟨e1 ++ (false, .lst ((ds.filter p).map k)) :: ex, ?_⟩
  have hl : (S ++ e1 ++ (false, Cell.lst ((ds.filter p).map k)) :: ex)[(S ++ e1).length]? = some (false, .lst ((ds.filter p).map k)) := by
    rw [List.getElem?_append_right (Nat.le_refl _), Nat.sub_self]; rfl
  unfold evL evCons
  rw [q]
  show Res.ofOpt (op [.ref (S ++ e1).length] (S ++ e1 ++ (false, Cell.lst ((ds.filter p).map k)) :: ex)) = _
  rw [ho _ _ (x1.trans ⟨_, rfl⟩) hl, ← List.append_assoc]
  rfl
theorem src_tup {f : Ev D} {env : EnvD} {st : Store} {b : Bool} {ds : List D} (h : Pr f env st (.tup b ds)) (S : Store) (x : Ext st S) : ∃ g ex, evSrc f env S = .ok g (S ++ ex) ∧ ∀ S' i, Ext (S ++ ex) S' → g i S' = some ds[i]? := by
  obtain ⟨ex, e⟩ := h S x
  exact ⟨srcS ds, ex, by unfold evSrc; rw [e]; rfl, fun _ _ _ => rfl⟩
theorem src_lst {f : Ev D} {env : EnvD} {st : Store} {l : Nat} {lk : Bool} {ds : List D} (h : Pr f env st (.ref l)) (e0 : st[l]? = some (lk, .lst ds)) (S : Store) (x : Ext st S) : ∃ g ex, evSrc f env S = .ok g (S ++ ex) ∧ ∀ S' i, Ext (S ++ ex) S' → g i S' = some ds[i]? := by
  obtain ⟨ex, e⟩ := h S x
  have h1 : (S ++ ex)[l]? = some (lk, .lst ds) := (x.app ex).get e0
  refine ⟨srcL l, ex, ?_, fun S' i x' => ?_⟩
  · unfold evSrc
    rw [e]
    show Res.ofOpt ((srcD (S ++ ex) (.ref l)).map fun g => (g, S ++ ex)) = _
    unfold srcD
    simp only [h1]
    rfl
  · unfold srcL
    rw [x'.get h1]
theorem src_zip {f g : Ev D} {env : EnvD} {st : Store} {b c : Bool} {ds es : List D} (h : Pr f env st (.tup b ds)) (h2 : Pr g env st (.tup c es)) (S : Store) (x : Ext st S) :
    ∃ k ex, evZp (evCons f (evCons g evNil)) env S = .ok k (S ++ ex) ∧ ∀ S' i, Ext (S ++ ex) S' → k i S' = some ((List.zipWith (fun d e => D.tup false [d, e]) ds es)[i]?) := by
  obtain ⟨ex, e⟩ := (pr_cons h (pr_cons h2 pr_nil)) S x
  refine ⟨fun i _ => some (pairAt ds es i), ex, ?_, fun S' i _ => ?_⟩
  · unfold evZp
    rw [e]
    rfl
  · show some (pairAt ds es i) = _
    unfold pairAt
    rw [List.getElem?_zipWith]
    cases ds[i]? <;> cases es[i]? <;> rfl
/-! ### for, by an invariant -/
theorem for_inv {g : Src} {tg : Tgt} {body : Ss} (ds : List D) (P : Nat → EnvD → Store → Prop) (hg : ∀ i env st, P i env st → g i st = some ds[i]?)
    (hs : ∀ i d env st, ds[i]? = some d → P i env st → ∃ env1, tg d env = some env1 ∧ ∃ e s, (body env1 st = .fl (.nx e) s ∨ body env1 st = .fl (.ct e) s) ∧ P (i + 1) e s) :
    ∀ (n i : Nat) (env : EnvD) (st : Store), i + n = ds.length → P i env st → ∀ m, n < m → ∃ e s, forE g tg body m i env st = .fl (.nx e) s ∧ P ds.length e s
  | 0, i, env, st, hi, h, m, hm => by
    obtain ⟨m, rfl⟩ : ∃ j, m = j + 1 := ⟨m - 1, by omega⟩
    unfold forE
    rw [hg i env st h, List.getElem?_eq_none (by omega)]
    have : i = ds.length := by omega
    subst this
    exact ⟨env, st, rfl, h⟩
  | n + 1, i, env, st, hi, h, m, hm => by
    obtain ⟨m, rfl⟩ : ∃ j, m = j + 1 := ⟨m - 1, by omega⟩
    have hl : i < ds.length := by omega
    obtain ⟨env1, e1, e, s, hb, hp⟩ := hs i ds[i] env st (List.getElem?_eq_getElem hl) h
    obtain ⟨e', s', q, hq⟩ := for_inv ds P hg hs n (i + 1) e s (by omega) hp m (by omega)
    refine ⟨e', s', ?_, hq⟩
    unfold forE
    rw [hg i env st h, List.getElem?_eq_getElem hl]
    simp only [e1]
    rcases hb with hb | hb <;> rw [hb] <;> exact q
theorem sFor_inv {src : Ev Src} {tg : Tgt} {body : Ss} {env : EnvD} {st st1 : Store} {g : Src} (ds : List D) (P : Nat → EnvD → Store → Prop) (hz : ds.length < sizeLine) (h1 : src env st = .ok g st1) (h0 : P 0 env st1) (hg : ∀ i env st, P i env st → g i st = some ds[i]?)
    (hs : ∀ i d env st, ds[i]? = some d → P i env st → ∃ env1, tg d env = some env1 ∧ ∃ e s, (body env1 st = .fl (.nx e) s ∨ body env1 st = .fl (.ct e) s) ∧ P (i + 1) e s) : ∃ e s, sFor src tg body env st = .fl (.nx e) s ∧ P ds.length e s := by
  unfold sFor ofE
  rw [h1]
  exact for_inv ds P hg hs ds.length 0 env st1 (by omega) h0 fuelF (by
    have : sizeLine ≤ 16777216 := by decide
    unfold fuelF; omega)
end PP
set_option Elab.async false
set_option linter.all false
set_option maxRecDepth 100000
set_option maxHeartbeats 2000000
/-! PP20: several except clauses of one name. -/
namespace PP
open PySem PySem.Spec PyProof.Rows L2
/-- the end of a clause's suite, the name gone -/
abbrev endsOff (i : Nat) (D : Ends) : Ends := { nx := fun τ G => D.nx (τ.set i none) G, rt := D.rt, bk := fun τ G => D.bk (τ.set i none) G, ct := fun τ G => D.ct (τ.set i none) G }
/-- what clauses with a name at slot i wish, one after the other -/
def wEach (K : PySem.W.Frag) (i : Nat) (Wo : WX) (D : Ends) : List (Value × (Addr → Value → Option Addr → TS)) → WX
  | [] => Wo
  | p :: r => fun cl dd τ G => ∃ b, PySem.W.exmOne K cl p.1 = some b ∧ (b = true → ∀ a, G a = none → p.2 a cl dd (endsOff i D) (τ.set i (some (.ref a))) G) ∧ (b = false → wEach K i Wo D r cl dd τ G)
inductive EachOk (X : Cx) (n : Str) : List ExceptHandler → List (Value × (Addr → Value → Option Addr → TS)) → Prop
  | nil : EachOk X n [] []
  | cons {cn : Str} {cv : Value} {ts : Addr → Value → Option Addr → TS} {st1 : Stmt} {sts : List Stmt} {q1 q2 : Pos} {hds : List ExceptHandler} {l : List (Value × (Addr → Value → Option Addr → TS))} (nm : Names X cn cv)
      (su : ∀ (a : Addr) (oe : Obj) (cl : Value) (dd : Option Addr) (pn : List (Addr × Obj)), Zc cl dd oe → (∃ vs, oe.data = .fields vs) → PSs (X.suite a ((a, oe) :: pn)) (st1 :: sts) (ts a cl dd)) (r : EachOk X n hds l) :
      EachOk X n (.ExceptHandler (some (.Name cn q1)) (some n) (st1 :: sts) q2 :: hds) ((cv, ts) :: l)
section
variable {X : Cx} {bd : List Stmt} {h1 : ExceptHandler} {hds : List ExceptHandler} {l : List (Value × (Addr → Value → Option Addr → TS))} {pt : Pos} {tb : WX → TS} {Wo : WX} {i : Nat} {n : Str}
theorem ps_each (hS : X.stack = X.env :: X.outer) (hF : X.env.frame = some X.env.locals) (hND : X.N.Nodup) (hI : X.N[i]? = some n) (hL : X.env.kindOf n = some .local) (tk : Takes X Wo)
    (hB : ∀ (W : WX) (pn : List (Addr × Obj)) (xe : Value → Shared → Prop), Takes (X.tr pn xe) W → PassesOwn (model X.prog X.w) X.A X.env xe → PSs (X.tr pn xe) bd (tb W))
    (hC : EachOk X n (h1 :: hds) l) : PS X (.Try bd (h1 :: hds) [] [] pt) (fun D σ H => tb (wEach X.K i Wo D l) D σ H) := by
  constructor
  intro pins s σ H D I start
  have okX := I.ok
  have frX : X.A.frames = some (X.env :: X.outer) := by rw [okX.frames, hS]
  have locN : Loc X.env.scope n := .inl hL
  refine wpAny_Try_except ?_
  let after : Value → Shared → Prop := fun e t1 => wpAny (model X.prog X.w) X.A (noteFrame e X.env) (fun _ t2 => wpAny (model X.prog X.w) X.A (setFlight e none) (fun _ t3 => wpAny (model X.prog X.w) X.A (handleBy e X.env (h1 :: hds)) (SP X pins D) X.xe t3) X.xe t2) X.xe t1
  have body := (hB (wEach X.K i Wo D l) (X.pn ++ pins) after (fun u s' caught => ?_) PassesOwn.looking).run [] s σ H D (I.toTry _) start
  · refine wpAny_mono body (fun f t1 q => ?_) (fun e t1 q => q)
    cases f with
    | next => obtain ⟨τ, G, J, z⟩ := q; exact wpAny_execs_nil ⟨τ, G, J.ofTry okX, z⟩
    | brk => obtain ⟨τ, G, J, z⟩ := q; exact ⟨τ, G, J.ofTry okX, z⟩
    | cont => obtain ⟨τ, G, J, z⟩ := q; exact ⟨τ, G, J.ofTry okX, z⟩
    | ret u => obtain ⟨v, τ, G, J, r, z⟩ := q; exact ⟨v, τ, G, J.ofTry okX, r, z⟩
  · -- an exception came out of the body
    obtain ⟨a, B, sI, pins', τ, G, cl, dd, rfl, J', nb, up, sky, na, os, ag, w⟩ := caught
    have J : Inv X pins τ G sI := J'.ofTry okX
    have skyX : Sky B (X.env :: X.outer) a (Zc cl dd) X.env.locals s'.heap := by rw [← hS]; exact sky
    show wpAny (model X.prog X.w) X.A (noteFrame (.ref a) X.env) _ _ _
    refine Sky.land Zc.steady frX hF skyX fun g3 fl3 up3 => ?_
    have J3 : Inv X pins τ G { s' with heap := g3 } := J.landed nb fl3.1 (up.trans up3) os ag
    obtain ⟨o3, _, at3, z3, d3⟩ := fl3.there
    have noFrame : ∀ {hh : Heap} {o : Obj} {vs : Array Value}, hh.FunFrames B (X.env :: X.outer) → hh.get? a = some o → o.data = .fields vs → a ∉ frs (X.env :: X.outer) := fun {hh o vs} ff e d m => by
      obtain ⟨_, o2, e2, nope⟩ := ff.mem m
      rw [e] at e2
      cases e2
      exact nope _ d
    have aFr := noFrame fl3.2.2.1 at3 d3
    have aL : a ≠ X.env.locals := fun z => aFr (List.mem_filterMap.mpr ⟨X.env, List.mem_cons_self, by rw [hF, z]⟩)
    have aF : a ∉ X.fs := fun m => by
      obtain ⟨e, he, q⟩ := List.mem_filterMap.mp m
      exact aFr (List.mem_filterMap.mpr ⟨e, List.mem_cons_of_mem _ he, q⟩)
    have S3 := J3.suite at3 d3 na aL aF
    have walk : ∀ {hs2 : List ExceptHandler} {l2 : List (Value × (Addr → Value → Option Addr → TS))}, EachOk X n hs2 l2 → wEach X.K i Wo D l2 cl dd τ G →
        wpAny (model X.prog X.w) X.A (handleBy (.ref a) X.env hs2) (SP X pins D) X.xe { s' with heap := g3 } := by
      intro hs2 l2 ok2
      induction ok2 with
      | nil =>
        intro wo
        have wo : Wo cl dd τ G := wo
        refine wpAny_handleBy_nil ?_
        obtain ⟨_, _, _, oe, vs, Tb, oT, tt, e1, e2, e3, e4, e5⟩ := id fl3
        unfold PySem.passOn
        refine wpAny_bind (wpAny_field e1 e3 e4 ?_)
        rw [if_neg (show ¬ ((Value.ref Tb == Value.none) = true) by simp)]
        have gone : wpAny (model X.prog X.w) X.A (setFlight (.ref a) X.env.frame) (fun _ t4 => wpAny (model X.prog X.w) X.A (throw (.ref a) : Sem Flow) (SP X pins D) X.xe t4) X.xe { s' with heap := g3 } := by
          rw [hF]
          exact HandSPX.setFlight_upZ fl3 fun g4 k4 up4 => wpAny_throw (tk _ _ ⟨a, B, sI, pins, τ, G, cl, dd, rfl, J, nb, (up.trans up3).trans up4, .inr (.inr (by rw [hS]; exact k4)), na, os, ag, wo⟩)
        first
          | exact wpAny_bind (wpAny_pure (wpAny_bind gone))
          | exact wpAny_bind gone
      | @cons cn cv ts st1 sts q1 q2 hds3 l3 nm su r ih =>
        intro wo
        obtain ⟨b, eb, yes, no⟩ := wo
        refine wpAny_handleBy_cons (codeAny_handlers_test ?_) (by intro q; cases q)
        have typ : PySem.W.Looks (model X.prog X.w) g3 (typeOf (.ref a)) cl := fun A Q E t k q => wpAny_typeOf_ref (k _ _ at3) (by rw [z3.1]; exact q)
        have dec := PySem.W.exm_one (M := model X.prog X.w) (J3.kIn) typ eb
        have name : ∀ {Q E : Value → Shared → Prop}, Q cv { s' with heap := g3 } → wpAny (model X.prog X.w) (X.A.mark (some (.ref a))) (eval (.Name cn q1) X.env) Q E { s' with heap := g3 } := fun {Q E} q => by
          obtain ⟨c1, c2, c3 | ⟨c3, c4, c5⟩⟩ := nm
          · exact ld_glob (X := X.suite a ((a, o3) :: (X.pn ++ pins))) S3 c1 c3 q c2
          · exact ld_blt (X := X.suite a ((a, o3) :: (X.pn ++ pins))) S3 c1 c3 c4 q c5 c2
        refine name (dec.here ?_)
        cases b with
        | false =>
          show wpAny _ X.A (handleBy (.ref a) X.env hds3) _ _ _
          exact ih (no rfl)
        | true =>
          refine codeAny_handlers_suite_as ?_
          refine HandSPX.lands_againZ fl3 fun g4 fl4 up4 => ?_
          have J4 : Inv X pins τ G { s' with heap := g4 } := J.landed nb fl4.1 ((up.trans up3).trans up4) os ag
          obtain ⟨o4, _, at4, z4, d4⟩ := fl4.there
          have S4 := J4.suite at4 d4 na aL aF
          refine store_ok (X := X.suite a ((a, o4) :: (X.pn ++ pins))) (v := .ref a) S4 hND hI locN rfl (fun t5 S5 => ?_) (.inr hL)
          have ran := (su a o4 cl dd (X.pn ++ pins) z4 ⟨_, d4⟩).run [] t5 _ G _ S5 (yes rfl a na)
          refine wpAny_mono ran (fun f t6 q => ?_) (fun _ _ z => False.elim z)
          have off : ∀ {τ6 : L2.St} {G6 : Hp} {Q : Shared → Prop}, Inv (X.suite a ((a, o4) :: (X.pn ++ pins))) [] τ6 G6 t6 → (∀ t7, Inv X pins (τ6.set i none) G6 t7 → Q t7) →
              wpAny (model X.prog X.w) X.A (do bindName X.env n .none; unbindBehindTheSuite X.env n q2) (fun _ t7 => Q t7) X.xe t6 := fun {τ6 G6 Q} S6 k => gone_ok (S6.unsuite okX) hND hI hL k
          cases f with
          | next => obtain ⟨τ6, G6, S6, y⟩ := q; exact off S6 fun t7 J7 => ⟨_, _, J7, y⟩
          | brk => obtain ⟨τ6, G6, S6, y⟩ := q; exact off S6 fun t7 J7 => ⟨_, _, J7, y⟩
          | cont => obtain ⟨τ6, G6, S6, y⟩ := q; exact off S6 fun t7 J7 => ⟨_, _, J7, y⟩
          | ret u => obtain ⟨v6, τ6, G6, S6, r6, y⟩ := q; exact off S6 fun t7 J7 => ⟨_, _, _, J7, r6, y⟩
    exact walk hC w
end
variable [Tbl]
/-- the clause that takes an exception: none: not known; some none: no clause does -/
def pickH (T : ExT) (c : Str) : List (Str × (List (Str × D) → Ev D)) → Option (Option (List (Str × D) → Ev D))
  | [] => some none
  | p :: r => match T c p.1 with
    | some true => some (some p.2)
    | some false => pickH T c r
    | none => none
/-- try: body / except cn as ..: return e / except .. -/
def sTryN (T : ExT) (i : Nat) (body : Ss) (hs : List (Str × (List (Str × D) → Ev D))) : Ss := fun env st => match body env st with
  | .er c fs env' s => match pickH T c hs with
    | some (some h) => if i < env'.length then (match h fs (env'.set i none) s with
      | .ok d s2 => .fl (.rt d) s2
      | _ => .stuck) else .stuck
    | some none => .er c fs env' s
    | none => .stuck
  | r => r
/-- clauses, each with one return -/
inductive ClsOk (X : Cx) (i : Nat) (n : Str) (T : ExT) : List ExceptHandler → List (Str × (List (Str × D) → Ev D)) → List (Value × (Addr → Value → Option Addr → TS)) → Prop
  | nil : ClsOk X i n T [] [] []
  | cons {cn : Str} {c : Value} {h : List (Str × D) → Ev D} {ex : Expr} {np pos' rp : Pos} {hds : List ExceptHandler} {l : List (Str × (List (Str × D) → Ev D))} {l2 : List (Value × (Addr → Value → Option Addr → TS))} (hg : Gl X cn) (hdb : (cn == ("__debug__" : Str)) = false) (hcn : X.mg cn = some c)
      (hh : ∀ (a : Addr) (oe : Obj) (cls : Value) (d : Option Addr) (pn : List (Addr × Obj)), (∃ cc, T cc cn = some true ∧ X.mg cc = some cls) → Zc cls d oe → (∃ vs, oe.data = .fields vs) → PE (X.suite a ((a, oe) :: pn)) ex (rdH X.K X.mg i a cls d h)) (r : ClsOk X i n T hds l l2) :
      ClsOk X i n T (.ExceptHandler (some (.Name cn np)) (some n) [.Return (some ex) rp] pos' :: hds) ((cn, h) :: l) ((c, fun a cls d D σ H => (∃ cc, T cc cn = some true ∧ X.mg cc = some cls) ∧ rdH X.K X.mg i a cls d h σ H D.rt) :: l2)
section
variable {X : Cx} {i : Nat} {n : Str} {T : ExT}
theorem ClsOk.each {hds : List ExceptHandler} {l : List (Str × (List (Str × D) → Ev D))} {l2 : List (Value × (Addr → Value → Option Addr → TS))} (h : ClsOk X i n T hds l l2) : EachOk X n hds l2 := by
  induction h with
  | nil => exact .nil
  | @cons cn c h ex np pos' rp hds l l2 hg hdb hcn hh r ih =>
    refine .cons ⟨hg, hdb, .inl hcn⟩ (fun a oe cls d pn hz hf => ⟨fun pins s σ H D I q => ?_⟩) ih
    exact (pss_one (ps_ret (hh a oe cls d pn q.1 hz hf))).run pins s σ H D I q.2
theorem ClsOk.wish {W : WX} {Dn : Ends} {hds : List ExceptHandler} {l : List (Str × (List (Str × D) → Ev D))} {l2 : List (Value × (Addr → Value → Option Addr → TS))} (h : ClsOk X i n T hds l l2) (hT : TabOk X.K X.mg T) {m : List Addr} {H : Hp} {cc : Str} {fs : List (Str × PP.D)} {env' : EnvD} {s : Store} {σ' : L2.St} {m' : List Addr} {H' : Hp} {cls : Value} {dd : Option Addr}
    (pm : Pre m m') (p : Pers H H') (s1 : StOk X.K X.mg m' H' s) (ho1 : EnvOk X.K X.mg m' H' env' σ') (x1 : ExOk X.K X.mg m' H' cc fs cls dd)
    (q : FinS X.K X.mg W Dn m H (match pickH T cc l with
    | some (some h) => if i < env'.length then (match h fs (env'.set i none) s with
      | .ok d s2 => .fl (.rt d) s2
      | _ => .stuck) else .stuck
    | some none => .er cc fs env' s
    | none => .stuck)) : wEach X.K i W Dn l2 cls dd σ' H' := by
  induction h with
  | nil => exact q m' H' σ' cls dd pm p s1 ho1 x1
  | @cons cn c h ex np pos' rp hds l l2 hg hdb hcn hh r ih =>
    obtain ⟨ca, ec, emg, rest⟩ := id x1
    unfold pickH at q
    cases eT : T cc cn with
    | none => simp only [eT] at q; exact q.elim
    | some bb =>
      refine ⟨bb, ec ▸ hT cc cn bb ca eT emg c hcn, fun hbt a ha => ?_, fun hbf => ?_⟩
      · subst hbt
        simp only [eT] at q
        split at q
        · rename_i hl
          refine ⟨⟨cc, eT, by rw [ec]; exact emg⟩, cc, fs, m', env'.set i none, s, ?_, x1, ho1.forget i, s1, ?_⟩
          · rw [List.getElem?_set_self (by rw [← ho1.len]; exact hl)]
          · cases eh : h fs (env'.set i none) s with
            | ok d s2 =>
              rw [eh] at q
              exact fun m2 H2 v a1 a2 a3 r => q m2 H2 (pm.trans a1) (p.trans a2) a3 v r
            | err _ _ _ => rw [eh] at q; exact q.elim
            | stuck => rw [eh] at q; exact q.elim
        · exact q.elim
      · subst hbf
        simp only [eT] at q
        exact ih q
theorem ps_sTryN {W : WX} {body : List Stmt} {b : Ss} {pos : Pos} {h1 : ExceptHandler} {hds : List ExceptHandler} {l : List (Str × (List (Str × D) → Ev D))} {l2 : List (Value × (Addr → Value → Option Addr → TS))} (hT : TabOk X.K X.mg T) (hs : X.stack = X.env :: X.outer) (hfr : X.env.frame = some X.env.locals) (hN : X.N.Nodup) (hi : X.N[i]? = some n) (hln : X.env.kindOf n = some .local) (tk : Takes X W)
    (hb : ∀ (W : WX) (pn : List (Addr × Obj)) (xe : Value → Shared → Prop), Takes (X.tr pn xe) W → PassesOwn (model X.prog X.w) X.A X.env xe → PSs (X.tr pn xe) body (rdS X.K X.mg W b))
    (hh : ClsOk X i n T (h1 :: hds) l l2) : PS X (.Try body (h1 :: hds) [] [] pos) (rdS X.K X.mg W (sTryN T i b l)) := by
  refine PS.weak (ps_each hs hfr hN hi hln tk hb hh.each) fun D σ H q => ?_
  obtain ⟨m, env, st, ho, so, q⟩ := q
  refine ⟨m, env, st, ho, so, ?_⟩
  unfold sTryN at q
  cases e : b env st with
  | stuck => rw [e] at q; exact q
  | fl f s => rw [e] at q; exact q
  | er cc fs env' s =>
    rw [e] at q
    intro m' H' σ' cls dd pm p s1 ho1 x1
    exact hh.wish hT pm p s1 ho1 x1 q
end
end PP
set_option Elab.async false
set_option linter.all false
set_option maxRecDepth 100000
set_option maxHeartbeats 2000000
/-! PP21: a lambda without parameters handed to a def that tries it. -/
namespace PP
open PySem PySem.Spec PyProof.Rows L2
variable [Tbl]
/-- def x(call): try: call() / except ..: return .. / return None, called with a lambda of this body -/
def evRef (T : ExT) (hs : List (Str × (List (Str × D) → Ev D))) (fb : Ev D) : Ev D := fun env st => match fb env st with
  | .ok _ s => .ok .non s
  | .err c fs s => match pickH T c hs with
    | some (some h) => (match h fs [] s with
      | .ok d s2 => .ok d s2
      | _ => .stuck)
    | _ => .stuck
  | .stuck => .stuck
section
variable {X : Cx} {pins : List (Addr × Obj)} {σ : L2.St} {H : Hp} {s : Shared}
/-- what the call in the def's body says: the lambda's body runs at the maker's names -/
def rdAct (K : PySem.W.Frag) (mg : Str → Option Value) (q : Str) (f c' : Addr) (σ : L2.St) (W : WX) (fb : Ev D) : TE := fun τ G Q => τ[0]? = some (some (.ref f)) ∧ G c' = some (LamX.CodeO c' q) ∧ rdE K mg (fun cl dd _ G2 => W cl dd τ G2) fb σ G Q
theorem pe_act2 {Ng : List Str} {qg : Str} {sg : Scope} {g f c' : Addr} {cdg pm ctv : Value} {params : Arguments} {body : Expr} {scope : Scope} {k : Nat} {a : Str} {pn : List (Addr × Obj)} {xe : Value → Shared → Prop} {W : WX} {Eg : XK} {fb : Ev D} {q1 q2 : Pos}
    (I : Inv X pins σ H s) (L : LamX.LamS X.env.scope scope) (atF : s.heap.get? f = some (PySem.W.kla_obj "<lambda>" (X.env.qual ++ "<lambda>") params body scope (cloFrom X.env.cells scope.names []) pm c' ctv)) (noF : H f = none) (frF : f ∉ frs X.stack)
    (bnd : bindArgs (PySem.W.kla_fn "<lambda>" (X.env.qual ++ "<lambda>") params body scope (cloFrom X.env.cells scope.names []) pm (.ref c') ctv) ⟨[], []⟩ = pure [])
    (tk : Takes ((cxOf (L2.CX X.prog X.w) X.prog X.w X.K X.mg X.base Ng qg sg g cdg X.A X.stack s H Eg).tr pn xe) W) (hr : Room (k + 1) (X.A.deeper (envOfC qg sg s.heap.objs.size g cdg))) (hgs : X.A.guards = some [])
    (bdy : ∀ (A : Around) (outer : List Env) (s : Shared) (H : Hp) (E : XK) (f c' : Addr), Room k (A.deeper (LamX.lamEnv X scope s.heap.objs.size f c')) → (A.deeper (LamX.lamEnv X scope s.heap.objs.size f c')).guards = some [] →
      PE (LamX.lamCx X A outer s H E scope f c') body (rdE X.K X.mg (fun cl dd _ G => E cl dd G) fb))
    (hN : Ng[0]? = some a) (vis : Vis sg a) (nd1 : (a == ("__debug__" : Str)) = false) (nd2 : (a == ("__classdict__" : Str)) = false) :
    PE ((cxOf (L2.CX X.prog X.w) X.prog X.w X.K X.mg X.base Ng qg sg g cdg X.A X.stack s H Eg).tr pn xe) (.Call (.Name a q1) [] [] q2) (rdAct X.K X.mg (X.env.qual ++ "<lambda>") f c' σ W fb) := by
  constructor
  intro pz sz τ G Q IZ h
  obtain ⟨h0, hco, hq⟩ := h
  have load := (pe_var (X := (cxOf (L2.CX X.prog X.w) X.prog X.w X.K X.mg X.base Ng qg sg g cdg X.A X.stack s H Eg).tr pn xe) (pos := q1) (i := 0) hN vis nd1 nd2).run pz sz τ G (fun v G1 => v = .ref f ∧ G1 = G) IZ ⟨.ref f, h0, rfl, rfl⟩
  refine wpAny_Call_Name_kw (thn load fun u t1 hu => ?_)
  obtain ⟨v, G1, I1, rel, rfl, rfl⟩ := hu
  cases (show u = Value.ref f from rel)
  have atF1 := I1.base.keep f _ atF noF frF (fun z => nomatch (show f ∈ ([] : List Addr) from z))
  refine PySem.W.callWith_F0 ⟨_, _, _, _, atF1⟩ ?_
  have un : Un (frs X.stack) [] H G1 s.heap t1.heap := I1.base
  obtain ⟨⟨oc, us, tt, g1, g2, g3⟩, _, _⟩ := I1.hok c' _ hco
  have called : codeAny (model X.prog X.w) (X.A.deeper (envOfC qg sg s.heap.objs.size g cdg)) (.call (.ref f) ⟨[], []⟩)
      (CR (L2.CX X.prog X.w) (envOfC qg sg s.heap.objs.size g cdg :: X.stack) X.prog X.w G1 t1 Q fun cl dd G2 => W cl dd τ G2) t1 := by
    refine PySem.W.kla_callFunE hr.depth atF1 rfl L.co L.gen rfl ⟨c', oc, us, tt, rfl, g1, g2, g3⟩ ?_
    rw [bnd]
    refine wpAny_pure (wpAny_newFunctionEnv (fun y hy => (L.own y hy).2) (fun y hy => absurd hy (by simp)) (fun h2 n2 sb => ⟨I1.nolimit.fresh _ sb, ?_⟩) L.kind)
    show codeAny _ _ (.expr body (LamX.lamEnv X scope t1.heap.objs.size f c')) _ _
    have kept : ∀ b o, t1.heap.get? b = some o → h2.get? b = some o := fun b o e => sb.extBut b o (Nat.ne_of_lt (Heap.lt_size e)) (Heap.get?_push_of_some _ e)
    have J := LamX.lam_start2 (A := X.A.deeper (envOfC qg sg s.heap.objs.size g cdg)) (outer := envOfC qg sg s.heap.objs.size g cdg :: X.stack) (E := fun cl dd G2 => W cl dd τ G2) (f := f) (c' := c') (tk := t1.toks + ([] : List (Str × Value)).length) I L I1.env0 hr.hd un n2 kept
    have go := (bdy (X.A.deeper (envOfC qg sg s.heap.objs.size g cdg)) (envOfC qg sg s.heap.objs.size g cdg :: X.stack) t1 G1 (fun cl dd G2 => W cl dd τ G2) f c' (hr.deeper _) hgs).run [] _ σ G1 Q J hq
    refine PySem.W.kla_codeExpr (wpAny_mono go (fun v t2 q => ?_) fun _ _ q => q)
    obtain ⟨w', G2, J2, rv, q⟩ := q
    exact ⟨w', G2, J2.os, J2.bare, J2.base, J2.hok, rv, q⟩
  refine wpAny_call (codeAny_mono called fun r t2 q => ?_)
  cases r with
  | error e => exact passAt tk τ pz G1 t1 e t2 I1 q
  | ok fl =>
    cases fl with
    | ret u => exact I1.after q
    | next => exact q.elim
    | brk => exact q.elim
    | cont => exact q.elim
/-- the def that tries what it got: its text -/
structure RefDef (K : PySem.W.Frag) (mg : Str → Option Value) (x : Str) (Ng : List Str) (a n : Str) (g : Addr) (fd : FuncData) (cdg : Value) (sg : Scope) (bg : List Stmt) : Prop where
  glo : mg x = some (.ref g)
  keep : PySem.W.keepIn K (.ref g) = true
  bind : Binds K fd [a] []
  scope : FnScope Ng [a] sg
  nth : Ng[0]? = some a
  nme : Ng[1]? = some n
  vis : Vis sg a
  loc : sg.names.lookup n = some .local
  look : ∃ (pg : Arguments) (dV kV doc pm ct oc : Value) (an od : Option Addr) (osl : Array (Option Value)), fd = PySem.W.fnOf x x pg bg sg dV kV doc pm an cdg ct ∧ K.lookup g = some ⟨oc, od, .func (PySem.W.fnOf x x pg bg sg dV kV doc pm an cdg ct), osl⟩
  code : PySem.W.codeIn K cdg x = true
theorem pickH_mem {T : ExT} {cc : Str} {hh : List (Str × D) → Ev D} : ∀ {hs : List (Str × (List (Str × D) → Ev D))}, pickH T cc hs = some (some hh) → ∃ q ∈ hs, q.2 = hh
  | [], ep => by cases ep
  | q :: r, ep => by
    unfold pickH at ep
    cases eT : T cc q.1 with
    | none => simp only [eT] at ep; cases ep
    | some b =>
      cases b with
      | true => simp only [eT] at ep; cases ep; exact ⟨q, List.mem_cons_self, rfl⟩
      | false =>
        simp only [eT] at ep
        obtain ⟨q2, m2, e2⟩ := pickH_mem ep
        exact ⟨q2, List.mem_cons_of_mem _ m2, e2⟩
theorem ext_pers {T : List (Addr × Str)} {H H1 : Hp} (e : LamX.ExtN H H1) (t : LamX.Tabs Tbl.T H1) : Pers H H1 := ⟨fun a o w h => e a o h (fun ps z => by subst z; exact w), fun _ => t⟩
theorem cell_pers {m : List Addr} {H H1 : Hp} {st : Store} (e : LamX.ExtN H H1) (t : LamX.Tabs Tbl.T H1) (so : StOk X.K X.mg m H st) : StOk X.K X.mg m H1 st := by
  have nt : ∀ (l : Nat) (lk : Bool) (c : Cell) (a : Addr), st[l]? = some (lk, c) → m[l]? = some a → H1 a = H a := fun l lk c a e1 e2 => by
    have hc := so.at_ l lk c a e1 e2
    have aux : ∀ o : HO, CellAt H a lk o → (∀ ps, o ≠ .tbl ps) → H1 a = H a := fun o q ne => by
      cases lk with
      | true =>
        obtain ⟨ob, q⟩ := q
        rw [q, e a _ q (fun ps z => by cases z)]
      | false =>
        have q : H a = some o := q
        rw [q, e a _ q ne]
    cases c with
    | lst ds => obtain ⟨xs, _, q⟩ := hc; exact aux _ q (fun ps z => by cases z)
    | dct kvs =>
      rcases hc with ⟨kv', _, q⟩ | ⟨kv', _, q⟩
      · exact aux _ q (fun ps z => by cases z)
      · exact aux _ q (fun ps z => by cases z)
    | dcK kvs => obtain ⟨kv', _, q⟩ := hc; exact aux _ q (fun ps z => by cases z)
  refine so.heap (fun a ha => ?_) (ext_pers (T := []) e t)
  obtain ⟨l, hl⟩ := List.getElem?_of_mem ha
  obtain ⟨lk, c, e1, _⟩ := so.cell hl
  exact nt l lk c a e1 hl
end
section
variable {X : Cx} {W : WX}
/-- x(lambda: body), x a def that tries what it got -/
theorem pe_refcall {T : ExT} {hs : List (Str × (List (Str × D) → Ev D))} {x a n : Str} {g c P : Addr} {k : Nat} {fd : FuncData} {cdg : Value} {sg : Scope} {Ng : List Str} {params : Arguments} {body : Expr} {scope : Scope} {fb : Ev D} {p lpos pos p1 p2 p3 p4 p5 p6 : Pos} {h1 : ExceptHandler} {hds : List ExceptHandler} {kk : Nat}
    (hT : TabOk X.K X.mg T) (hE : ∀ q ∈ hs, ∀ fs e st, q.2 fs e st = q.2 fs [] st)
    (R : RefDef X.K X.mg x Ng a n g fd cdg sg [.Try [.Expr (.Call (.Name a p1) [] [] p2) p3] (h1 :: hds) [] [] p4, .Return (some (.Constant .none kk p6)) p5]) (hlen : Ng.length = 2)
    (hcl : ∀ (A : Around) (outer : List Env) (s : Shared) (H : Hp) (E : XK), Room (k + 1) (A.deeper (envOfC x sg s.heap.objs.size g cdg)) → (A.deeper (envOfC x sg s.heap.objs.size g cdg)).guards = some [] →
      ∃ l2, ClsOk (cxOf (L2.CX X.prog X.w) X.prog X.w X.K X.mg X.base Ng x sg g cdg A outer s H E) 1 n T (h1 :: hds) hs l2)
    (hg : Gl X x) (TB : LamX.TabB X.base X.mg c P) (hcode : X.env.code = .ref c) (hmT : (P, X.env.qual ++ "<lambda>") ∈ Tbl.T) (hu : ∀ p ∈ Tbl.T, p.1 = P → p.2 = X.env.qual ++ "<lambda>") (hr : Room (k + 2) X.A) (hgs : X.A.guards = some []) (L : LamX.LamS X.env.scope scope) (hdef : defaultsOf params X.env = ([], []))
    (bnd : ∀ (q : Str) (cl : List (Str × Addr)) (pm cv ctv : Value), bindArgs (PySem.W.kla_fn "<lambda>" q params body scope cl pm cv ctv) ⟨[], []⟩ = pure [])
    (bdy : ∀ (A : Around) (outer : List Env) (s : Shared) (H : Hp) (E : XK) (f c' : Addr), Room k (A.deeper (LamX.lamEnv X scope s.heap.objs.size f c')) → (A.deeper (LamX.lamEnv X scope s.heap.objs.size f c')).guards = some [] →
      PE (LamX.lamCx X A outer s H E scope f c') body (rdE X.K X.mg (fun cl dd _ G => E cl dd G) fb))
    (hdb : (x == ("__debug__" : Str)) = false := by decide) (nd1 : (a == ("__debug__" : Str)) = false := by decide) (nd2 : (a == ("__classdict__" : Str)) = false := by decide) :
    PE X (.Call (.Name x p) [.Lambda params body scope lpos] [] pos) (rdE X.K X.mg W (evRef T hs fb)) := by
  constructor
  intro pins s σ H Q I h
  obtain ⟨m, env, st, ho, so, h⟩ := h
  refine wpAny_Call_Name_kw (ld_glob I hg R.glo ?_ hdb)
  refine PySem.W.callWith_K (h₀ := X.base) I.ok.mod.kin R.keep ?_ (by rfl) (by rfl)
  show wpAny _ _ (spliced ((false, eval (.Lambda params body scope lpos) X.env) :: backTo pos (starEach [] X.env))) _ _ s
  refine Calls.spliced_cons (LamX.lam_make2 I TB hcode hmT hu so.tabs hdef (L.has I.ok) fun f c' pm' ctv H1 s' I1 eN T1 atF noF frF hco => ?_)
  refine Calls.spliced_nil ⟨I1.kIn, ?_⟩
  have pers : Pers H H1 := ext_pers (T := []) eN T1
  have so1 : StOk X.K X.mg m H1 st := cell_pers eN T1 so
  have ho1 := ho.mono (Pre.refl m) pers
  have h := Fin.mono (Pre.refl m) pers h
  have rc : codeAny (model X.prog X.w) X.A (.call (.ref g) ⟨[.ref f], []⟩) (CR (L2.CX X.prog X.w) X.stack X.prog X.w H1 s' Q fun _ _ _ => False) s' := by
    obtain ⟨pg, dV, kV, doc, pm, ct, oc, an, od, osl, rfl, lk⟩ := R.look
    refine LamX.run_ofS (N := Ng) (ps := [a]) (us := [.ref f]) (vs := [.ref f]) lk R.code R.scope hr I1.env0 (by
      have := R.bind s' [.ref f] I1.kIn rfl
      rwa [List.append_nil] at this) (.cons rfl .nil) rfl fun hr' => ?_
    obtain ⟨l2, cls⟩ := hcl X.A X.stack s' H1 (fun _ _ _ => False) hr' hgs
    have act : ∀ (W : WX) (pn : List (Addr × Obj)) (xe : Value → Shared → Prop), Takes ((cxOf (L2.CX X.prog X.w) X.prog X.w X.K X.mg X.base Ng x sg g cdg X.A X.stack s' H1 fun _ _ _ => False).tr pn xe) W →
        PSs ((cxOf (L2.CX X.prog X.w) X.prog X.w X.K X.mg X.base Ng x sg g cdg X.A X.stack s' H1 fun _ _ _ => False).tr pn xe) [.Expr (.Call (.Name a p1) [] [] p2) p3] (tDrop (rdAct X.K X.mg (X.env.qual ++ "<lambda>") f c' σ W fb)) :=
      fun W pn xe tk => pss_one (ps_expr (pe_act2 I1 L atF noF frF (bnd _ _ _ _ _) tk hr' hgs bdy R.nth R.vis nd1 nd2))
    refine ⟨_, pss_cons (ps_each (X := cxOf (L2.CX X.prog X.w) X.prog X.w X.K X.mg X.base Ng x sg g cdg X.A X.stack s' H1 fun _ _ _ => False) (i := 1) (n := n) (Wo := fun _ _ _ _ => False) rfl rfl R.scope.nd R.nme R.loc takes_none5 (fun W pn xe tk _ => act W pn xe tk) cls.each) (pss_one (ps_ret pe_non)), ?_⟩
    have st0 : L2.start Ng [V.ref f] = [some (.ref f), none] := by
      unfold L2.start
      rw [hlen]
      rfl
    rw [st0]
    refine ⟨rfl, hco, m, env, st, ho1, so1, ?_⟩
    unfold evRef at h
    cases e : fb env st with
    | stuck => rw [e] at h; exact h.elim
    | ok d s2 =>
      rw [e] at h
      exact fun m' G v a1 a2 a3 _ => h m' G .non a1 a2 a3 rfl
    | err cc fs s2 =>
      rw [e] at h
      intro m' G cl dd pm p s3 x3
      refine cls.wish (W := fun _ _ _ _ => False) (m := m) (H := H1) (env' := [none, none]) hT pm p s3 ⟨rfl, fun i d e => ?_⟩ x3 ?_
      · match i, e with
        | 0, e => cases e
        | 1, e => cases e
        | i + 2, e => cases e
      · cases ep : pickH T cc hs with
        | none => simp only [ep] at h; exact h.elim
        | some o =>
          cases o with
          | none => simp only [ep] at h; exact h.elim
          | some hh =>
            simp only [ep] at h
            simp only
            rw [if_pos (by decide)]
            obtain ⟨q, hq, rfl⟩ := pickH_mem ep
            rw [hE q hq fs _ s2]
            cases eh : q.2 fs [] s2 with
            | ok d s4 =>
              rw [eh] at h
              exact fun m2 G2 a1 a2 a3 v r => h m2 G2 v a1 a2 a3 r
            | err _ _ _ => rw [eh] at h; exact h.elim
            | stuck => rw [eh] at h; exact h.elim
  refine wpAny_call (codeAny_mono rc fun r s2 hq => ?_)
  cases r with
  | error e =>
    obtain ⟨_, _, _, _, _, _, _, _, _, _, _, _, z⟩ := hq
    exact z.elim
  | ok fl =>
    cases fl with
    | ret u => exact I1.after hq
    | next => exact hq.elim
    | brk => exact hq.elim
    | cont => exact hq.elim
end
end PP
set_option Elab.async false
set_option linter.all false
set_option maxRecDepth 100000
set_option maxHeartbeats 2000000
/-! PP22: defs as values, calls by a variable; what the head tells of defs that try lambdas. -/
namespace PP
open PySem PySem.Spec PyProof.Rows L2 He
variable [Tbl]
/-- a def's name as a value -/
theorem pe_evFn {X : Cx} {W : WX} {k : Nat} {ps : List Str} {g : Fn} {x : Str} {pos : Pos} (c : Cal X.K X.mg X.prog X.w X.base x k ps g) (hg : Gl X x) (hd : (x == ("__debug__" : Str)) = false := by decide) : PE X (.Name x pos) (rdE X.K X.mg W (evC (.fn x))) := by
  obtain ⟨f, fd, F, hm, hk, hb⟩ := c.ex
  exact rd_const (X := X) (d := .fn x) (v := .ref f) (fun _ _ => ⟨f, rfl, hm⟩) (pe_glob (v := .ref f) hg hm rfl hd)
/-- v(e, ..), v a def of a table -/
def evCallV (tbl : List (Str × Fn)) (i : Nat) (a : Ev (List D)) : Ev D := fun env st => match env[i]? with
  | some (some (.fn x)) => match tbl.lookup x with
    | some g => (a env st).bind fun ds s => g ds s
    | none => .stuck
  | _ => .stuck
theorem pe_evCallV {X : Cx} {W : WX} {k n i : Nat} {tbl : List (Str × Fn)} {v : Str} {p pos : Pos} {e : Expr} {es : List Expr} {fl : Ev (List D)} (ht : ∀ x g, tbl.lookup x = some g → ∃ ps, ps.length = n ∧ Cal X.K X.mg X.prog X.w X.base x k ps g) (hr : Room k X.A) (hgs : X.A.guards = some [])
    (hN : X.N[i]? = some v) (hv : Vis X.env.scope v) (tk : Takes X W) (ha : PA X (e :: es) (rdA X.K X.mg W fl)) (hn : ∀ env st ds s, fl env st = .ok ds s → ds.length = n)
    (hd : (v == ("__debug__" : Str)) = false := by decide) (hcd : (v == ("__classdict__" : Str)) = false := by decide) (he : starEach (e :: es) X.env = (false, eval e X.env) :: starEach es X.env := by rfl) (hpl : (backTo pos (starEach es X.env)).any (·.1) = false := by rfl) :
    PE X (.Call (.Name v p) (e :: es) [] pos) (rdE X.K X.mg W (evCallV tbl i fl)) := ⟨fun pins s σ H Q I h => by
  obtain ⟨m, env, st, ho, so, h⟩ := h
  unfold evCallV at h
  split at h
  · rename_i x ex
    split at h
    · rename_i g eg
      obtain ⟨ps, el, c⟩ := ht x g eg
      obtain ⟨f, fd, F, hm, hk, hb⟩ := c.ex
      obtain ⟨u, eu, f2, rfl, hm2⟩ := ho.at_ i _ ex
      rw [hm] at hm2
      cases hm2
      have load := (pe_var (X := X) (pos := p) hN hv hd hcd).run pins s σ H (fun v G => v = .ref f ∧ G = H) I ⟨.ref f, eu, rfl, rfl⟩
      refine wpAny_Call_Name_kw (thn load fun u t1 hu => ?_)
      obtain ⟨v, G, I1, rel, rfl, rfl⟩ := hu
      cases (show u = Value.ref f from rel)
      have rd : rdE X.K X.mg W (evCall g fl) σ G Q := ⟨m, env, st, ho, so, h⟩
      exact PySem.W.callWith_K (h₀ := X.base) I1.ok.mod.kin hk (thn (ha.run pos pins t1 σ G _ I1 (rd_call hn rd)) fun us s1 hh => (by
        obtain ⟨vs, H1, I2, r2, q⟩ := hh
        rw [← el] at q
        exact ⟨I2.kIn, run_fnG F hr hgs hb tk I2 r2 q⟩)) he hpl
    · exact h.elim
  · exact h.elim⟩
/-- a def that tries what it got, as its callers know it -/
structure RefP (K : PySem.W.Frag) (mg : Str → Option Value) (P : Program) (w : World) (base : Heap) (x : Str) (T : ExT) (hs : List (Str × (List (Str × D) → Ev D))) : Prop where
  ex : ∃ (a n : Str) (g : Addr) (fd : FuncData) (cdg : Value) (sg : Scope) (Ng : List Str) (p1 p2 p3 p4 p5 p6 : Pos) (h1 : ExceptHandler) (hds : List ExceptHandler) (kk : Nat),
    RefDef K mg x Ng a n g fd cdg sg [.Try [.Expr (.Call (.Name a p1) [] [] p2) p3] (h1 :: hds) [] [] p4, .Return (some (.Constant .none kk p6)) p5] ∧ Ng.length = 2 ∧ (a == ("__debug__" : Str)) = false ∧ (a == ("__classdict__" : Str)) = false ∧
    (∀ q ∈ hs, ∀ fs e st, q.2 fs e st = q.2 fs [] st) ∧
    ∀ (A : Around) (outer : List Env) (s : Shared) (H : Hp) (E : XK), Room 1 (A.deeper (envOfC x sg s.heap.objs.size g cdg)) → (A.deeper (envOfC x sg s.heap.objs.size g cdg)).guards = some [] →
      ∃ l2, ClsOk (cxOf (L2.CX P w) P w K mg base Ng x sg g cdg A outer s H E) 1 n T (h1 :: hds) hs l2
/-- the table of the code object at c is known -/
structure LamAt (base : Heap) (mg : Str → Option Value) (q : Str) (c : Addr) : Prop where
  ex : ∃ P, LamX.TabB base mg c P ∧ (P, q ++ "<lambda>") ∈ Tbl.T ∧ ∀ p ∈ Tbl.T, p.1 = P → p.2 = q ++ "<lambda>"
theorem pe_ref {X : Cx} {W : WX} {T : ExT} {hs : List (Str × (List (Str × D) → Ev D))} {x : Str} {c : Addr} {k : Nat} {params : Arguments} {body : Expr} {scope : Scope} {fb : Ev D} {p lpos pos : Pos} (R : RefP X.K X.mg X.prog X.w X.base x T hs) (hT : TabOk X.K X.mg T) (hg : Gl X x)
    (LA : LamAt X.base X.mg X.env.qual c) (hcode : X.env.code = .ref c) (hr : Room (k + 2) X.A) (hgs : X.A.guards = some []) (L : LamX.LamS X.env.scope scope) (hdef : defaultsOf params X.env = ([], []))
    (bnd : ∀ (q : Str) (cl : List (Str × Addr)) (pm cv ctv : Value), bindArgs (PySem.W.kla_fn "<lambda>" q params body scope cl pm cv ctv) ⟨[], []⟩ = pure [])
    (bdy : ∀ (A : Around) (outer : List Env) (s : Shared) (H : Hp) (E : XK) (f c' : Addr), Room k (A.deeper (LamX.lamEnv X scope s.heap.objs.size f c')) → (A.deeper (LamX.lamEnv X scope s.heap.objs.size f c')).guards = some [] →
      PE (LamX.lamCx X A outer s H E scope f c') body (rdE X.K X.mg (fun cl dd _ G => E cl dd G) fb))
    (hdb : (x == ("__debug__" : Str)) = false := by decide) : PE X (.Call (.Name x p) [.Lambda params body scope lpos] [] pos) (rdE X.K X.mg W (evRef T hs fb)) := by
  obtain ⟨a, n, g, fd, cdg, sg, Ng, p1, p2, p3, p4, p5, p6, h1, hds, kk, RD, hl, d1, d2, hE, hc⟩ := R.ex
  obtain ⟨Pt, TB, hm, hu⟩ := LA.ex
  exact pe_refcall hT hE RD hl (fun A outer s H E hr2 hg2 => hc A outer s H E (hr2.mono (Nat.le_add_left 1 k)) hg2) hg TB hcode hm hu hr hgs L hdef bnd bdy hdb d1 d2
section
variable {P : Program} {w : World} {K : PySem.W.Frag} {mg : Str → Option Value} {base h : Heap}
/-- a def of the text, its code object known -/
theorem FunD.okGc {x qual : Str} {params : Arguments} {body : List Stmt} {scope : Scope} {f c : Addr} {fd : FuncData} {N ps : List Str} {k n : Nat} {b : Ss} (F : FunD K x qual params body scope [] [] f fd) (hc : codeK K f = some c) (S : FnScope N ps scope) (hn : N.length = n)
    (hb : ∀ (cdv : Value) (A : Around) (outer : List Env) (s : Shared) (H : Hp) (E : XK), cdv = .ref c → Room k (A.deeper (envOfC qual scope s.heap.objs.size f cdv)) → (A.deeper (envOfC qual scope s.heap.objs.size f cdv)).guards = some [] →
      PSs (cxOf (L2.CX P w) P w K mg base N qual scope f cdv A outer s H E) body (rdS K mg (fun cls d _ H => E cls d H) b)) : FnG K mg P w base (k + 1) f fd ps (runS n b) := by
  obtain ⟨oc, od, dV, kV, doc, pm, an, cdv, ct, osl, rfl, lk, hcd, _, _⟩ := F.ex
  subst hn
  obtain ⟨_, _, _, _, e1, e2⟩ := codeK_some hc
  rw [lk] at e1
  cases e1
  exact fnG_of lk hcd S fun A outer s H E => hb cdv A outer s H E e2
theorem mkRef {x a n : Str} {params : Arguments} {sg : Scope} {fd : FuncData} {Ng : List Str} {p1 p2 p3 p4 p5 p6 : Pos} {h1 : ExceptHandler} {hds : List ExceptHandler} {kk : Nat} {T : ExT} {hs : List (Str × (List (Str × D) → Ev D))} (kin : K.In h) (G : h.Ns mainGlobals mg) (hb : (Fa.glo x).ok K = true)
    (F : FunD K x x params [.Try [.Expr (.Call (.Name a p1) [] [] p2) p3] (h1 :: hds) [] [] p4, .Return (some (.Constant .none kk p6)) p5] sg [] [] (fAd K (x, none)) fd) (S : FnScope Ng [a] sg) (hl : Ng.length = 2) (h0 : Ng[0]? = some a) (hn : Ng[1]? = some n) (hv : Vis sg a) (hloc : sg.names.lookup n = some .local)
    (d1 : (a == ("__debug__" : Str)) = false) (d2 : (a == ("__classdict__" : Str)) = false) (hE : ∀ q ∈ hs, ∀ fs e st, q.2 fs e st = q.2 fs [] st)
    (bi : ∀ (kV doc pm : Value) (an : Option Addr) (cdv ct : Value) (us : List Value), us.length = ([a] : List Str).length → bindArgs (PySem.W.fnOf x x params [.Try [.Expr (.Call (.Name a p1) [] [] p2) p3] (h1 :: hds) [] [] p4, .Return (some (.Constant .none kk p6)) p5] sg .none kV doc pm an cdv ct) ⟨us, []⟩ = pure (([a] : List Str).zip us))
    (hc : ∀ (cdg : Value) (A : Around) (outer : List Env) (s : Shared) (H : Hp) (E : XK), Room 1 (A.deeper (envOfC x sg s.heap.objs.size (fAd K (x, none)) cdg)) → (A.deeper (envOfC x sg s.heap.objs.size (fAd K (x, none)) cdg)).guards = some [] →
      ∃ l2, ClsOk (cxOf (L2.CX P w) P w K mg base Ng x sg (fAd K (x, none)) cdg A outer s H E) 1 n T (h1 :: hds) hs l2) : RefP K mg P w base x T hs := by
  have C := mkCal (P := P) (w := w) (base := base) (g := fun _ _ => .stuck) (k := 1) (ps := [a]) kin G hb F ⟨fun A outer s H args us vs Q E _ _ _ _ _ hh => by
    obtain ⟨m, st, ds, _, _, _, z⟩ := hh
    exact z.elim⟩ bi
  obtain ⟨f, fd2, _, hm, hk, hbd⟩ := C.ex
  have hm2 := glo_ok kin G hb
  obtain ⟨oc, od, dV, kV, doc, pm, an, cdv, ct, osl, rfl, lk, hcd, _, _⟩ := F.ex
  have ef : f = fAd K (x, none) := by
    have := hm.symm.trans hm2
    cases this
    rfl
  subst ef
  refine ⟨a, n, _, _, cdv, sg, Ng, p1, p2, p3, p4, p5, p6, h1, hds, kk, ⟨hm, hk, FunD.bindsN F bi, S, h0, hn, hv, hloc, ⟨_, _, _, _, _, _, _, _, _, _, rfl, lk⟩, hcd⟩, hl, d1, d2, hE, hc cdv⟩
end
end PP
namespace PP
open PySem PySem.Spec PyProof.Rows L2 He
/-- which class an except clause takes: its own -/
def exTL (CL HL : List Str) : ExT := fun c cn => if c ∈ CL ∧ cn ∈ HL then some (decide (c = cn)) else none
theorem exTL_eq {CL HL : List Str} {c cn : Str} (h : exTL CL HL c cn = some true) : c = cn := by
  unfold exTL at h
  split at h
  · simpa using h
  · cases h
theorem tabOk_L {K : PySem.W.Frag} {mg : Str → Option Value} {CL HL : List Str} (hg : ∀ c ∈ CL, mg c = some (.ref (ga K c))) (hg2 : ∀ c ∈ HL, mg c = some (.ref (ga K c)))
    (t : (CL.all fun c => HL.all fun cn => decide (PySem.W.exmOne K (.ref (ga K c)) (.ref (ga K cn)) = some (decide (c = cn)))) = true) : TabOk K mg (exTL CL HL) := by
  intro c cn b a he ha v hv
  unfold exTL at he
  split at he
  · rename_i h
    cases he
    rw [hg c h.1] at ha
    rw [hg2 cn h.2] at hv
    cases ha; cases hv
    exact of_decide_eq_true (List.all_eq_true.mp (List.all_eq_true.mp t c h.1) cn h.2)
  · cases he
theorem tabs_uniq : ∀ {L : List (Addr × Str)}, (L.map (·.1)).Nodup → ∀ {P : Addr} {q : Str}, (P, q) ∈ L → ∀ p ∈ L, p.1 = P → p.2 = q
  | x :: L, h, P, q, hm, p, hp, e => by
    obtain ⟨h1, h2⟩ := List.nodup_cons.mp h
    rcases List.mem_cons.mp hm with rfl | hm
    · rcases List.mem_cons.mp hp with rfl | hp
      · rfl
      · exact absurd (List.mem_map.mpr ⟨p, hp, e⟩) h1
    · rcases List.mem_cons.mp hp with z | hp
      · rw [z] at e
        exact (h1 (List.mem_map.mpr ⟨(P, q), hm, e.symm⟩)).elim
      · exact tabs_uniq h2 hm p hp e
variable [Tbl]
theorem Cal.mono {K : PySem.W.Frag} {mg : Str → Option Value} {P : Program} {w : World} {base : Heap} {x : Str} {j k : Nat} {ps : List Str} {g : Fn} (c : Cal K mg P w base x j ps g) (h : j ≤ k) : Cal K mg P w base x k ps g := by
  obtain ⟨f, fd, F, r⟩ := c.ex
  exact ⟨f, fd, F.mono h, r⟩
theorem tbl_nil {K : PySem.W.Frag} {mg : Str → Option Value} {P : Program} {w : World} {base : Heap} {k n : Nat} : ∀ x g, ([] : List (Str × Fn)).lookup x = some g → ∃ ps : List Str, ps.length = n ∧ Cal K mg P w base x k ps g := fun x g h => by cases h
theorem tbl_cons {K : PySem.W.Frag} {mg : Str → Option Value} {P : Program} {w : World} {base : Heap} {j k n : Nat} {x0 : Str} {g0 : Fn} {ps : List Str} {tbl : List (Str × Fn)} (c : Cal K mg P w base x0 j ps g0) (hj : j ≤ k) (hl : ps.length = n)
    (r : ∀ x g, tbl.lookup x = some g → ∃ ps : List Str, ps.length = n ∧ Cal K mg P w base x k ps g) : ∀ x g, ((x0, g0) :: tbl).lookup x = some g → ∃ ps : List Str, ps.length = n ∧ Cal K mg P w base x k ps g := fun x g h => by
  rw [List.lookup_cons] at h
  split at h
  · rename_i e
    cases h
    have e' : x = x0 := by simpa using e
    subst e'
    exact ⟨ps, hl, c.mono hj⟩
  · exact r x g h
theorem lamB {X : Cx} {A : Around} {outer : List Env} {s : Shared} {H : Hp} {E : XK} {scope : Scope} {f c' : Addr} {k : Nat} {body : Expr} {t : TE} (hr : Room k (A.deeper (LamX.lamEnv X scope s.heap.objs.size f c')))
    (h : Takes (LamX.lamCx X A outer s H E scope f c') (fun cl dd _ G => E cl dd G) → (LamX.lamCx X A outer s H E scope f c').A.units + 1 < cLine → (LamX.lamCx X A outer s H E scope f c').A.units + 64 < cLine → (LamX.lamCx X A outer s H E scope f c').A.units + 65 < cLine → PE (LamX.lamCx X A outer s H E scope f c') body t) :
    PE (LamX.lamCx X A outer s H E scope f c') body t := h (takes_of rfl rfl rfl rfl) (u1 hr) (u64 hr) (u65 hr)
end PP
namespace PP
open PySem PySem.Spec PyProof.Rows L2
theorem TabSays.of {q : Program} {mg : Str → Option Value} {h : Heap} (hT : ∀ e ∈ recsOf q, TabSays mg h e.name) {x : Str} (hx : ((recsOf q).any fun e => decide (e.name = x)) = true) : TabSays mg h x := by
  obtain ⟨e, he, e2⟩ := List.any_eq_true.mp hx
  have e3 : e.name = x := of_decide_eq_true e2
  rw [← e3]
  exact hT e he
end PP
namespace PP
open PySem PySem.Spec PyProof.Rows L2 He
variable [Tbl]
theorem mkXC2 {P : Program} {w : World} {K : PySem.W.Frag} {h : Heap} {mg : Str → Option Value} {base : Heap} (kin : K.In h) (G : h.Ns mainGlobals mg) {c f g : Str} (hb : exB c [f, g] K = true) {qual : Str} {params : Arguments} {scope : Scope} {q1 q2 q3 q4 q5 q6 q7 q8 : Pos} {fd : FuncData}
    (F : FunD K "__init__" qual params [.Assign [.Attribute (.Name "self" q1) f q2] (.Name f q3) q4, .Assign [.Attribute (.Name "self" q5) g q6] (.Name g q7) q8] scope [] [] (fAd K (c, some "__init__")) fd) (S : FnScope ["self", f, g] ["self", f, g] scope)
    (hs : scope.names.lookup ("self" : Str) = some NameKind.local) (hf : scope.names.lookup f = some NameKind.local) (hg : scope.names.lookup g = some NameKind.local)
    (hd1 : (f == ("__debug__" : Str)) = false) (hd2 : (f == ("__classdict__" : Str)) = false) (hd3 : (g == ("__debug__" : Str)) = false) (hd4 : (g == ("__classdict__" : Str)) = false)
    (bi : ∀ (kV doc pm : Value) (an : Option Addr) (cdv ct : Value) (us : List Value), us.length = 3 → bindArgs (PySem.W.fnOf "__init__" qual params [.Assign [.Attribute (.Name "self" q1) f q2] (.Name f q3) q4, .Assign [.Attribute (.Name "self" q5) g q6] (.Name g q7) q8] scope .none kV doc pm an cdv ct) ⟨us, []⟩ = pure ((["self", f, g] : List Str).zip us)) :
    XC2 K mg P w base c f g (ga K c) := by
  obtain ⟨h1, hb⟩ := ba hb
  obtain ⟨h2, hb⟩ := ba hb
  obtain ⟨h3, hb⟩ := ba hb
  obtain ⟨h4, hb⟩ := ba hb
  obtain ⟨h5, h6⟩ := ba hb
  have no := eqO_ok (List.all_eq_true.mp h4 f List.mem_cons_self)
  have no2 := eqO_ok (List.all_eq_true.mp h4 g (List.mem_cons_of_mem _ List.mem_cons_self))
  refine ⟨glo_ok kin G h1, oexB_ok h2, xfB_ok h3, no, no2, ma K (ga K c) "__init__", fd, eqO_ok h5, of_decide_eq_true h6, ?_, FunD.bindsN F bi⟩
  obtain ⟨oc, od, dV, kV, doc, pm, an, cdv, ct, osl, rfl, lk, hcd, _, _⟩ := F.ex
  exact init2_ok lk hcd S (oexB_ok h2) no no2 hs hf hg hd1 hd2 hd3 hd4
/-! ### texts of the top -/
theorem pe_evGStrE {X : Cx} {W : WX} {pos : Pos} {x : Str} {z : Str} (hg : Gl X x) (hm : ∃ t, X.mg x = some (.str z t)) (hd : (x == ("__debug__" : Str)) = false := by decide) : PE X (.Name x pos) (rdE X.K X.mg W (evC (.str z))) := by
  obtain ⟨t, h⟩ := hm
  exact pe_evGStr hg h hd
def gsB (x z : Str) (K : PySem.W.Frag) : Bool := match PySem.W.nsIn K mainGlobals x with
  | some (some (.str s _)) => decide (s = z)
  | _ => false
theorem gs_ok {K : PySem.W.Frag} {h : Heap} {mg : Str → Option Value} {x z : Str} (kin : K.In h) (G : h.Ns mainGlobals mg) (e : gsB x z K = true) : ∃ t, mg x = some (.str z t) := by
  unfold gsB at e
  split at e
  · rename_i s t q
    have := of_decide_eq_true e
    subst this
    exact ⟨t, PySem.W.mg_of kin G q⟩
  · cases e
end PP
set_option Elab.async false
set_option linter.all false
set_option maxRecDepth 100000
set_option maxHeartbeats 2000000
/-! the defs of raresteps_k07_rates_at_numbers as evaluators -/
namespace G07
open PySem PySem.Spec PyProof.Rows L2 He PP
variable [Tbl]
def topS (i : Nat) : Stmt := PySem.Challenge.pw_raresteps_k07_rates_at_numbers.main.body.getD i (.Pass ⟨0, 0, 0, 0⟩)
/-- the built-in names stand as they were -/
structure Txt (mg : Str → Option Value) : Prop where
  abs' : mg "abs" = none
  all' : mg "all" = none
  bool' : mg "bool" = none
  dict' : mg "dict" = none
  int' : mg "int" = none
  isinstance' : mg "isinstance" = none
  len' : mg "len" = none
  list' : mg "list" = none
  range' : mg "range" = none
  repr' : mg "repr" = none
  sorted' : mg "sorted" = none
  str' : mg "str" = none
  tuple' : mg "tuple" = none
  zip' : mg "zip" = none
  gcd' : mg "gcd" = some (.builtin "math.gcd")
  SMALL' : ∃ t, mg "SMALL" = some (.str "abcdefghijklmnopqrstuvwxyz" t)
  SIGNS' : ∃ t, mg "SIGNS" = some (.str "abcdefghijklmnopqrstuvwxyz0123456789" t)
/-- which class an except clause's name takes -/
def exT : ExT := exTL (["BadWeb", "BadNumber", "NotKept"] : List Str) (["BadNumber", "NotKept", "BadWeb"] : List Str)
theorem exT_BadNumber : ∀ cc : Str, exT cc "BadNumber" = some true → cc = "BadNumber" := fun cc h => exTL_eq h
theorem exT_NotKept : ∀ cc : Str, exT cc "NotKept" = some true → cc = "NotKept" := fun cc h => exTL_eq h
theorem exT_BadWeb : ∀ cc : Str, exT cc "BadWeb" = some true → cc = "BadWeb" := fun cc h => exTL_eq h
section
variable {P : Program} {w : World} {K : PySem.W.Frag} {mg : Str → Option Value} {base : Heap}
/-! ### _law_refused (tries what it got) -/
abbrev s__law_refused : Stmt := topS 42
theorem sc__law_refused : FnScope ["call", "e"] ["call"] (defScope s__law_refused) := ⟨rfl, rfl, rfl, by decide +kernel, rfl, by decide +kernel, by decide +kernel⟩
def hs__law_refused : List (Str × (List (Str × D) → Ev D)) := [("BadNumber", fun fs => (evL mkTup (evCons (evFld fs "what") (evCons (evL reprD (evCons (evFld fs "number") evNil)) evNil)))), ("NotKept", fun fs => (evL mkTup (evCons (evFld fs "promise") (evCons (evL reprD (evCons (evFld fs "witness") evNil)) evNil)))), ("BadWeb", fun fs => (evL mkTup (evCons (evC (.str "web")) (evCons (evL reprD (evCons (evFld fs "web") evNil)) evNil))))]
theorem hE__law_refused : ∀ q ∈ hs__law_refused, ∀ fs e st, q.2 fs e st = q.2 fs [] st := fun q hq fs e st => by
  simp only [hs__law_refused, List.mem_cons, List.not_mem_nil, or_false] at hq
  rcases hq with rfl | rfl | rfl <;> rfl
theorem ref__law_refused {h : Heap} (T : Txt mg) {A_BadNumber : Addr} (X_BadNumber : XC2 K mg P w base "BadNumber" "what" "number" A_BadNumber) {A_NotKept : Addr} (X_NotKept : XC2 K mg P w base "NotKept" "promise" "witness" A_NotKept) {A_BadWeb : Addr} (X_BadWeb : XC1 K mg P w base "BadWeb" "web" A_BadWeb) (kin : K.In h) (G : h.Ns mainGlobals mg) (hb : (Fa.glo "_law_refused").ok K = true) {fd : FuncData} (F : FunD K "_law_refused" "_law_refused" (defArgs s__law_refused) (defBody s__law_refused) (defScope s__law_refused) [] [] (fAd K ("_law_refused", none)) fd) : RefP K mg P w base "_law_refused" exT hs__law_refused := by
  refine mkRef kin G hb F sc__law_refused rfl rfl rfl (.inl rfl) rfl (by decide) (by decide) hE__law_refused (fun _ _ _ _ _ _ us hl => match us, hl with | [_], _ => rfl) ?hc
  intro cdg A outer s H E hr hgs
  have hu1 := u1 hr
  have hu64 := u64 hr
  have hu65 := u65 hr
  exact ⟨_, (.cons (by rfl) (by decide) X_BadNumber.gC (fun a oe cls d pn hcc hz hf => (pe_hTup (pa_hCons (pe_hFld "BadNumber" _ (cls_of hcc exT_BadNumber X_BadNumber.gC) X_BadNumber.xf X_BadNumber.no hz hf rfl (.inl rfl)) (pa_hCons (pe_hB (cr_reprD hgs hu64) (by rfl) T.repr' (by decide +kernel) (pa_hCons (pe_hFld "BadNumber" _ (cls_of hcc exT_BadNumber X_BadNumber.gC) X_BadNumber.xf X_BadNumber.no2 hz hf rfl (.inl rfl)) pa_hNil)) pa_hNil)))) (.cons (by rfl) (by decide) X_NotKept.gC (fun a oe cls d pn hcc hz hf => (pe_hTup (pa_hCons (pe_hFld "NotKept" _ (cls_of hcc exT_NotKept X_NotKept.gC) X_NotKept.xf X_NotKept.no hz hf rfl (.inl rfl)) (pa_hCons (pe_hB (cr_reprD hgs hu64) (by rfl) T.repr' (by decide +kernel) (pa_hCons (pe_hFld "NotKept" _ (cls_of hcc exT_NotKept X_NotKept.gC) X_NotKept.xf X_NotKept.no2 hz hf rfl (.inl rfl)) pa_hNil)) pa_hNil)))) (.cons (by rfl) (by decide) X_BadWeb.gC (fun a oe cls d pn hcc hz hf => (pe_hTup (pa_hCons (pe_hC (v := .str "web") (fun _ _ => rfl) pe_str) (pa_hCons (pe_hB (cr_reprD hgs hu64) (by rfl) T.repr' (by decide +kernel) (pa_hCons (pe_hFld "BadWeb" _ (cls_of hcc exT_BadWeb X_BadWeb.gC) X_BadWeb.xf X_BadWeb.no hz hf rfl (.inl rfl)) pa_hNil)) pa_hNil)))) .nil)))⟩
/-! ### _law_pen -/
abbrev s__law_pen : Stmt := topS 30
theorem sc__law_pen : FnScope ["script", "fold", "cell"] ["script"] (defScope s__law_pen) := ⟨rfl, rfl, rfl, by decide +kernel, rfl, by decide +kernel, by decide +kernel⟩
def b__law_pen : Ss := (sSeq (sSet 1 (evC (.int 0)))
 (sSeq (sFor (evSrc (evVar 0)) (tgN 2)
 (sSet 1 (ev2 modD (evL intD (evCons (ev2 addD (ev2 mulD (evVar 1) (evC (.int 67))) (evVar 2)) evNil)) (evC (.int 1000000021)))))
 (sRet (evDisp [((evC (.str "cells")), (evL listD (evCons (evVar 0) evNil))), ((evC (.str "at")), (evC (.int 0))), ((evC (.str "digits")), (evC (.int 0))), ((evC (.str "count")), (evC (.int 0))), ((evC (.str "fold")), (evVar 1))]))))
def g__law_pen : Fn := runS 3 b__law_pen
theorem ok__law_pen (T : Txt mg) {f : Addr} {fd : FuncData} (F : FunD K "_law_pen" "_law_pen" (defArgs s__law_pen) (defBody s__law_pen) (defScope s__law_pen) [] [] f fd) : FnG K mg P w base 1 f fd ["script"] g__law_pen := by
  refine PP.FunD.okG F sc__law_pen rfl (b := b__law_pen) (fun cdv A outer s H E hr hgs => ?_)
  have tk : Takes (cxOf (L2.CX P w) P w K mg base ["script", "fold", "cell"] "_law_pen" (defScope s__law_pen) f cdv A outer s H E) (fun cls d _ H => E cls d H) := takes_of rfl rfl rfl rfl
  have hp : PassesOwn (model P w) (A.deeper (envOfC "_law_pen" (defScope s__law_pen) s.heap.objs.size f cdv)) (envOfC "_law_pen" (defScope s__law_pen) s.heap.objs.size f cdv) (cxOf (L2.CX P w) P w K mg base ["script", "fold", "cell"] "_law_pen" (defScope s__law_pen) f cdv A outer s H E).xe := passes_of (X := cxOf (L2.CX P w) P w K mg base ["script", "fold", "cell"] "_law_pen" (defScope s__law_pen) f cdv A outer s H E) rfl
  have hu1 := u1 hr
  have hu64 := u64 hr
  have hu65 := u65 hr
  exact (pss_sSeq (ps_sSet (i := 1) sc__law_pen.nd rfl (.inl rfl) pe_evInt)
  (pss_sSeq (ps_sFor (sl := [2]) hp rfl (pi_src (pe_evVar (i := 0) rfl (.inl rfl))) (pg_tgN (i := 2) sc__law_pen.nd rfl (.inl rfl)) (pss_sOne (ps_sSet (i := 1) sc__law_pen.nd rfl (.inl rfl) (pe_ev2 op_modD (pe_evBT (cr_intD) (by rfl) T.int' (by decide +kernel) (PA.cons' (pe_ev2 op_addD (pe_ev2 op_mulD (pe_evVar (i := 1) rfl (.inl rfl)) pe_evInt) (pe_evVar (i := 2) rfl (.inl rfl))) pa_evNil)) pe_evInt))))
  (pss_sOne (ps_sRet (pe_evDisp (trs := [((evC (.str "cells")), (evL listD (evCons (evVar 0) evNil))), ((evC (.str "at")), (evC (.int 0))), ((evC (.str "digits")), (evC (.int 0))), ((evC (.str "count")), (evC (.int 0))), ((evC (.str "fold")), (evVar 1))]) (pps_cons pe_evStr (pe_evBT (cr_listD rfl) (by rfl) T.list' (by decide +kernel) (PA.cons' (pe_evVar (i := 0) rfl (.inl rfl)) pa_evNil)) (pps_cons pe_evStr pe_evInt (pps_cons pe_evStr pe_evInt (pps_cons pe_evStr pe_evInt (pps_cons pe_evStr (pe_evVar (i := 1) rfl (.inl rfl)) pps_nil))))) rfl rfl (fun z => nomatch z) (by decide))))))
/-! ### _law_draw -/
abbrev s__law_draw : Stmt := topS 31
theorem sc__law_draw : FnScope ["pen", "many", "blend", "cell", "digit"] ["pen", "many"] (defScope s__law_draw) := ⟨rfl, rfl, rfl, by decide +kernel, rfl, by decide +kernel, by decide +kernel⟩
def b__law_draw : Ss := (sSeq (sSub putD (evVar 0) (evC (.str "count")) (ev2 addD (ev2 subscD (evVar 0) (evC (.str "count"))) (evC (.int 1))))
 (sSeq (sIf (tand (evTB (ev2 eqX (ev2 subscD (evVar 0) (evC (.str "digits"))) (evC (.int 0)))) (evTB (ev2 ltD (ev2 subscD (evVar 0) (evC (.str "at"))) (evL lenD (evCons (ev2 subscD (evVar 0) (evC (.str "cells"))) evNil)))))
 (sSeq (sSet 3 (ev2 subscD (ev2 subscD (evVar 0) (evC (.str "cells"))) (ev2 subscD (evVar 0) (evC (.str "at")))))
 (sSeq (sSub putD (evVar 0) (evC (.str "at")) (ev2 addD (ev2 subscD (evVar 0) (evC (.str "at"))) (evC (.int 1))))
 (sIf (evTB (ev2 geD (evVar 3) (ev2 powD (evC (.int 10)) (evC (.int 18)))))
 (sSub putD (evVar 0) (evC (.str "digits")) (ev2 subD (evVar 3) (ev2 powD (evC (.int 10)) (evC (.int 18)))))
 (sSub putD (evVar 0) (evC (.str "fold")) (ev2 modD (evL intD (evCons (ev2 addD (ev2 mulD (ev2 subscD (evVar 0) (evC (.str "fold"))) (evC (.int 71993))) (evVar 3)) evNil)) (evC (.int 2147483549)))))))
 sNext)
 (sSeq (sIf (evTB (ev2 gtD (ev2 subscD (evVar 0) (evC (.str "digits"))) (evC (.int 0))))
 (sSeq (sSet 4 (ev2 modD (evL intD (evCons (ev2 subscD (evVar 0) (evC (.str "digits"))) evNil)) (evVar 1)))
 (sSeq (sSub putD (evVar 0) (evC (.str "digits")) (ev2 floorD (ev2 subscD (evVar 0) (evC (.str "digits"))) (evVar 1)))
 (sRet (evVar 4))))
 sNext)
 (sSeq (sSet 2 (ev2 addD (ev2 addD (ev2 subscD (evVar 0) (evC (.str "fold"))) (ev2 mulD (ev2 subscD (evVar 0) (evC (.str "count"))) (evC (.int 8117)))) (evC (.int 71))))
 (sRet (ev2 modD (ev2 floorD (evL intD (evCons (ev2 modD (ev2 powD (evVar 2) (evC (.int 19))) (evC (.int 2305843009213693951))) evNil)) (evC (.int 128))) (evVar 1)))))))
def g__law_draw : Fn := runS 5 b__law_draw
theorem ok__law_draw (T : Txt mg) {f : Addr} {fd : FuncData} (F : FunD K "_law_draw" "_law_draw" (defArgs s__law_draw) (defBody s__law_draw) (defScope s__law_draw) [] [] f fd) : FnG K mg P w base 1 f fd ["pen", "many"] g__law_draw := by
  refine PP.FunD.okG F sc__law_draw rfl (b := b__law_draw) (fun cdv A outer s H E hr hgs => ?_)
  have tk : Takes (cxOf (L2.CX P w) P w K mg base ["pen", "many", "blend", "cell", "digit"] "_law_draw" (defScope s__law_draw) f cdv A outer s H E) (fun cls d _ H => E cls d H) := takes_of rfl rfl rfl rfl
  have hp : PassesOwn (model P w) (A.deeper (envOfC "_law_draw" (defScope s__law_draw) s.heap.objs.size f cdv)) (envOfC "_law_draw" (defScope s__law_draw) s.heap.objs.size f cdv) (cxOf (L2.CX P w) P w K mg base ["pen", "many", "blend", "cell", "digit"] "_law_draw" (defScope s__law_draw) f cdv A outer s H E).xe := passes_of (X := cxOf (L2.CX P w) P w K mg base ["pen", "many", "blend", "cell", "digit"] "_law_draw" (defScope s__law_draw) f cdv A outer s H E) rfl
  have hu1 := u1 hr
  have hu64 := u64 hr
  have hu65 := u65 hr
  exact (pss_sSeq (ps_sSub (set_putD hu1) (pe_evVar (i := 0) rfl (.inl rfl)) pe_evStr (pe_ev2 op_addD (pe_ix2 (ix_subscD hu1) (pe_evVar (i := 0) rfl (.inl rfl)) pe_evStr (fun _ _ => rfl)) pe_evInt))
  (pss_sSeq (ps_sIf (PW.pt (pw_tand (pt_cmp2 (op_eqX hu64) (pe_ix2 (ix_subscD hu1) (pe_evVar (i := 0) rfl (.inl rfl)) pe_evStr (fun _ _ => rfl)) pe_evInt (nomark _)) (pw_and1 (pt_cmp2 (op_ltDd hu64) (pe_ix2 (ix_subscD hu1) (pe_evVar (i := 0) rfl (.inl rfl)) pe_evStr (fun _ _ => rfl)) (pe_evB (cr_lenD) (by rfl) T.len' (by decide +kernel) (PA.cons' (pe_ix2 (ix_subscD hu1) (pe_evVar (i := 0) rfl (.inl rfl)) pe_evStr (fun _ _ => rfl)) pa_evNil)) (nomark _))))) (pss_sSeq (ps_sSet (i := 3) sc__law_draw.nd rfl (.inl rfl) (pe_ix2 (ix_subscD hu1) (pe_ix2 (ix_subscD hu1) (pe_evVar (i := 0) rfl (.inl rfl)) pe_evStr (fun _ _ => rfl)) (pe_ix2 (ix_subscD hu1) (pe_evVar (i := 0) rfl (.inl rfl)) pe_evStr (fun _ _ => rfl)) (fun _ _ => rfl)))
  (pss_sSeq (ps_sSub (set_putD hu1) (pe_evVar (i := 0) rfl (.inl rfl)) pe_evStr (pe_ev2 op_addD (pe_ix2 (ix_subscD hu1) (pe_evVar (i := 0) rfl (.inl rfl)) pe_evStr (fun _ _ => rfl)) pe_evInt))
  (pss_sOne (ps_sIf (pt_cmp2 (op_geDd hu64) (pe_evVar (i := 3) rfl (.inl rfl)) (pe_ev2 op_powD pe_evInt pe_evInt) (nomark _)) (pss_sOne (ps_sSub (set_putD hu1) (pe_evVar (i := 0) rfl (.inl rfl)) pe_evStr (pe_ev2 op_subD (pe_evVar (i := 3) rfl (.inl rfl)) (pe_ev2 op_powD pe_evInt pe_evInt)))) (pss_sOne (ps_sSub (set_putD hu1) (pe_evVar (i := 0) rfl (.inl rfl)) pe_evStr (pe_ev2 op_modD (pe_evBT (cr_intD) (by rfl) T.int' (by decide +kernel) (PA.cons' (pe_ev2 op_addD (pe_ev2 op_mulD (pe_ix2 (ix_subscD hu1) (pe_evVar (i := 0) rfl (.inl rfl)) pe_evStr (fun _ _ => rfl)) pe_evInt) (pe_evVar (i := 3) rfl (.inl rfl))) pa_evNil)) pe_evInt))))))) pss_sNil)
  (pss_sSeq (ps_sIf (pt_cmp2 (op_gtDd hu64) (pe_ix2 (ix_subscD hu1) (pe_evVar (i := 0) rfl (.inl rfl)) pe_evStr (fun _ _ => rfl)) pe_evInt (nomark _)) (pss_sSeq (ps_sSet (i := 4) sc__law_draw.nd rfl (.inl rfl) (pe_ev2 op_modD (pe_evBT (cr_intD) (by rfl) T.int' (by decide +kernel) (PA.cons' (pe_ix2 (ix_subscD hu1) (pe_evVar (i := 0) rfl (.inl rfl)) pe_evStr (fun _ _ => rfl)) pa_evNil)) (pe_evVar (i := 1) rfl (.inl rfl))))
  (pss_sSeq (ps_sSub (set_putD hu1) (pe_evVar (i := 0) rfl (.inl rfl)) pe_evStr (pe_ev2 op_floorD (pe_ix2 (ix_subscD hu1) (pe_evVar (i := 0) rfl (.inl rfl)) pe_evStr (fun _ _ => rfl)) (pe_evVar (i := 1) rfl (.inl rfl))))
  (pss_sOne (ps_sRet (pe_evVar (i := 4) rfl (.inl rfl)))))) pss_sNil)
  (pss_sSeq (ps_sSet (i := 2) sc__law_draw.nd rfl (.inl rfl) (pe_ev2 op_addD (pe_ev2 op_addD (pe_ix2 (ix_subscD hu1) (pe_evVar (i := 0) rfl (.inl rfl)) pe_evStr (fun _ _ => rfl)) (pe_ev2 op_mulD (pe_ix2 (ix_subscD hu1) (pe_evVar (i := 0) rfl (.inl rfl)) pe_evStr (fun _ _ => rfl)) pe_evInt)) pe_evInt))
  (pss_sOne (ps_sRet (pe_ev2 op_modD (pe_ev2 op_floorD (pe_evBT (cr_intD) (by rfl) T.int' (by decide +kernel) (PA.cons' (pe_ev2 op_modD (pe_ev2 op_powD (pe_evVar (i := 2) rfl (.inl rfl)) pe_evInt) pe_evInt) pa_evNil)) pe_evInt) (pe_evVar (i := 1) rfl (.inl rfl)))))))))
/-! ### _law_pick -/
abbrev s__law_pick : Stmt := topS 32
theorem sc__law_pick : FnScope ["pen", "some"] ["pen", "some"] (defScope s__law_pick) := ⟨rfl, rfl, rfl, by decide +kernel, rfl, by decide +kernel, by decide +kernel⟩
def b__law_pick : Ss := (sRet (ev2 subscD (evVar 1) (evCall g__law_draw (evCons (evVar 0) (evCons (evL lenD (evCons (evVar 1) evNil)) evNil)))))
def g__law_pick : Fn := runS 2 b__law_pick
theorem ok__law_pick (T : Txt mg) (C__law_draw : Cal K mg P w base "_law_draw" 1 ["pen", "many"] g__law_draw) {f : Addr} {fd : FuncData} (F : FunD K "_law_pick" "_law_pick" (defArgs s__law_pick) (defBody s__law_pick) (defScope s__law_pick) [] [] f fd) : FnG K mg P w base 2 f fd ["pen", "some"] g__law_pick := by
  refine PP.FunD.okG F sc__law_pick rfl (b := b__law_pick) (fun cdv A outer s H E hr hgs => ?_)
  have tk : Takes (cxOf (L2.CX P w) P w K mg base ["pen", "some"] "_law_pick" (defScope s__law_pick) f cdv A outer s H E) (fun cls d _ H => E cls d H) := takes_of rfl rfl rfl rfl
  have hp : PassesOwn (model P w) (A.deeper (envOfC "_law_pick" (defScope s__law_pick) s.heap.objs.size f cdv)) (envOfC "_law_pick" (defScope s__law_pick) s.heap.objs.size f cdv) (cxOf (L2.CX P w) P w K mg base ["pen", "some"] "_law_pick" (defScope s__law_pick) f cdv A outer s H E).xe := passes_of (X := cxOf (L2.CX P w) P w K mg base ["pen", "some"] "_law_pick" (defScope s__law_pick) f cdv A outer s H E) rfl
  have hu1 := u1 hr
  have hu64 := u64 hr
  have hu65 := u65 hr
  exact (pss_sOne (ps_sRet (pe_ix2 (ix_subscD hu1) (pe_evVar (i := 1) rfl (.inl rfl)) (pe_evCal C__law_draw (hr.mono (by decide)) hgs (by rfl) tk (PA.cons' (pe_evVar (i := 0) rfl (.inl rfl)) (PA.cons' (pe_evB (cr_lenD) (by rfl) T.len' (by decide +kernel) (PA.cons' (pe_evVar (i := 1) rfl (.inl rfl)) pa_evNil)) pa_evNil)) (len_cons (len_cons (fun _ _ _ _ h => len_nil h)))) (fun _ _ => rfl))))
/-! ### _law_number -/
abbrev s__law_number : Stmt := topS 38
theorem sc__law_number : FnScope ["pen"] ["pen"] (defScope s__law_number) := ⟨rfl, rfl, rfl, by decide +kernel, rfl, by decide +kernel, by decide +kernel⟩
def b__law_number : Ss := (sRet (ev2 addD (evC (.int 1)) (evCall g__law_draw (evCons (evVar 0) (evCons (evCall g__law_pick (evCons (evVar 0) (evCons (evL mkLst (evCons (evC (.int 3)) (evCons (evC (.int 9)) (evCons (evC (.int 9)) (evCons (evC (.int 40)) (evCons (ev2 powD (evC (.int 10)) (evC (.int 6))) evNil)))))) evNil))) evNil)))))
def g__law_number : Fn := runS 1 b__law_number
theorem ok__law_number (T : Txt mg) (C__law_draw : Cal K mg P w base "_law_draw" 1 ["pen", "many"] g__law_draw) (C__law_pick : Cal K mg P w base "_law_pick" 2 ["pen", "some"] g__law_pick) {f : Addr} {fd : FuncData} (F : FunD K "_law_number" "_law_number" (defArgs s__law_number) (defBody s__law_number) (defScope s__law_number) [] [] f fd) : FnG K mg P w base 3 f fd ["pen"] g__law_number := by
  refine PP.FunD.okG F sc__law_number rfl (b := b__law_number) (fun cdv A outer s H E hr hgs => ?_)
  have tk : Takes (cxOf (L2.CX P w) P w K mg base ["pen"] "_law_number" (defScope s__law_number) f cdv A outer s H E) (fun cls d _ H => E cls d H) := takes_of rfl rfl rfl rfl
  have hp : PassesOwn (model P w) (A.deeper (envOfC "_law_number" (defScope s__law_number) s.heap.objs.size f cdv)) (envOfC "_law_number" (defScope s__law_number) s.heap.objs.size f cdv) (cxOf (L2.CX P w) P w K mg base ["pen"] "_law_number" (defScope s__law_number) f cdv A outer s H E).xe := passes_of (X := cxOf (L2.CX P w) P w K mg base ["pen"] "_law_number" (defScope s__law_number) f cdv A outer s H E) rfl
  have hu1 := u1 hr
  have hu64 := u64 hr
  have hu65 := u65 hr
  exact (pss_sOne (ps_sRet (pe_ev2 op_addD pe_evInt (pe_evCal C__law_draw (hr.mono (by decide)) hgs (by rfl) tk (PA.cons' (pe_evVar (i := 0) rfl (.inl rfl)) (PA.cons' (pe_evCal C__law_pick (hr.mono (by decide)) hgs (by rfl) tk (PA.cons' (pe_evVar (i := 0) rfl (.inl rfl)) (PA.cons' (pe_evLst (PA.cons' pe_evInt (PA.cons' pe_evInt (PA.cons' pe_evInt (PA.cons' pe_evInt (PA.cons' (pe_ev2 op_powD pe_evInt pe_evInt) pa_evNil)))))) pa_evNil)) (len_cons (len_cons (fun _ _ _ _ h => len_nil h)))) pa_evNil)) (len_cons (len_cons (fun _ _ _ _ h => len_nil h)))))))
/-! ### _law_gcd -/
abbrev s__law_gcd : Stmt := topS 33
theorem sc__law_gcd : FnScope ["one", "two", "lap"] ["one", "two"] (defScope s__law_gcd) := ⟨rfl, rfl, rfl, by decide +kernel, rfl, by decide +kernel, by decide +kernel⟩
def b__law_gcd : Ss := (sSeq (sPar 0 1 (evCons (evL absD (evCons (evVar 0) evNil)) (evCons (evL absD (evCons (evVar 1) evNil)) evNil)))
 (sSeq (sFor (evRg1 (evCons (evC (.int 4000)) evNil)) (tgN 2)
 (sSeq (sIf (evTB (ev2 eqX (evVar 1) (evC (.int 0))))
 (sRet (evVar 0))
 sNext)
 (sPar 0 1 (evCons (evVar 1) (evCons (ev2 modD (evL intD (evCons (evVar 0) evNil)) (evVar 1)) evNil)))))
 (sRet (evVar 0))))
def g__law_gcd : Fn := runS 3 b__law_gcd
theorem ok__law_gcd (T : Txt mg) {f : Addr} {fd : FuncData} (F : FunD K "_law_gcd" "_law_gcd" (defArgs s__law_gcd) (defBody s__law_gcd) (defScope s__law_gcd) [] [] f fd) : FnG K mg P w base 1 f fd ["one", "two"] g__law_gcd := by
  refine PP.FunD.okG F sc__law_gcd rfl (b := b__law_gcd) (fun cdv A outer s H E hr hgs => ?_)
  have tk : Takes (cxOf (L2.CX P w) P w K mg base ["one", "two", "lap"] "_law_gcd" (defScope s__law_gcd) f cdv A outer s H E) (fun cls d _ H => E cls d H) := takes_of rfl rfl rfl rfl
  have hp : PassesOwn (model P w) (A.deeper (envOfC "_law_gcd" (defScope s__law_gcd) s.heap.objs.size f cdv)) (envOfC "_law_gcd" (defScope s__law_gcd) s.heap.objs.size f cdv) (cxOf (L2.CX P w) P w K mg base ["one", "two", "lap"] "_law_gcd" (defScope s__law_gcd) f cdv A outer s H E).xe := passes_of (X := cxOf (L2.CX P w) P w K mg base ["one", "two", "lap"] "_law_gcd" (defScope s__law_gcd) f cdv A outer s H E) rfl
  have hu1 := u1 hr
  have hu64 := u64 hr
  have hu65 := u65 hr
  exact (pss_sSeq (ps_sPar (i := 0) (j := 1) rfl sc__law_gcd.nd rfl rfl (by decide) rfl rfl (PA.cons' (pe_evB (cr_absD) (by rfl) T.abs' (by decide +kernel) (PA.cons' (pe_evVar (i := 0) rfl (.inl rfl)) pa_evNil)) (PA.cons' (pe_evB (cr_absD) (by rfl) T.abs' (by decide +kernel) (PA.cons' (pe_evVar (i := 1) rfl (.inl rfl)) pa_evNil)) pa_evNil)) (by rfl))
  (pss_sSeq (ps_sFor (sl := [2]) hp rfl (pi_rg1 (by rfl) T.range' (PA.cons' pe_evInt pa_evNil)) (pg_tgN (i := 2) sc__law_gcd.nd rfl (.inl rfl)) (pss_sSeq (ps_sIf (pt_cmp2 (op_eqX hu64) (pe_evVar (i := 1) rfl (.inl rfl)) pe_evInt (nomark _)) (pss_sOne (ps_sRet (pe_evVar (i := 0) rfl (.inl rfl)))) pss_sNil)
  (pss_sOne (ps_sPar (i := 0) (j := 1) rfl sc__law_gcd.nd rfl rfl (by decide) rfl rfl (PA.cons' (pe_evVar (i := 1) rfl (.inl rfl)) (PA.cons' (pe_ev2 op_modD (pe_evBT (cr_intD) (by rfl) T.int' (by decide +kernel) (PA.cons' (pe_evVar (i := 0) rfl (.inl rfl)) pa_evNil)) (pe_evVar (i := 1) rfl (.inl rfl))) pa_evNil)) (by rfl)))))
  (pss_sOne (ps_sRet (pe_evVar (i := 0) rfl (.inl rfl))))))
/-! ### _law_fraction -/
abbrev s__law_fraction : Stmt := topS 34
theorem sc__law_fraction : FnScope ["top", "bottom", "shared"] ["top", "bottom"] (defScope s__law_fraction) := ⟨rfl, rfl, rfl, by decide +kernel, rfl, by decide +kernel, by decide +kernel⟩
def b__law_fraction : Ss := (sSeq (sSet 2 (evCall g__law_gcd (evCons (evVar 0) (evCons (evVar 1) evNil))))
 (sRet (evL mkTup (evCons (ev2 floorD (evVar 0) (evVar 2)) (evCons (ev2 floorD (evVar 1) (evVar 2)) evNil)))))
def g__law_fraction : Fn := runS 3 b__law_fraction
theorem ok__law_fraction (T : Txt mg) (C__law_gcd : Cal K mg P w base "_law_gcd" 1 ["one", "two"] g__law_gcd) {f : Addr} {fd : FuncData} (F : FunD K "_law_fraction" "_law_fraction" (defArgs s__law_fraction) (defBody s__law_fraction) (defScope s__law_fraction) [] [] f fd) : FnG K mg P w base 2 f fd ["top", "bottom"] g__law_fraction := by
  refine PP.FunD.okG F sc__law_fraction rfl (b := b__law_fraction) (fun cdv A outer s H E hr hgs => ?_)
  have tk : Takes (cxOf (L2.CX P w) P w K mg base ["top", "bottom", "shared"] "_law_fraction" (defScope s__law_fraction) f cdv A outer s H E) (fun cls d _ H => E cls d H) := takes_of rfl rfl rfl rfl
  have hp : PassesOwn (model P w) (A.deeper (envOfC "_law_fraction" (defScope s__law_fraction) s.heap.objs.size f cdv)) (envOfC "_law_fraction" (defScope s__law_fraction) s.heap.objs.size f cdv) (cxOf (L2.CX P w) P w K mg base ["top", "bottom", "shared"] "_law_fraction" (defScope s__law_fraction) f cdv A outer s H E).xe := passes_of (X := cxOf (L2.CX P w) P w K mg base ["top", "bottom", "shared"] "_law_fraction" (defScope s__law_fraction) f cdv A outer s H E) rfl
  have hu1 := u1 hr
  have hu64 := u64 hr
  have hu65 := u65 hr
  exact (pss_sSeq (ps_sSet (i := 2) sc__law_fraction.nd rfl (.inl rfl) (pe_evCal C__law_gcd (hr.mono (by decide)) hgs (by rfl) tk (PA.cons' (pe_evVar (i := 0) rfl (.inl rfl)) (PA.cons' (pe_evVar (i := 1) rfl (.inl rfl)) pa_evNil)) (len_cons (len_cons (fun _ _ _ _ h => len_nil h)))))
  (pss_sOne (ps_sRet (pe_evTup (PA.cons' (pe_ev2 op_floorD (pe_evVar (i := 0) rfl (.inl rfl)) (pe_evVar (i := 2) rfl (.inl rfl))) (PA.cons' (pe_ev2 op_floorD (pe_evVar (i := 1) rfl (.inl rfl)) (pe_evVar (i := 2) rfl (.inl rfl))) pa_evNil))))))
/-! ### _law_added -/
abbrev s__law_added : Stmt := topS 35
theorem sc__law_added : FnScope ["first", "second"] ["first", "second"] (defScope s__law_added) := ⟨rfl, rfl, rfl, by decide +kernel, rfl, by decide +kernel, by decide +kernel⟩
def b__law_added : Ss := (sRet (evCall g__law_fraction (evCons (ev2 addD (ev2 mulD (ev2 subscD (evVar 0) (evC (.int 0))) (ev2 subscD (evVar 1) (evC (.int 1)))) (ev2 mulD (ev2 subscD (evVar 1) (evC (.int 0))) (ev2 subscD (evVar 0) (evC (.int 1))))) (evCons (ev2 mulD (ev2 subscD (evVar 0) (evC (.int 1))) (ev2 subscD (evVar 1) (evC (.int 1)))) evNil))))
def g__law_added : Fn := runS 2 b__law_added
theorem ok__law_added (T : Txt mg) (C__law_fraction : Cal K mg P w base "_law_fraction" 2 ["top", "bottom"] g__law_fraction) {f : Addr} {fd : FuncData} (F : FunD K "_law_added" "_law_added" (defArgs s__law_added) (defBody s__law_added) (defScope s__law_added) [] [] f fd) : FnG K mg P w base 3 f fd ["first", "second"] g__law_added := by
  refine PP.FunD.okG F sc__law_added rfl (b := b__law_added) (fun cdv A outer s H E hr hgs => ?_)
  have tk : Takes (cxOf (L2.CX P w) P w K mg base ["first", "second"] "_law_added" (defScope s__law_added) f cdv A outer s H E) (fun cls d _ H => E cls d H) := takes_of rfl rfl rfl rfl
  have hp : PassesOwn (model P w) (A.deeper (envOfC "_law_added" (defScope s__law_added) s.heap.objs.size f cdv)) (envOfC "_law_added" (defScope s__law_added) s.heap.objs.size f cdv) (cxOf (L2.CX P w) P w K mg base ["first", "second"] "_law_added" (defScope s__law_added) f cdv A outer s H E).xe := passes_of (X := cxOf (L2.CX P w) P w K mg base ["first", "second"] "_law_added" (defScope s__law_added) f cdv A outer s H E) rfl
  have hu1 := u1 hr
  have hu64 := u64 hr
  have hu65 := u65 hr
  exact (pss_sOne (ps_sRet (pe_evCal C__law_fraction (hr.mono (by decide)) hgs (by rfl) tk (PA.cons' (pe_ev2 op_addD (pe_ev2 op_mulD (pe_ix2 (ix_subscD hu1) (pe_evVar (i := 0) rfl (.inl rfl)) pe_evInt (fun _ _ => rfl)) (pe_ix2 (ix_subscD hu1) (pe_evVar (i := 1) rfl (.inl rfl)) pe_evInt (fun _ _ => rfl))) (pe_ev2 op_mulD (pe_ix2 (ix_subscD hu1) (pe_evVar (i := 1) rfl (.inl rfl)) pe_evInt (fun _ _ => rfl)) (pe_ix2 (ix_subscD hu1) (pe_evVar (i := 0) rfl (.inl rfl)) pe_evInt (fun _ _ => rfl)))) (PA.cons' (pe_ev2 op_mulD (pe_ix2 (ix_subscD hu1) (pe_evVar (i := 0) rfl (.inl rfl)) pe_evInt (fun _ _ => rfl)) (pe_ix2 (ix_subscD hu1) (pe_evVar (i := 1) rfl (.inl rfl)) pe_evInt (fun _ _ => rfl))) pa_evNil)) (len_cons (len_cons (fun _ _ _ _ h => len_nil h))))))
/-! ### _law_worth_from -/
abbrev s__law_worth_from : Stmt := topS 36
theorem sc__law_worth_from : FnScope ["terms", "found", "order", "top", "bottom"] ["terms"] (defScope s__law_worth_from) := ⟨rfl, rfl, rfl, by decide +kernel, rfl, by decide +kernel, by decide +kernel⟩
def b__law_worth_from : Ss := (sSeq (sSet 1 mkDct)
 (sSeq (sFor (evSrc (evVar 0)) (tgT 3 (tgsCons (tgN 2) (tgsCons (tgN 3) (tgsCons (tgN 4) tgsNil))))
 (sSub putD (evVar 1) (evVar 2) (evCall g__law_added (evCons (evGet2 (evVar 1) (evVar 2) (evL mkTup (evCons (evC (.int 0)) (evCons (evC (.int 1)) evNil)))) (evCons (evCall g__law_fraction (evCons (evVar 3) (evCons (evVar 4) evNil))) evNil)))))
 (sRet (evL tupleD (evCons (evLc (evSrc (evL sortedD (evCons (evVar 1) evNil))) (tgN 2) [2] (evTB (ev2 neX (ev2 subscD (ev2 subscD (evVar 1) (evVar 2)) (evC (.int 0))) (evC (.int 0)))) (ev2 addD (evL mkTup (evCons (evVar 2) evNil)) (ev2 subscD (evVar 1) (evVar 2)))) evNil)))))
def g__law_worth_from : Fn := runS 5 b__law_worth_from
theorem ok__law_worth_from (T : Txt mg) (C__law_added : Cal K mg P w base "_law_added" 3 ["first", "second"] g__law_added) (C__law_fraction : Cal K mg P w base "_law_fraction" 2 ["top", "bottom"] g__law_fraction) {f : Addr} {fd : FuncData} (F : FunD K "_law_worth_from" "_law_worth_from" (defArgs s__law_worth_from) (defBody s__law_worth_from) (defScope s__law_worth_from) [] [] f fd) : FnG K mg P w base 4 f fd ["terms"] g__law_worth_from := by
  refine PP.FunD.okG F sc__law_worth_from rfl (b := b__law_worth_from) (fun cdv A outer s H E hr hgs => ?_)
  have tk : Takes (cxOf (L2.CX P w) P w K mg base ["terms", "found", "order", "top", "bottom"] "_law_worth_from" (defScope s__law_worth_from) f cdv A outer s H E) (fun cls d _ H => E cls d H) := takes_of rfl rfl rfl rfl
  have hp : PassesOwn (model P w) (A.deeper (envOfC "_law_worth_from" (defScope s__law_worth_from) s.heap.objs.size f cdv)) (envOfC "_law_worth_from" (defScope s__law_worth_from) s.heap.objs.size f cdv) (cxOf (L2.CX P w) P w K mg base ["terms", "found", "order", "top", "bottom"] "_law_worth_from" (defScope s__law_worth_from) f cdv A outer s H E).xe := passes_of (X := cxOf (L2.CX P w) P w K mg base ["terms", "found", "order", "top", "bottom"] "_law_worth_from" (defScope s__law_worth_from) f cdv A outer s H E) rfl
  have hu1 := u1 hr
  have hu64 := u64 hr
  have hu65 := u65 hr
  exact (pss_sSeq (ps_sSet (i := 1) sc__law_worth_from.nd rfl (.inr rfl) pe_evDct)
  (pss_sSeq (ps_sFor (sl := [2, 3, 4]) hp rfl (pi_src (pe_evVar (i := 0) rfl (.inl rfl))) (pg_tgT rfl (pgs_tgCons (pg_tgN (i := 2) sc__law_worth_from.nd rfl (.inl rfl)) (pgs_tgCons (pg_tgN (i := 3) sc__law_worth_from.nd rfl (.inl rfl)) (pgs_tgCons (pg_tgN (i := 4) sc__law_worth_from.nd rfl (.inl rfl)) pgs_tgNil)))) (pss_sOne (ps_sSub (set_putD hu1) (pe_evVar (i := 1) rfl (.inr (.inl rfl))) (pe_evVar (i := 2) rfl (.inl rfl)) (pe_evCal C__law_added (hr.mono (by decide)) hgs (by rfl) tk (PA.cons' (pe_evGet2 hu1 (pe_evVar (i := 1) rfl (.inr (.inl rfl))) (pe_evVar (i := 2) rfl (.inl rfl)) (pe_evTup (PA.cons' pe_evInt (PA.cons' pe_evInt pa_evNil))) ⟨by rfl, by rfl, by rfl, by rfl⟩) (PA.cons' (pe_evCal C__law_fraction (hr.mono (by decide)) hgs (by rfl) tk (PA.cons' (pe_evVar (i := 3) rfl (.inl rfl)) (PA.cons' (pe_evVar (i := 4) rfl (.inl rfl)) pa_evNil)) (len_cons (len_cons (fun _ _ _ _ h => len_nil h)))) pa_evNil)) (len_cons (len_cons (fun _ _ _ _ h => len_nil h)))))))
  (pss_sOne (ps_sRet (pe_evBT (cr_tupleD) (by rfl) T.tuple' (by decide +kernel) (PA.cons' (pe_evLc (own := [("order", 2)]) (sl := [2]) rfl sc__law_worth_from.nd (pi_src (pe_evB (cr_sortedD rfl hu64) (by rfl) T.sorted' (by decide +kernel) (PA.cons' (pe_evVar (i := 1) rfl (.inr (.inl rfl))) pa_evNil))) (blk_of (N := ["terms", "found", "order", "top", "bottom"]) (sc := defScope s__law_worth_from) (by decide +kernel)) (by decide) (fun _ _ _ _ _ => (pg_tgN (i := 2) sc__law_worth_from.nd rfl (.inl rfl))) (fun _ _ _ _ _ => (pts_one (pt_cmp2 (op_neX hu64) (pe_ix2 (ix_subscD hu1) (pe_ix2 (ix_subscD hu1) (pe_evVar (i := 1) rfl (.inr (.inl rfl))) (pe_evVar (i := 2) rfl (.inl rfl)) (fun _ _ => rfl)) pe_evInt (fun _ _ => rfl)) pe_evInt (nomark _)))) (fun _ _ _ _ _ => (pe_ev2 op_addD (pe_evTup (PA.cons' (pe_evVar (i := 2) rfl (.inl rfl)) pa_evNil)) (pe_ix2 (ix_subscD hu1) (pe_evVar (i := 1) rfl (.inr (.inl rfl))) (pe_evVar (i := 2) rfl (.inl rfl)) (fun _ _ => rfl))))) pa_evNil))))))
/-! ### _law_rate -/
abbrev s__law_rate : Stmt := topS 39
theorem sc__law_rate : FnScope ["pen", "orders", "order", "first", "more", "lap"] ["pen", "orders"] (defScope s__law_rate) := ⟨rfl, rfl, rfl, by decide +kernel, rfl, by decide +kernel, by decide +kernel⟩
def b__law_rate : Ss := (sSeq (sSet 2 (evCall g__law_draw (evCons (evVar 0) (evCons (evVar 1) evNil))))
 (sSeq (sSet 3 (evL mkLst (evCons (evL mkTup (evCons (evVar 2) (evCons (evCall g__law_number (evCons (evVar 0) evNil)) (evCons (evCall g__law_pick (evCons (evVar 0) (evCons (evL mkLst (evCons (evC (.int 1)) (evCons (evC (.int 1)) (evCons (evC (.int 1)) (evCons (evC (.int 2)) (evCons (evC (.int 5)) evNil)))))) evNil))) evNil)))) evNil)))
 (sSeq (sSet 4 (evL mkLst evNil))
 (sSeq (sFor (evRg1 (evCons (evCall g__law_pick (evCons (evVar 0) (evCons (evL mkLst (evCons (evC (.int 0)) (evCons (evC (.int 0)) (evCons (evC (.int 0)) (evCons (evC (.int 1)) (evCons (evC (.int 2)) evNil)))))) evNil))) evNil)) (tgN 5)
 (sExpr (evM isLst appendM (evVar 4) (evCons (evL mkTup (evCons (ev2 addD (ev2 addD (evVar 2) (evC (.int 1))) (evCall g__law_draw (evCons (evVar 0) (evCons (evC (.int 3)) evNil)))) (evCons (ev2 mulD (evCall g__law_number (evCons (evVar 0) evNil)) (evCall g__law_pick (evCons (evVar 0) (evCons (evL mkLst (evCons (evC (.int 1)) (evCons (ev1 negD (evC (.int 1))) evNil))) evNil)))) (evCons (ev2 addD (evC (.int 1)) (evCall g__law_draw (evCons (evVar 0) (evCons (evC (.int 3)) evNil)))) evNil)))) evNil))))
 (sRet (evCall g__law_worth_from (evCons (ev2 addD (evVar 3) (evVar 4)) evNil)))))))
def g__law_rate : Fn := runS 6 b__law_rate
theorem ok__law_rate (T : Txt mg) (C__law_draw : Cal K mg P w base "_law_draw" 1 ["pen", "many"] g__law_draw) (C__law_pick : Cal K mg P w base "_law_pick" 2 ["pen", "some"] g__law_pick) (C__law_number : Cal K mg P w base "_law_number" 3 ["pen"] g__law_number) (C__law_worth_from : Cal K mg P w base "_law_worth_from" 4 ["terms"] g__law_worth_from) {f : Addr} {fd : FuncData} (F : FunD K "_law_rate" "_law_rate" (defArgs s__law_rate) (defBody s__law_rate) (defScope s__law_rate) [] [] f fd) : FnG K mg P w base 5 f fd ["pen", "orders"] g__law_rate := by
  refine PP.FunD.okG F sc__law_rate rfl (b := b__law_rate) (fun cdv A outer s H E hr hgs => ?_)
  have tk : Takes (cxOf (L2.CX P w) P w K mg base ["pen", "orders", "order", "first", "more", "lap"] "_law_rate" (defScope s__law_rate) f cdv A outer s H E) (fun cls d _ H => E cls d H) := takes_of rfl rfl rfl rfl
  have hp : PassesOwn (model P w) (A.deeper (envOfC "_law_rate" (defScope s__law_rate) s.heap.objs.size f cdv)) (envOfC "_law_rate" (defScope s__law_rate) s.heap.objs.size f cdv) (cxOf (L2.CX P w) P w K mg base ["pen", "orders", "order", "first", "more", "lap"] "_law_rate" (defScope s__law_rate) f cdv A outer s H E).xe := passes_of (X := cxOf (L2.CX P w) P w K mg base ["pen", "orders", "order", "first", "more", "lap"] "_law_rate" (defScope s__law_rate) f cdv A outer s H E) rfl
  have hu1 := u1 hr
  have hu64 := u64 hr
  have hu65 := u65 hr
  exact (pss_sSeq (ps_sSet (i := 2) sc__law_rate.nd rfl (.inl rfl) (pe_evCal C__law_draw (hr.mono (by decide)) hgs (by rfl) tk (PA.cons' (pe_evVar (i := 0) rfl (.inl rfl)) (PA.cons' (pe_evVar (i := 1) rfl (.inl rfl)) pa_evNil)) (len_cons (len_cons (fun _ _ _ _ h => len_nil h)))))
  (pss_sSeq (ps_sSet (i := 3) sc__law_rate.nd rfl (.inl rfl) (pe_evLst (PA.cons' (pe_evTup (PA.cons' (pe_evVar (i := 2) rfl (.inl rfl)) (PA.cons' (pe_evCal C__law_number (hr.mono (by decide)) hgs (by rfl) tk (PA.cons' (pe_evVar (i := 0) rfl (.inl rfl)) pa_evNil) (len_cons (fun _ _ _ _ h => len_nil h))) (PA.cons' (pe_evCal C__law_pick (hr.mono (by decide)) hgs (by rfl) tk (PA.cons' (pe_evVar (i := 0) rfl (.inl rfl)) (PA.cons' (pe_evLst (PA.cons' pe_evInt (PA.cons' pe_evInt (PA.cons' pe_evInt (PA.cons' pe_evInt (PA.cons' pe_evInt pa_evNil)))))) pa_evNil)) (len_cons (len_cons (fun _ _ _ _ h => len_nil h)))) pa_evNil)))) pa_evNil)))
  (pss_sSeq (ps_sSet (i := 4) sc__law_rate.nd rfl (.inl rfl) (pe_evLst pa_evNil))
  (pss_sSeq (ps_sFor (sl := [5]) hp rfl (pi_rg1 (by rfl) T.range' (PA.cons' (pe_evCal C__law_pick (hr.mono (by decide)) hgs (by rfl) tk (PA.cons' (pe_evVar (i := 0) rfl (.inl rfl)) (PA.cons' (pe_evLst (PA.cons' pe_evInt (PA.cons' pe_evInt (PA.cons' pe_evInt (PA.cons' pe_evInt (PA.cons' pe_evInt pa_evNil)))))) pa_evNil)) (len_cons (len_cons (fun _ _ _ _ h => len_nil h)))) pa_evNil)) (pg_tgN (i := 5) sc__law_rate.nd rfl (.inl rfl)) (pss_sOne (ps_sExpr (pe_evM ty_lst PySem.F.plainAttrs_list PySem.F.slot_list_append PySem.F.type_list_append mt_appendM (pe_evVar (i := 4) rfl (.inl rfl)) (PA.cons' (pe_evTup (PA.cons' (pe_ev2 op_addD (pe_ev2 op_addD (pe_evVar (i := 2) rfl (.inl rfl)) pe_evInt) (pe_evCal C__law_draw (hr.mono (by decide)) hgs (by rfl) tk (PA.cons' (pe_evVar (i := 0) rfl (.inl rfl)) (PA.cons' pe_evInt pa_evNil)) (len_cons (len_cons (fun _ _ _ _ h => len_nil h))))) (PA.cons' (pe_ev2 op_mulD (pe_evCal C__law_number (hr.mono (by decide)) hgs (by rfl) tk (PA.cons' (pe_evVar (i := 0) rfl (.inl rfl)) pa_evNil) (len_cons (fun _ _ _ _ h => len_nil h))) (pe_evCal C__law_pick (hr.mono (by decide)) hgs (by rfl) tk (PA.cons' (pe_evVar (i := 0) rfl (.inl rfl)) (PA.cons' (pe_evLst (PA.cons' pe_evInt (PA.cons' (pe_ev1 un_negD pe_evInt) pa_evNil))) pa_evNil)) (len_cons (len_cons (fun _ _ _ _ h => len_nil h))))) (PA.cons' (pe_ev2 op_addD pe_evInt (pe_evCal C__law_draw (hr.mono (by decide)) hgs (by rfl) tk (PA.cons' (pe_evVar (i := 0) rfl (.inl rfl)) (PA.cons' pe_evInt pa_evNil)) (len_cons (len_cons (fun _ _ _ _ h => len_nil h))))) pa_evNil)))) pa_evNil)))))
  (pss_sOne (ps_sRet (pe_evCal C__law_worth_from (hr.mono (by decide)) hgs (by rfl) tk (PA.cons' (pe_ev2 op_addD (pe_evVar (i := 3) rfl (.inl rfl)) (pe_evVar (i := 4) rfl (.inl rfl))) pa_evNil) (len_cons (fun _ _ _ _ h => len_nil h)))))))))
/-! ### _law_web -/
abbrev s__law_web : Stmt := topS 41
theorem sc__law_web : FnScope ["pen", "names", "share", "orders", "found", "one", "two"] ["pen", "names", "share", "orders"] (defScope s__law_web) := ⟨rfl, rfl, rfl, by decide +kernel, rfl, by decide +kernel, by decide +kernel⟩
def b__law_web : Ss := (sSeq (sSet 4 (evL mkLst evNil))
 (sSeq (sFor (evSrc (evVar 1)) (tgN 5)
 (sFor (evSrc (evVar 1)) (tgN 6)
 (sIf (tand (evTB (ev2 neX (evVar 5) (evVar 6))) (evTB (ev2 ltD (evCall g__law_draw (evCons (evVar 0) (evCons (evC (.int 8)) evNil))) (evVar 2))))
 (sExpr (evM isLst appendM (evVar 4) (evCons (evL mkTup (evCons (evVar 5) (evCons (evCall g__law_rate (evCons (evVar 0) (evCons (evVar 3) evNil))) (evCons (evVar 6) evNil)))) evNil)))
 sNext)))
 (sRet (evL mkTup (evCons (evL tupleD (evCons (evVar 1) evNil)) (evCons (evL tupleD (evCons (evVar 4) evNil)) evNil))))))
def g__law_web : Fn := runS 7 b__law_web
theorem ok__law_web (T : Txt mg) (C__law_draw : Cal K mg P w base "_law_draw" 1 ["pen", "many"] g__law_draw) (C__law_rate : Cal K mg P w base "_law_rate" 5 ["pen", "orders"] g__law_rate) {f : Addr} {fd : FuncData} (F : FunD K "_law_web" "_law_web" (defArgs s__law_web) (defBody s__law_web) (defScope s__law_web) [] [] f fd) : FnG K mg P w base 6 f fd ["pen", "names", "share", "orders"] g__law_web := by
  refine PP.FunD.okG F sc__law_web rfl (b := b__law_web) (fun cdv A outer s H E hr hgs => ?_)
  have tk : Takes (cxOf (L2.CX P w) P w K mg base ["pen", "names", "share", "orders", "found", "one", "two"] "_law_web" (defScope s__law_web) f cdv A outer s H E) (fun cls d _ H => E cls d H) := takes_of rfl rfl rfl rfl
  have hp : PassesOwn (model P w) (A.deeper (envOfC "_law_web" (defScope s__law_web) s.heap.objs.size f cdv)) (envOfC "_law_web" (defScope s__law_web) s.heap.objs.size f cdv) (cxOf (L2.CX P w) P w K mg base ["pen", "names", "share", "orders", "found", "one", "two"] "_law_web" (defScope s__law_web) f cdv A outer s H E).xe := passes_of (X := cxOf (L2.CX P w) P w K mg base ["pen", "names", "share", "orders", "found", "one", "two"] "_law_web" (defScope s__law_web) f cdv A outer s H E) rfl
  have hu1 := u1 hr
  have hu64 := u64 hr
  have hu65 := u65 hr
  exact (pss_sSeq (ps_sSet (i := 4) sc__law_web.nd rfl (.inl rfl) (pe_evLst pa_evNil))
  (pss_sSeq (ps_sFor (sl := [5]) hp rfl (pi_src (pe_evVar (i := 1) rfl (.inl rfl))) (pg_tgN (i := 5) sc__law_web.nd rfl (.inl rfl)) (pss_sOne (ps_sFor (sl := [6]) hp rfl (pi_src (pe_evVar (i := 1) rfl (.inl rfl))) (pg_tgN (i := 6) sc__law_web.nd rfl (.inl rfl)) (pss_sOne (ps_sIf (PW.pt (pw_tand (pt_cmp2 (op_neX hu64) (pe_evVar (i := 5) rfl (.inl rfl)) (pe_evVar (i := 6) rfl (.inl rfl)) (nomark _)) (pw_and1 (pt_cmp2 (op_ltDd hu64) (pe_evCal C__law_draw (hr.mono (by decide)) hgs (by rfl) tk (PA.cons' (pe_evVar (i := 0) rfl (.inl rfl)) (PA.cons' pe_evInt pa_evNil)) (len_cons (len_cons (fun _ _ _ _ h => len_nil h)))) (pe_evVar (i := 2) rfl (.inl rfl)) (nomark _))))) (pss_sOne (ps_sExpr (pe_evM ty_lst PySem.F.plainAttrs_list PySem.F.slot_list_append PySem.F.type_list_append mt_appendM (pe_evVar (i := 4) rfl (.inl rfl)) (PA.cons' (pe_evTup (PA.cons' (pe_evVar (i := 5) rfl (.inl rfl)) (PA.cons' (pe_evCal C__law_rate (hr.mono (by decide)) hgs (by rfl) tk (PA.cons' (pe_evVar (i := 0) rfl (.inl rfl)) (PA.cons' (pe_evVar (i := 3) rfl (.inl rfl)) pa_evNil)) (len_cons (len_cons (fun _ _ _ _ h => len_nil h)))) (PA.cons' (pe_evVar (i := 6) rfl (.inl rfl)) pa_evNil)))) pa_evNil)))) pss_sNil)))))
  (pss_sOne (ps_sRet (pe_evTup (PA.cons' (pe_evBT (cr_tupleD) (by rfl) T.tuple' (by decide +kernel) (PA.cons' (pe_evVar (i := 1) rfl (.inl rfl)) pa_evNil)) (PA.cons' (pe_evBT (cr_tupleD) (by rfl) T.tuple' (by decide +kernel) (PA.cons' (pe_evVar (i := 4) rfl (.inl rfl)) pa_evNil)) pa_evNil)))))))
/-! ### _law_names -/
abbrev s__law_names : Stmt := topS 40
theorem sc__law_names : FnScope ["pen", "many", "k", "found", "unlike", "signs", "tail", "name", "j"] ["pen", "many"] (defScope s__law_names) := ⟨rfl, rfl, rfl, by decide +kernel, rfl, by decide +kernel, by decide +kernel⟩
def b__law_names : Ss := (sSeq (sTg (tgT 2 (tgsCons (tgN 5) (tgsCons (tgN 3) tgsNil))) (evL mkTup (evCons (evC (.str "abcdefghijklmnopqrstuvwxyz0123456789")) (evCons (evL mkLst evNil) evNil))))
 (sSeq (sFor (evRg1 (evCons (evVar 1) evNil)) (tgN 2)
 (sSeq (sSet 6 (evM isStr joinM (evC (.str "")) (evCons (evLc (evRg1 (evCons (evCall g__law_pick (evCons (evVar 0) (evCons (evL mkLst (evCons (evC (.int 0)) (evCons (evC (.int 0)) (evCons (evC (.int 1)) (evCons (evC (.int 3)) (evCons (evC (.int 9)) evNil)))))) evNil))) evNil)) (tgN 8) [8] tyes (ev2 subscD (evVar 5) (evCall g__law_draw (evCons (evVar 0) (evCons (evC (.int 36)) evNil))))) evNil)))
 (sExpr (evM isLst appendM (evVar 3) (evCons (ev2 addD (ev2 addD (ev2 subscD (evVar 5) (evCall g__law_draw (evCons (evVar 0) (evCons (evC (.int 26)) evNil)))) (evVar 6)) (ev2 subscD (evVar 5) (evVar 2))) evNil)))))
 (sSeq (sSet 3 (evLc (evSrc (evVar 3)) (tgN 7) [7] tyes (evIf (evTB (ev2 neX (evVar 7) (evC (.str "state")))) (evVar 7) (evC (.str "stat9")))))
 (sSeq (sSet 4 (ev2 eqX (evL lenD (evCons (evL dictD (evCons (evLc (evSrc (evVar 3)) (tgN 7) [7] tyes (evL mkTup (evCons (evVar 7) (evCons (evC (.bl true)) evNil)))) evNil)) evNil)) (evVar 1)))
 (sRet (evIf (evT (evVar 4)) (evL sortedD (evCons (evVar 3) evNil)) (evLc (evRg1 (evCons (evVar 1) evNil)) (tgN 2) [2] tyes (ev2 addD (evC (.str "n")) (ev2 subscD (evVar 5) (evVar 2))))))))))
def g__law_names : Fn := runS 9 b__law_names
theorem ok__law_names (T : Txt mg) (C__law_pick : Cal K mg P w base "_law_pick" 2 ["pen", "some"] g__law_pick) (C__law_draw : Cal K mg P w base "_law_draw" 1 ["pen", "many"] g__law_draw) {f : Addr} {fd : FuncData} (F : FunD K "_law_names" "_law_names" (defArgs s__law_names) (defBody s__law_names) (defScope s__law_names) [] [] f fd) : FnG K mg P w base 3 f fd ["pen", "many"] g__law_names := by
  refine PP.FunD.okG F sc__law_names rfl (b := b__law_names) (fun cdv A outer s H E hr hgs => ?_)
  have tk : Takes (cxOf (L2.CX P w) P w K mg base ["pen", "many", "k", "found", "unlike", "signs", "tail", "name", "j"] "_law_names" (defScope s__law_names) f cdv A outer s H E) (fun cls d _ H => E cls d H) := takes_of rfl rfl rfl rfl
  have hp : PassesOwn (model P w) (A.deeper (envOfC "_law_names" (defScope s__law_names) s.heap.objs.size f cdv)) (envOfC "_law_names" (defScope s__law_names) s.heap.objs.size f cdv) (cxOf (L2.CX P w) P w K mg base ["pen", "many", "k", "found", "unlike", "signs", "tail", "name", "j"] "_law_names" (defScope s__law_names) f cdv A outer s H E).xe := passes_of (X := cxOf (L2.CX P w) P w K mg base ["pen", "many", "k", "found", "unlike", "signs", "tail", "name", "j"] "_law_names" (defScope s__law_names) f cdv A outer s H E) rfl
  have hu1 := u1 hr
  have hu64 := u64 hr
  have hu65 := u65 hr
  exact (pss_sSeq (ps_sTg (pe_evTup (PA.cons' pe_evStr (PA.cons' (pe_evLst pa_evNil) pa_evNil))) (pg_tgT rfl (pgs_tgCons (pg_tgN (i := 5) sc__law_names.nd rfl (.inr rfl)) (pgs_tgCons (pg_tgN (i := 3) sc__law_names.nd rfl (.inl rfl)) pgs_tgNil))))
  (pss_sSeq (ps_sFor (sl := [2]) hp rfl (pi_rg1 (by rfl) T.range' (PA.cons' (pe_evVar (i := 1) rfl (.inl rfl)) pa_evNil)) (pg_tgN (i := 2) sc__law_names.nd rfl (.inl rfl)) (pss_sSeq (ps_sSet (i := 6) sc__law_names.nd rfl (.inl rfl) (pe_evM ty_str PySem.F.plainAttrs_str PySem.F.slot_str_join PySem.F.type_str_join mt_joinM pe_evStr (PA.cons' (pe_evLc (own := [("j", 8)]) (sl := [8]) rfl sc__law_names.nd (pi_rg1 (by rfl) T.range' (PA.cons' (pe_evCal C__law_pick (hr.mono (by decide)) hgs (by rfl) tk (PA.cons' (pe_evVar (i := 0) rfl (.inr (.inl rfl))) (PA.cons' (pe_evLst (PA.cons' pe_evInt (PA.cons' pe_evInt (PA.cons' pe_evInt (PA.cons' pe_evInt (PA.cons' pe_evInt pa_evNil)))))) pa_evNil)) (len_cons (len_cons (fun _ _ _ _ h => len_nil h)))) pa_evNil)) (blk_of (N := ["pen", "many", "k", "found", "unlike", "signs", "tail", "name", "j"]) (sc := defScope s__law_names) (by decide +kernel)) (by decide) (fun _ _ _ _ _ => (pg_tgN (i := 8) sc__law_names.nd rfl (.inl rfl))) (fun _ _ _ _ _ => pts_evNil) (fun _ _ _ _ _ => (pe_ix2 (ix_subscD hu1) (pe_evVar (i := 5) rfl (.inr (.inl rfl))) (pe_evCal C__law_draw (hr.mono (by decide)) hgs (by rfl) takes_none5 (PA.cons' (pe_evVar (i := 0) rfl (.inr (.inl rfl))) (PA.cons' pe_evInt pa_evNil)) (len_cons (len_cons (fun _ _ _ _ h => len_nil h)))) (fun _ _ => rfl)))) pa_evNil)))
  (pss_sOne (ps_sExpr (pe_evM ty_lst PySem.F.plainAttrs_list PySem.F.slot_list_append PySem.F.type_list_append mt_appendM (pe_evVar (i := 3) rfl (.inl rfl)) (PA.cons' (pe_ev2 op_addD (pe_ev2 op_addD (pe_ix2 (ix_subscD hu1) (pe_evVar (i := 5) rfl (.inr (.inl rfl))) (pe_evCal C__law_draw (hr.mono (by decide)) hgs (by rfl) tk (PA.cons' (pe_evVar (i := 0) rfl (.inr (.inl rfl))) (PA.cons' pe_evInt pa_evNil)) (len_cons (len_cons (fun _ _ _ _ h => len_nil h)))) (fun _ _ => rfl)) (pe_evVar (i := 6) rfl (.inl rfl))) (pe_ix2 (ix_subscD hu1) (pe_evVar (i := 5) rfl (.inr (.inl rfl))) (pe_evVar (i := 2) rfl (.inl rfl)) (fun _ _ => rfl))) pa_evNil))))))
  (pss_sSeq (ps_sSetLc (i := 3) (own := [("name", 7)]) (sl := [7]) rfl sc__law_names.nd rfl rfl (sw_true rfl rfl rfl (by decide +kernel)) (pi_src (pe_evVar (i := 3) rfl (.inl rfl))) (blk_of (N := ["pen", "many", "k", "found", "unlike", "signs", "tail", "name", "j"]) (sc := defScope s__law_names) (by decide +kernel)) (by decide) (fun _ _ _ _ _ => (pg_tgN (i := 7) sc__law_names.nd rfl (.inl rfl))) (fun _ _ _ _ _ => pts_evNil) (fun _ _ _ _ _ => (pe_evIf (pt_cmp2 (op_neX hu64) (pe_evVar (i := 7) rfl (.inl rfl)) pe_evStr (nomark _)) (pe_evVar (i := 7) rfl (.inl rfl)) pe_evStr)))
  (pss_sSeq (ps_sSet (i := 4) sc__law_names.nd rfl (.inl rfl) (pe_cmp2 (op_eqX hu64) (pe_evB (cr_lenD) (by rfl) T.len' (by decide +kernel) (PA.cons' (pe_evBT (cr_dictD rfl) (by rfl) T.dict' (by decide +kernel) (PA.cons' (pe_evLc (own := [("name", 7)]) (sl := [7]) rfl sc__law_names.nd (pi_src (pe_evVar (i := 3) rfl (.inl rfl))) (blk_of (N := ["pen", "many", "k", "found", "unlike", "signs", "tail", "name", "j"]) (sc := defScope s__law_names) (by decide +kernel)) (by decide) (fun _ _ _ _ _ => (pg_tgN (i := 7) sc__law_names.nd rfl (.inl rfl))) (fun _ _ _ _ _ => pts_evNil) (fun _ _ _ _ _ => (pe_evTup (PA.cons' (pe_evVar (i := 7) rfl (.inl rfl)) (PA.cons' pe_evBl pa_evNil))))) pa_evNil)) pa_evNil)) (pe_evVar (i := 1) rfl (.inl rfl)) (nomark _)))
  (pss_sOne (ps_sRet (pe_evIf (pt_ev (pe_evVar (i := 4) rfl (.inl rfl)) (fun _ => rfl)) (pe_evB (cr_sortedD rfl hu64) (by rfl) T.sorted' (by decide +kernel) (PA.cons' (pe_evVar (i := 3) rfl (.inl rfl)) pa_evNil)) (pe_evLc (own := [("k", 2)]) (sl := [2]) rfl sc__law_names.nd (pi_rg1 (by rfl) T.range' (PA.cons' (pe_evVar (i := 1) rfl (.inl rfl)) pa_evNil)) (blk_of (N := ["pen", "many", "k", "found", "unlike", "signs", "tail", "name", "j"]) (sc := defScope s__law_names) (by decide +kernel)) (by decide) (fun _ _ _ _ _ => (pg_tgN (i := 2) sc__law_names.nd rfl (.inl rfl))) (fun _ _ _ _ _ => pts_evNil) (fun _ _ _ _ _ => (pe_ev2 op_addD pe_evStr (pe_ix2 (ix_subscD hu1) (pe_evVar (i := 5) rfl (.inr (.inl rfl))) (pe_evVar (i := 2) rfl (.inl rfl)) (fun _ _ => rfl))))))))))))
/-! ### _law_bound -/
abbrev s__law_bound : Stmt := topS 43
theorem sc__law_bound : FnScope ["worth", "total", "first", "most", "order", "top", "bottom"] ["worth"] (defScope s__law_bound) := ⟨rfl, rfl, rfl, by decide +kernel, rfl, by decide +kernel, by decide +kernel⟩
def b__law_bound : Ss := (sSeq (sPar 2 3 (evCons (evL mkTup (evCons (evL absD (evCons (ev2 subscD (ev2 subscD (evVar 0) (evC (.int 0))) (evC (.int 1))) evNil)) (evCons (ev2 subscD (ev2 subscD (evVar 0) (evC (.int 0))) (evC (.int 2))) evNil))) (evCons (evL mkTup (evCons (evC (.int 0)) (evCons (evC (.int 1)) evNil))) evNil)))
 (sSeq (sFor (evSrc (evSl sliceD (evVar 0) (some (evC (.int 1))) none)) (tgT 3 (tgsCons (tgN 4) (tgsCons (tgN 5) (tgsCons (tgN 6) tgsNil))))
 (sIf (evTB (ev2 gtD (ev2 mulD (evL absD (evCons (evVar 5) evNil)) (ev2 subscD (evVar 3) (evC (.int 1)))) (ev2 mulD (ev2 subscD (evVar 3) (evC (.int 0))) (evVar 6))))
 (sSet 3 (evL mkTup (evCons (evL absD (evCons (evVar 5) evNil)) (evCons (evVar 6) evNil))))
 sNext))
 (sSeq (sSet 1 (evCall g__law_added (evCons (evVar 2) (evCons (evVar 3) evNil))))
 (sRet (evCall g__law_fraction (evCons (ev2 mulD (ev2 subscD (evVar 2) (evC (.int 0))) (ev2 subscD (evVar 1) (evC (.int 1)))) (evCons (ev2 mulD (ev2 subscD (evVar 2) (evC (.int 1))) (ev2 subscD (evVar 1) (evC (.int 0)))) evNil)))))))
def g__law_bound : Fn := runS 7 b__law_bound
theorem ok__law_bound (T : Txt mg) (C__law_added : Cal K mg P w base "_law_added" 3 ["first", "second"] g__law_added) (C__law_fraction : Cal K mg P w base "_law_fraction" 2 ["top", "bottom"] g__law_fraction) {f : Addr} {fd : FuncData} (F : FunD K "_law_bound" "_law_bound" (defArgs s__law_bound) (defBody s__law_bound) (defScope s__law_bound) [] [] f fd) : FnG K mg P w base 4 f fd ["worth"] g__law_bound := by
  refine PP.FunD.okG F sc__law_bound rfl (b := b__law_bound) (fun cdv A outer s H E hr hgs => ?_)
  have tk : Takes (cxOf (L2.CX P w) P w K mg base ["worth", "total", "first", "most", "order", "top", "bottom"] "_law_bound" (defScope s__law_bound) f cdv A outer s H E) (fun cls d _ H => E cls d H) := takes_of rfl rfl rfl rfl
  have hp : PassesOwn (model P w) (A.deeper (envOfC "_law_bound" (defScope s__law_bound) s.heap.objs.size f cdv)) (envOfC "_law_bound" (defScope s__law_bound) s.heap.objs.size f cdv) (cxOf (L2.CX P w) P w K mg base ["worth", "total", "first", "most", "order", "top", "bottom"] "_law_bound" (defScope s__law_bound) f cdv A outer s H E).xe := passes_of (X := cxOf (L2.CX P w) P w K mg base ["worth", "total", "first", "most", "order", "top", "bottom"] "_law_bound" (defScope s__law_bound) f cdv A outer s H E) rfl
  have hu1 := u1 hr
  have hu64 := u64 hr
  have hu65 := u65 hr
  exact (pss_sSeq (ps_sPar (i := 2) (j := 3) rfl sc__law_bound.nd rfl rfl (by decide) rfl rfl (PA.cons' (pe_evTup (PA.cons' (pe_evB (cr_absD) (by rfl) T.abs' (by decide +kernel) (PA.cons' (pe_ix2 (ix_subscD hu1) (pe_ix2 (ix_subscD hu1) (pe_evVar (i := 0) rfl (.inl rfl)) pe_evInt (fun _ _ => rfl)) pe_evInt (fun _ _ => rfl)) pa_evNil)) (PA.cons' (pe_ix2 (ix_subscD hu1) (pe_ix2 (ix_subscD hu1) (pe_evVar (i := 0) rfl (.inl rfl)) pe_evInt (fun _ _ => rfl)) pe_evInt (fun _ _ => rfl)) pa_evNil))) (PA.cons' (pe_evTup (PA.cons' pe_evInt (PA.cons' pe_evInt pa_evNil))) pa_evNil)) (by rfl))
  (pss_sSeq (ps_sFor (sl := [4, 5, 6]) hp rfl (pi_src (pe_evSl sl_sliceD (pe_evVar (i := 0) rfl (.inl rfl)) (po_ev1 pe_evInt) po_ev0)) (pg_tgT rfl (pgs_tgCons (pg_tgN (i := 4) sc__law_bound.nd rfl (.inl rfl)) (pgs_tgCons (pg_tgN (i := 5) sc__law_bound.nd rfl (.inl rfl)) (pgs_tgCons (pg_tgN (i := 6) sc__law_bound.nd rfl (.inl rfl)) pgs_tgNil)))) (pss_sOne (ps_sIf (pt_cmp2 (op_gtDd hu64) (pe_ev2 op_mulD (pe_evB (cr_absD) (by rfl) T.abs' (by decide +kernel) (PA.cons' (pe_evVar (i := 5) rfl (.inl rfl)) pa_evNil)) (pe_ix2 (ix_subscD hu1) (pe_evVar (i := 3) rfl (.inl rfl)) pe_evInt (fun _ _ => rfl))) (pe_ev2 op_mulD (pe_ix2 (ix_subscD hu1) (pe_evVar (i := 3) rfl (.inl rfl)) pe_evInt (fun _ _ => rfl)) (pe_evVar (i := 6) rfl (.inl rfl))) (nomark _)) (pss_sOne (ps_sSet (i := 3) sc__law_bound.nd rfl (.inl rfl) (pe_evTup (PA.cons' (pe_evB (cr_absD) (by rfl) T.abs' (by decide +kernel) (PA.cons' (pe_evVar (i := 5) rfl (.inl rfl)) pa_evNil)) (PA.cons' (pe_evVar (i := 6) rfl (.inl rfl)) pa_evNil))))) pss_sNil)))
  (pss_sSeq (ps_sSet (i := 1) sc__law_bound.nd rfl (.inl rfl) (pe_evCal C__law_added (hr.mono (by decide)) hgs (by rfl) tk (PA.cons' (pe_evVar (i := 2) rfl (.inl rfl)) (PA.cons' (pe_evVar (i := 3) rfl (.inl rfl)) pa_evNil)) (len_cons (len_cons (fun _ _ _ _ h => len_nil h)))))
  (pss_sOne (ps_sRet (pe_evCal C__law_fraction (hr.mono (by decide)) hgs (by rfl) tk (PA.cons' (pe_ev2 op_mulD (pe_ix2 (ix_subscD hu1) (pe_evVar (i := 2) rfl (.inl rfl)) pe_evInt (fun _ _ => rfl)) (pe_ix2 (ix_subscD hu1) (pe_evVar (i := 1) rfl (.inl rfl)) pe_evInt (fun _ _ => rfl))) (PA.cons' (pe_ev2 op_mulD (pe_ix2 (ix_subscD hu1) (pe_evVar (i := 2) rfl (.inl rfl)) pe_evInt (fun _ _ => rfl)) (pe_ix2 (ix_subscD hu1) (pe_evVar (i := 1) rfl (.inl rfl)) pe_evInt (fun _ _ => rfl))) pa_evNil)) (len_cons (len_cons (fun _ _ _ _ h => len_nil h)))))))))
/-! ### _law_at -/
abbrev s__law_at : Stmt := topS 37
theorem sc__law_at : FnScope ["worth", "number", "found", "order", "top", "bottom", "lap"] ["worth", "number"] (defScope s__law_at) := ⟨rfl, rfl, rfl, by decide +kernel, rfl, by decide +kernel, by decide +kernel⟩
def b__law_at : Ss := (sSeq (sSet 2 (evL mkTup (evCons (evC (.int 0)) (evCons (evC (.int 1)) evNil))))
 (sSeq (sFor (evSrc (evVar 0)) (tgT 3 (tgsCons (tgN 3) (tgsCons (tgN 4) (tgsCons (tgN 5) tgsNil))))
 (sSeq (sFor (evRg1 (evCons (evVar 3) evNil)) (tgN 6)
 (sPar 4 5 (evCons (ev2 mulD (evVar 4) (ev2 subscD (evVar 1) (evC (.int 0)))) (evCons (ev2 mulD (evVar 5) (ev2 subscD (evVar 1) (evC (.int 1)))) evNil))))
 (sSet 2 (evCall g__law_added (evCons (evVar 2) (evCons (evCall g__law_fraction (evCons (evVar 4) (evCons (evVar 5) evNil))) evNil))))))
 (sRet (evVar 2))))
def g__law_at : Fn := runS 7 b__law_at
theorem ok__law_at (T : Txt mg) (C__law_added : Cal K mg P w base "_law_added" 3 ["first", "second"] g__law_added) (C__law_fraction : Cal K mg P w base "_law_fraction" 2 ["top", "bottom"] g__law_fraction) {f : Addr} {fd : FuncData} (F : FunD K "_law_at" "_law_at" (defArgs s__law_at) (defBody s__law_at) (defScope s__law_at) [] [] f fd) : FnG K mg P w base 4 f fd ["worth", "number"] g__law_at := by
  refine PP.FunD.okG F sc__law_at rfl (b := b__law_at) (fun cdv A outer s H E hr hgs => ?_)
  have tk : Takes (cxOf (L2.CX P w) P w K mg base ["worth", "number", "found", "order", "top", "bottom", "lap"] "_law_at" (defScope s__law_at) f cdv A outer s H E) (fun cls d _ H => E cls d H) := takes_of rfl rfl rfl rfl
  have hp : PassesOwn (model P w) (A.deeper (envOfC "_law_at" (defScope s__law_at) s.heap.objs.size f cdv)) (envOfC "_law_at" (defScope s__law_at) s.heap.objs.size f cdv) (cxOf (L2.CX P w) P w K mg base ["worth", "number", "found", "order", "top", "bottom", "lap"] "_law_at" (defScope s__law_at) f cdv A outer s H E).xe := passes_of (X := cxOf (L2.CX P w) P w K mg base ["worth", "number", "found", "order", "top", "bottom", "lap"] "_law_at" (defScope s__law_at) f cdv A outer s H E) rfl
  have hu1 := u1 hr
  have hu64 := u64 hr
  have hu65 := u65 hr
  exact (pss_sSeq (ps_sSet (i := 2) sc__law_at.nd rfl (.inl rfl) (pe_evTup (PA.cons' pe_evInt (PA.cons' pe_evInt pa_evNil))))
  (pss_sSeq (ps_sFor (sl := [3, 4, 5]) hp rfl (pi_src (pe_evVar (i := 0) rfl (.inl rfl))) (pg_tgT rfl (pgs_tgCons (pg_tgN (i := 3) sc__law_at.nd rfl (.inl rfl)) (pgs_tgCons (pg_tgN (i := 4) sc__law_at.nd rfl (.inl rfl)) (pgs_tgCons (pg_tgN (i := 5) sc__law_at.nd rfl (.inl rfl)) pgs_tgNil)))) (pss_sSeq (ps_sFor (sl := [6]) hp rfl (pi_rg1 (by rfl) T.range' (PA.cons' (pe_evVar (i := 3) rfl (.inl rfl)) pa_evNil)) (pg_tgN (i := 6) sc__law_at.nd rfl (.inl rfl)) (pss_sOne (ps_sPar (i := 4) (j := 5) rfl sc__law_at.nd rfl rfl (by decide) rfl rfl (PA.cons' (pe_ev2 op_mulD (pe_evVar (i := 4) rfl (.inl rfl)) (pe_ix2 (ix_subscD hu1) (pe_evVar (i := 1) rfl (.inl rfl)) pe_evInt (fun _ _ => rfl))) (PA.cons' (pe_ev2 op_mulD (pe_evVar (i := 5) rfl (.inl rfl)) (pe_ix2 (ix_subscD hu1) (pe_evVar (i := 1) rfl (.inl rfl)) pe_evInt (fun _ _ => rfl))) pa_evNil)) (by rfl))))
  (pss_sOne (ps_sSet (i := 2) sc__law_at.nd rfl (.inl rfl) (pe_evCal C__law_added (hr.mono (by decide)) hgs (by rfl) tk (PA.cons' (pe_evVar (i := 2) rfl (.inl rfl)) (PA.cons' (pe_evCal C__law_fraction (hr.mono (by decide)) hgs (by rfl) tk (PA.cons' (pe_evVar (i := 4) rfl (.inl rfl)) (PA.cons' (pe_evVar (i := 5) rfl (.inl rfl)) pa_evNil)) (len_cons (len_cons (fun _ _ _ _ h => len_nil h)))) pa_evNil)) (len_cons (len_cons (fun _ _ _ _ h => len_nil h))))))))
  (pss_sOne (ps_sRet (pe_evVar (i := 2) rfl (.inl rfl))))))
/-! ### is_name -/
abbrev s_is_name : Stmt := topS 10
theorem sc_is_name : FnScope ["value", "sign"] ["value"] (defScope s_is_name) := ⟨rfl, rfl, rfl, by decide +kernel, rfl, by decide +kernel, by decide +kernel⟩
def b_is_name : Ss := (sSeq (sIf (tor (tnot (evT (evL isiD (evCons (evVar 0) (evCons (evC (.ty "str")) evNil))))) (tor (tnot (evTB (evChain leD leD (evC (.int 1)) (evL lenD (evCons (evVar 0) evNil)) (evC (.int 12))))) (evTB (ev2 (inD true) (ev2 subscD (evVar 0) (evC (.int 0))) (evC (.str "abcdefghijklmnopqrstuvwxyz"))))))
 (sRet (evC (.bl false)))
 sNext)
 (sRet (evL allD (evCons (evLc (evSrc (evVar 0)) (tgN 1) [1] tyes (ev2 (inD false) (evVar 1) (evC (.str "abcdefghijklmnopqrstuvwxyz0123456789")))) evNil))))
def g_is_name : Fn := runS 2 b_is_name
theorem ok_is_name (T : Txt mg) {f : Addr} {fd : FuncData} (F : FunD K "is_name" "is_name" (defArgs s_is_name) (defBody s_is_name) (defScope s_is_name) [] [] f fd) : FnG K mg P w base 1 f fd ["value"] g_is_name := by
  refine PP.FunD.okG F sc_is_name rfl (b := b_is_name) (fun cdv A outer s H E hr hgs => ?_)
  have tk : Takes (cxOf (L2.CX P w) P w K mg base ["value", "sign"] "is_name" (defScope s_is_name) f cdv A outer s H E) (fun cls d _ H => E cls d H) := takes_of rfl rfl rfl rfl
  have hp : PassesOwn (model P w) (A.deeper (envOfC "is_name" (defScope s_is_name) s.heap.objs.size f cdv)) (envOfC "is_name" (defScope s_is_name) s.heap.objs.size f cdv) (cxOf (L2.CX P w) P w K mg base ["value", "sign"] "is_name" (defScope s_is_name) f cdv A outer s H E).xe := passes_of (X := cxOf (L2.CX P w) P w K mg base ["value", "sign"] "is_name" (defScope s_is_name) f cdv A outer s H E) rfl
  have hu1 := u1 hr
  have hu64 := u64 hr
  have hu65 := u65 hr
  exact (pss_sSeq (ps_sIf (PW.pt (pw_tor (pt_tnot (pt_ev (pe_evB (cr_isiD) (by rfl) T.isinstance' (by decide +kernel) (PA.cons' (pe_evVar (i := 0) rfl (.inl rfl)) (PA.cons' (pe_evTy (by rfl) T.str' (by decide +kernel)) pa_evNil))) (fun _ => rfl))) (pw_tor (pt_tnot (pt_evChain (op_leDd hu64) (op_leDd hu64) pe_evInt (pe_evB (cr_lenD) (by rfl) T.len' (by decide +kernel) (PA.cons' (pe_evVar (i := 0) rfl (.inl rfl)) pa_evNil)) pe_evInt)) (pw_or1 (pt_cmp2 (op_ninD' hu65) (pe_ix2 (ix_subscD hu1) (pe_evVar (i := 0) rfl (.inl rfl)) pe_evInt (fun _ _ => rfl)) (pe_evGStrE (by rfl) T.SMALL') (by with_unfolding_all rfl)))))) (pss_sOne (ps_sRet pe_evBl)) pss_sNil)
  (pss_sOne (ps_sRet (pe_evB (cr_allD rfl) (by rfl) T.all' (by decide +kernel) (PA.cons' (pe_evLc (own := [("sign", 1)]) (sl := [1]) rfl sc_is_name.nd (pi_src (pe_evVar (i := 0) rfl (.inl rfl))) (blk_of (N := ["value", "sign"]) (sc := defScope s_is_name) (by decide +kernel)) (by decide) (fun _ _ _ _ _ => (pg_tgN (i := 1) sc_is_name.nd rfl (.inl rfl))) (fun _ _ _ _ _ => pts_evNil) (fun _ _ _ _ _ => (pe_cmp2 (op_inD' hu65) (pe_evVar (i := 1) rfl (.inl rfl)) (pe_evGStrE (by rfl) T.SIGNS') (by with_unfolding_all rfl)))) pa_evNil)))))
/-! ### is_whole -/
abbrev s_is_whole : Stmt := topS 8
theorem sc_is_whole : FnScope ["value"] ["value"] (defScope s_is_whole) := ⟨rfl, rfl, rfl, by decide +kernel, rfl, by decide +kernel, by decide +kernel⟩
def b_is_whole : Ss := (sRet (evAnd (evL isiD (evCons (evVar 0) (evCons (evC (.ty "int")) evNil))) (evNot (evL isiD (evCons (evVar 0) (evCons (evC (.ty "bool")) evNil))))))
def g_is_whole : Fn := runS 1 b_is_whole
theorem ok_is_whole (T : Txt mg) {f : Addr} {fd : FuncData} (F : FunD K "is_whole" "is_whole" (defArgs s_is_whole) (defBody s_is_whole) (defScope s_is_whole) [] [] f fd) : FnG K mg P w base 1 f fd ["value"] g_is_whole := by
  refine PP.FunD.okG F sc_is_whole rfl (b := b_is_whole) (fun cdv A outer s H E hr hgs => ?_)
  have tk : Takes (cxOf (L2.CX P w) P w K mg base ["value"] "is_whole" (defScope s_is_whole) f cdv A outer s H E) (fun cls d _ H => E cls d H) := takes_of rfl rfl rfl rfl
  have hp : PassesOwn (model P w) (A.deeper (envOfC "is_whole" (defScope s_is_whole) s.heap.objs.size f cdv)) (envOfC "is_whole" (defScope s_is_whole) s.heap.objs.size f cdv) (cxOf (L2.CX P w) P w K mg base ["value"] "is_whole" (defScope s_is_whole) f cdv A outer s H E).xe := passes_of (X := cxOf (L2.CX P w) P w K mg base ["value"] "is_whole" (defScope s_is_whole) f cdv A outer s H E) rfl
  have hu1 := u1 hr
  have hu64 := u64 hr
  have hu65 := u65 hr
  exact (pss_sOne (ps_sRet (pe_evAnd (pe_evB (cr_isiD) (by rfl) T.isinstance' (by decide +kernel) (PA.cons' (pe_evVar (i := 0) rfl (.inl rfl)) (PA.cons' (pe_evTy (by rfl) T.int' (by decide +kernel)) pa_evNil))) (pe_one (pe_evNot (pe_evB (cr_isiD) (by rfl) T.isinstance' (by decide +kernel) (PA.cons' (pe_evVar (i := 0) rfl (.inl rfl)) (PA.cons' (pe_evTy (by rfl) T.bool' (by decide +kernel)) pa_evNil))))))))
/-! ### is_count -/
abbrev s_is_count : Stmt := topS 9
theorem sc_is_count : FnScope ["value"] ["value"] (defScope s_is_count) := ⟨rfl, rfl, rfl, by decide +kernel, rfl, by decide +kernel, by decide +kernel⟩
def b_is_count : Ss := (sRet (evAnd (evCall g_is_whole (evCons (evVar 0) evNil)) (ev2 geD (evVar 0) (evC (.int 0)))))
def g_is_count : Fn := runS 1 b_is_count
theorem ok_is_count (T : Txt mg) (C_is_whole : Cal K mg P w base "is_whole" 1 ["value"] g_is_whole) {f : Addr} {fd : FuncData} (F : FunD K "is_count" "is_count" (defArgs s_is_count) (defBody s_is_count) (defScope s_is_count) [] [] f fd) : FnG K mg P w base 2 f fd ["value"] g_is_count := by
  refine PP.FunD.okG F sc_is_count rfl (b := b_is_count) (fun cdv A outer s H E hr hgs => ?_)
  have tk : Takes (cxOf (L2.CX P w) P w K mg base ["value"] "is_count" (defScope s_is_count) f cdv A outer s H E) (fun cls d _ H => E cls d H) := takes_of rfl rfl rfl rfl
  have hp : PassesOwn (model P w) (A.deeper (envOfC "is_count" (defScope s_is_count) s.heap.objs.size f cdv)) (envOfC "is_count" (defScope s_is_count) s.heap.objs.size f cdv) (cxOf (L2.CX P w) P w K mg base ["value"] "is_count" (defScope s_is_count) f cdv A outer s H E).xe := passes_of (X := cxOf (L2.CX P w) P w K mg base ["value"] "is_count" (defScope s_is_count) f cdv A outer s H E) rfl
  have hu1 := u1 hr
  have hu64 := u64 hr
  have hu65 := u65 hr
  exact (pss_sOne (ps_sRet (pe_evAnd (pe_evCal C_is_whole (hr.mono (by decide)) hgs (by rfl) tk (PA.cons' (pe_evVar (i := 0) rfl (.inl rfl)) pa_evNil) (len_cons (fun _ _ _ _ h => len_nil h))) (pe_one (pe_cmp2 (op_geDd hu64) (pe_evVar (i := 0) rfl (.inl rfl)) pe_evInt (nomark _))))))
/-! ### is_fraction -/
abbrev s_is_fraction : Stmt := topS 12
theorem sc_is_fraction : FnScope ["value", "item"] ["value"] (defScope s_is_fraction) := ⟨rfl, rfl, rfl, by decide +kernel, rfl, by decide +kernel, by decide +kernel⟩
def b_is_fraction : Ss := (sSeq (sIf (tor (tnot (evT (evL isiD (evCons (evVar 0) (evCons (evC (.ty "tuple")) evNil))))) (tor (evTB (ev2 neX (evL lenD (evCons (evVar 0) evNil)) (evC (.int 2)))) (tnot (evT (evL allD (evCons (evLc (evSrc (evVar 0)) (tgN 1) [1] tyes (evCall g_is_whole (evCons (evVar 1) evNil))) evNil))))))
 (sRet (evC (.bl false)))
 sNext)
 (sRet (evAnd (ev2 geD (ev2 subscD (evVar 0) (evC (.int 1))) (evC (.int 1))) (ev2 eqX (evL gcdD (evCons (ev2 subscD (evVar 0) (evC (.int 0))) (evCons (ev2 subscD (evVar 0) (evC (.int 1))) evNil))) (evC (.int 1))))))
def g_is_fraction : Fn := runS 2 b_is_fraction
theorem ok_is_fraction (T : Txt mg) (C_is_whole : Cal K mg P w base "is_whole" 1 ["value"] g_is_whole) {f : Addr} {fd : FuncData} (F : FunD K "is_fraction" "is_fraction" (defArgs s_is_fraction) (defBody s_is_fraction) (defScope s_is_fraction) [] [] f fd) : FnG K mg P w base 2 f fd ["value"] g_is_fraction := by
  refine PP.FunD.okG F sc_is_fraction rfl (b := b_is_fraction) (fun cdv A outer s H E hr hgs => ?_)
  have tk : Takes (cxOf (L2.CX P w) P w K mg base ["value", "item"] "is_fraction" (defScope s_is_fraction) f cdv A outer s H E) (fun cls d _ H => E cls d H) := takes_of rfl rfl rfl rfl
  have hp : PassesOwn (model P w) (A.deeper (envOfC "is_fraction" (defScope s_is_fraction) s.heap.objs.size f cdv)) (envOfC "is_fraction" (defScope s_is_fraction) s.heap.objs.size f cdv) (cxOf (L2.CX P w) P w K mg base ["value", "item"] "is_fraction" (defScope s_is_fraction) f cdv A outer s H E).xe := passes_of (X := cxOf (L2.CX P w) P w K mg base ["value", "item"] "is_fraction" (defScope s_is_fraction) f cdv A outer s H E) rfl
  have hu1 := u1 hr
  have hu64 := u64 hr
  have hu65 := u65 hr
  exact (pss_sSeq (ps_sIf (PW.pt (pw_tor (pt_tnot (pt_ev (pe_evB (cr_isiD) (by rfl) T.isinstance' (by decide +kernel) (PA.cons' (pe_evVar (i := 0) rfl (.inl rfl)) (PA.cons' (pe_evTy (by rfl) T.tuple' (by decide +kernel)) pa_evNil))) (fun _ => rfl))) (pw_tor (pt_cmp2 (op_neX hu64) (pe_evB (cr_lenD) (by rfl) T.len' (by decide +kernel) (PA.cons' (pe_evVar (i := 0) rfl (.inl rfl)) pa_evNil)) pe_evInt (nomark _)) (pw_or1 (pt_tnot (pt_ev (pe_evB (cr_allD rfl) (by rfl) T.all' (by decide +kernel) (PA.cons' (pe_evLc (own := [("item", 1)]) (sl := [1]) rfl sc_is_fraction.nd (pi_src (pe_evVar (i := 0) rfl (.inl rfl))) (blk_of (N := ["value", "item"]) (sc := defScope s_is_fraction) (by decide +kernel)) (by decide) (fun _ _ _ _ _ => (pg_tgN (i := 1) sc_is_fraction.nd rfl (.inl rfl))) (fun _ _ _ _ _ => pts_evNil) (fun _ _ _ _ _ => (pe_evCal C_is_whole (hr.mono (by decide)) hgs (by rfl) takes_none5 (PA.cons' (pe_evVar (i := 1) rfl (.inl rfl)) pa_evNil) (len_cons (fun _ _ _ _ h => len_nil h))))) pa_evNil)) (fun _ => rfl))))))) (pss_sOne (ps_sRet pe_evBl)) pss_sNil)
  (pss_sOne (ps_sRet (pe_evAnd (pe_cmp2 (op_geDd hu64) (pe_ix2 (ix_subscD hu1) (pe_evVar (i := 0) rfl (.inl rfl)) pe_evInt (fun _ _ => rfl)) pe_evInt (nomark _)) (pe_one (pe_cmp2 (op_eqX hu64) (pe_evBF cr_gcdD (by rfl) T.gcd' (PA.cons' (pe_ix2 (ix_subscD hu1) (pe_evVar (i := 0) rfl (.inl rfl)) pe_evInt (fun _ _ => rfl)) (PA.cons' (pe_ix2 (ix_subscD hu1) (pe_evVar (i := 0) rfl (.inl rfl)) pe_evInt (fun _ _ => rfl)) pa_evNil))) pe_evInt (nomark _)))))))
/-! ### is_term -/
abbrev s_is_term : Stmt := topS 18
theorem sc_is_term : FnScope ["value"] ["value"] (defScope s_is_term) := ⟨rfl, rfl, rfl, by decide +kernel, rfl, by decide +kernel, by decide +kernel⟩
def b_is_term : Ss := (sSeq (sIf (tor (tnot (evT (evL isiD (evCons (evVar 0) (evCons (evC (.ty "tuple")) evNil))))) (tor (evTB (ev2 neX (evL lenD (evCons (evVar 0) evNil)) (evC (.int 3)))) (tnot (evT (evCall g_is_count (evCons (ev2 subscD (evVar 0) (evC (.int 0))) evNil))))))
 (sRet (evC (.bl false)))
 sNext)
 (sRet (evAnd (evCall g_is_fraction (evCons (evSl sliceD (evVar 0) (some (evC (.int 1))) none) evNil)) (ev2 neX (ev2 subscD (evVar 0) (evC (.int 1))) (evC (.int 0))))))
def g_is_term : Fn := runS 1 b_is_term
theorem ok_is_term (T : Txt mg) (C_is_count : Cal K mg P w base "is_count" 2 ["value"] g_is_count) (C_is_fraction : Cal K mg P w base "is_fraction" 2 ["value"] g_is_fraction) {f : Addr} {fd : FuncData} (F : FunD K "is_term" "is_term" (defArgs s_is_term) (defBody s_is_term) (defScope s_is_term) [] [] f fd) : FnG K mg P w base 3 f fd ["value"] g_is_term := by
  refine PP.FunD.okG F sc_is_term rfl (b := b_is_term) (fun cdv A outer s H E hr hgs => ?_)
  have tk : Takes (cxOf (L2.CX P w) P w K mg base ["value"] "is_term" (defScope s_is_term) f cdv A outer s H E) (fun cls d _ H => E cls d H) := takes_of rfl rfl rfl rfl
  have hp : PassesOwn (model P w) (A.deeper (envOfC "is_term" (defScope s_is_term) s.heap.objs.size f cdv)) (envOfC "is_term" (defScope s_is_term) s.heap.objs.size f cdv) (cxOf (L2.CX P w) P w K mg base ["value"] "is_term" (defScope s_is_term) f cdv A outer s H E).xe := passes_of (X := cxOf (L2.CX P w) P w K mg base ["value"] "is_term" (defScope s_is_term) f cdv A outer s H E) rfl
  have hu1 := u1 hr
  have hu64 := u64 hr
  have hu65 := u65 hr
  exact (pss_sSeq (ps_sIf (PW.pt (pw_tor (pt_tnot (pt_ev (pe_evB (cr_isiD) (by rfl) T.isinstance' (by decide +kernel) (PA.cons' (pe_evVar (i := 0) rfl (.inl rfl)) (PA.cons' (pe_evTy (by rfl) T.tuple' (by decide +kernel)) pa_evNil))) (fun _ => rfl))) (pw_tor (pt_cmp2 (op_neX hu64) (pe_evB (cr_lenD) (by rfl) T.len' (by decide +kernel) (PA.cons' (pe_evVar (i := 0) rfl (.inl rfl)) pa_evNil)) pe_evInt (nomark _)) (pw_or1 (pt_tnot (pt_ev (pe_evCal C_is_count (hr.mono (by decide)) hgs (by rfl) tk (PA.cons' (pe_ix2 (ix_subscD hu1) (pe_evVar (i := 0) rfl (.inl rfl)) pe_evInt (fun _ _ => rfl)) pa_evNil) (len_cons (fun _ _ _ _ h => len_nil h))) (fun _ => rfl))))))) (pss_sOne (ps_sRet pe_evBl)) pss_sNil)
  (pss_sOne (ps_sRet (pe_evAnd (pe_evCal C_is_fraction (hr.mono (by decide)) hgs (by rfl) tk (PA.cons' (pe_evSl sl_sliceD (pe_evVar (i := 0) rfl (.inl rfl)) (po_ev1 pe_evInt) po_ev0) pa_evNil) (len_cons (fun _ _ _ _ h => len_nil h))) (pe_one (pe_cmp2 (op_neX hu64) (pe_ix2 (ix_subscD hu1) (pe_evVar (i := 0) rfl (.inl rfl)) pe_evInt (fun _ _ => rfl)) pe_evInt (nomark _)))))))
/-! ### is_worth -/
abbrev s_is_worth : Stmt := topS 19
theorem sc_is_worth : FnScope ["value", "one", "two", "term"] ["value"] (defScope s_is_worth) := ⟨rfl, rfl, rfl, by decide +kernel, rfl, by decide +kernel, by decide +kernel⟩
def b_is_worth : Ss := (sSeq (sIf (tor (tnot (evT (evL isiD (evCons (evVar 0) (evCons (evC (.ty "tuple")) evNil))))) (tnot (evT (evL allD (evCons (evLc (evSrc (evVar 0)) (tgN 3) [3] tyes (evCall g_is_term (evCons (evVar 3) evNil))) evNil)))))
 (sRet (evC (.bl false)))
 sNext)
 (sRet (evL allD (evCons (evLc (evZp (evCons (evVar 0) (evCons (evSl sliceD (evVar 0) (some (evC (.int 1))) none) evNil))) (tgT 2 (tgsCons (tgN 1) (tgsCons (tgN 2) tgsNil))) [1, 2] tyes (ev2 ltD (ev2 subscD (evVar 1) (evC (.int 0))) (ev2 subscD (evVar 2) (evC (.int 0))))) evNil))))
def g_is_worth : Fn := runS 4 b_is_worth
theorem ok_is_worth (T : Txt mg) (C_is_term : Cal K mg P w base "is_term" 3 ["value"] g_is_term) {f : Addr} {fd : FuncData} (F : FunD K "is_worth" "is_worth" (defArgs s_is_worth) (defBody s_is_worth) (defScope s_is_worth) [] [] f fd) : FnG K mg P w base 4 f fd ["value"] g_is_worth := by
  refine PP.FunD.okG F sc_is_worth rfl (b := b_is_worth) (fun cdv A outer s H E hr hgs => ?_)
  have tk : Takes (cxOf (L2.CX P w) P w K mg base ["value", "one", "two", "term"] "is_worth" (defScope s_is_worth) f cdv A outer s H E) (fun cls d _ H => E cls d H) := takes_of rfl rfl rfl rfl
  have hp : PassesOwn (model P w) (A.deeper (envOfC "is_worth" (defScope s_is_worth) s.heap.objs.size f cdv)) (envOfC "is_worth" (defScope s_is_worth) s.heap.objs.size f cdv) (cxOf (L2.CX P w) P w K mg base ["value", "one", "two", "term"] "is_worth" (defScope s_is_worth) f cdv A outer s H E).xe := passes_of (X := cxOf (L2.CX P w) P w K mg base ["value", "one", "two", "term"] "is_worth" (defScope s_is_worth) f cdv A outer s H E) rfl
  have hu1 := u1 hr
  have hu64 := u64 hr
  have hu65 := u65 hr
  exact (pss_sSeq (ps_sIf (PW.pt (pw_tor (pt_tnot (pt_ev (pe_evB (cr_isiD) (by rfl) T.isinstance' (by decide +kernel) (PA.cons' (pe_evVar (i := 0) rfl (.inl rfl)) (PA.cons' (pe_evTy (by rfl) T.tuple' (by decide +kernel)) pa_evNil))) (fun _ => rfl))) (pw_or1 (pt_tnot (pt_ev (pe_evB (cr_allD rfl) (by rfl) T.all' (by decide +kernel) (PA.cons' (pe_evLc (own := [("term", 3)]) (sl := [3]) rfl sc_is_worth.nd (pi_src (pe_evVar (i := 0) rfl (.inl rfl))) (blk_of (N := ["value", "one", "two", "term"]) (sc := defScope s_is_worth) (by decide +kernel)) (by decide) (fun _ _ _ _ _ => (pg_tgN (i := 3) sc_is_worth.nd rfl (.inl rfl))) (fun _ _ _ _ _ => pts_evNil) (fun _ _ _ _ _ => (pe_evCal C_is_term (hr.mono (by decide)) hgs (by rfl) takes_none5 (PA.cons' (pe_evVar (i := 3) rfl (.inl rfl)) pa_evNil) (len_cons (fun _ _ _ _ h => len_nil h))))) pa_evNil)) (fun _ => rfl)))))) (pss_sOne (ps_sRet pe_evBl)) pss_sNil)
  (pss_sOne (ps_sRet (pe_evB (cr_allD rfl) (by rfl) T.all' (by decide +kernel) (PA.cons' (pe_evLc (own := [("one", 1), ("two", 2)]) (sl := [1, 2]) rfl sc_is_worth.nd (pi_zp (by rfl) T.zip' (PA.cons' (pe_evVar (i := 0) rfl (.inl rfl)) (PA.cons' (pe_evSl sl_sliceD (pe_evVar (i := 0) rfl (.inl rfl)) (po_ev1 pe_evInt) po_ev0) pa_evNil))) (blk_of (N := ["value", "one", "two", "term"]) (sc := defScope s_is_worth) (by decide +kernel)) (by decide) (fun _ _ _ _ _ => (pg_tgT rfl (pgs_tgCons (pg_tgN (i := 1) sc_is_worth.nd rfl (.inl rfl)) (pgs_tgCons (pg_tgN (i := 2) sc_is_worth.nd rfl (.inl rfl)) pgs_tgNil)))) (fun _ _ _ _ _ => pts_evNil) (fun _ _ _ _ _ => (pe_cmp2 (op_ltDd hu64) (pe_ix2 (ix_subscD hu1) (pe_evVar (i := 1) rfl (.inl rfl)) pe_evInt (fun _ _ => rfl)) (pe_ix2 (ix_subscD hu1) (pe_evVar (i := 2) rfl (.inl rfl)) pe_evInt (fun _ _ => rfl)) (nomark _)))) pa_evNil)))))
/-! ### sign_of -/
abbrev s_sign_of : Stmt := topS 20
theorem sc_sign_of : FnScope ["worth"] ["worth"] (defScope s_sign_of) := ⟨rfl, rfl, rfl, by decide +kernel, rfl, by decide +kernel, by decide +kernel⟩
def b_sign_of : Ss := (sSeq (sIf (evTB (ev2 eqX (evVar 0) (evL mkTup evNil)))
 (sRet (evC (.int 0)))
 sNext)
 (sRet (evIf (evTB (ev2 gtD (ev2 subscD (ev2 subscD (evVar 0) (evC (.int 0))) (evC (.int 1))) (evC (.int 0)))) (evC (.int 1)) (ev1 negD (evC (.int 1))))))
def g_sign_of : Fn := runS 1 b_sign_of
theorem ok_sign_of (T : Txt mg) {f : Addr} {fd : FuncData} (F : FunD K "sign_of" "sign_of" (defArgs s_sign_of) (defBody s_sign_of) (defScope s_sign_of) [] [] f fd) : FnG K mg P w base 1 f fd ["worth"] g_sign_of := by
  refine PP.FunD.okG F sc_sign_of rfl (b := b_sign_of) (fun cdv A outer s H E hr hgs => ?_)
  have tk : Takes (cxOf (L2.CX P w) P w K mg base ["worth"] "sign_of" (defScope s_sign_of) f cdv A outer s H E) (fun cls d _ H => E cls d H) := takes_of rfl rfl rfl rfl
  have hp : PassesOwn (model P w) (A.deeper (envOfC "sign_of" (defScope s_sign_of) s.heap.objs.size f cdv)) (envOfC "sign_of" (defScope s_sign_of) s.heap.objs.size f cdv) (cxOf (L2.CX P w) P w K mg base ["worth"] "sign_of" (defScope s_sign_of) f cdv A outer s H E).xe := passes_of (X := cxOf (L2.CX P w) P w K mg base ["worth"] "sign_of" (defScope s_sign_of) f cdv A outer s H E) rfl
  have hu1 := u1 hr
  have hu64 := u64 hr
  have hu65 := u65 hr
  exact (pss_sSeq (ps_sIf (pt_cmp2 (op_eqX hu64) (pe_evVar (i := 0) rfl (.inl rfl)) (pe_evTup pa_evNil) (nomark _)) (pss_sOne (ps_sRet pe_evInt)) pss_sNil)
  (pss_sOne (ps_sRet (pe_evIf (pt_cmp2 (op_gtDd hu64) (pe_ix2 (ix_subscD hu1) (pe_ix2 (ix_subscD hu1) (pe_evVar (i := 0) rfl (.inl rfl)) pe_evInt (fun _ _ => rfl)) pe_evInt (fun _ _ => rfl)) pe_evInt (nomark _)) pe_evInt (pe_ev1 un_negD pe_evInt)))))
/-! ### is_step -/
abbrev s_is_step : Stmt := topS 25
theorem sc_is_step : FnScope ["value", "names"] ["value", "names"] (defScope s_is_step) := ⟨rfl, rfl, rfl, by decide +kernel, rfl, by decide +kernel, by decide +kernel⟩
def b_is_step : Ss := (sSeq (sIf (tor (tnot (evT (evL isiD (evCons (evVar 0) (evCons (evC (.ty "tuple")) evNil))))) (tor (evTB (ev2 neX (evL lenD (evCons (evVar 0) evNil)) (evC (.int 3)))) (tor (tnot (evT (evCall g_is_name (evCons (ev2 subscD (evVar 0) (evC (.int 0))) evNil)))) (tnot (evT (evCall g_is_name (evCons (ev2 subscD (evVar 0) (evC (.int 2))) evNil)))))))
 (sRet (evC (.bl false)))
 sNext)
 (sSeq (sIf (tor (evTB (ev2 (inD true) (ev2 subscD (evVar 0) (evC (.int 0))) (evVar 1))) (tor (evTB (ev2 (inD true) (ev2 subscD (evVar 0) (evC (.int 2))) (evVar 1))) (evTB (ev2 eqX (ev2 subscD (evVar 0) (evC (.int 0))) (ev2 subscD (evVar 0) (evC (.int 2)))))))
 (sRet (evC (.bl false)))
 sNext)
 (sRet (evAnd (evCall g_is_worth (evCons (ev2 subscD (evVar 0) (evC (.int 1))) evNil)) (ev2 eqX (evCall g_sign_of (evCons (ev2 subscD (evVar 0) (evC (.int 1))) evNil)) (evC (.int 1)))))))
def g_is_step : Fn := runS 2 b_is_step
theorem ok_is_step (T : Txt mg) (C_is_name : Cal K mg P w base "is_name" 1 ["value"] g_is_name) (C_is_worth : Cal K mg P w base "is_worth" 4 ["value"] g_is_worth) (C_sign_of : Cal K mg P w base "sign_of" 1 ["worth"] g_sign_of) {f : Addr} {fd : FuncData} (F : FunD K "is_step" "is_step" (defArgs s_is_step) (defBody s_is_step) (defScope s_is_step) [] [] f fd) : FnG K mg P w base 5 f fd ["value", "names"] g_is_step := by
  refine PP.FunD.okG F sc_is_step rfl (b := b_is_step) (fun cdv A outer s H E hr hgs => ?_)
  have tk : Takes (cxOf (L2.CX P w) P w K mg base ["value", "names"] "is_step" (defScope s_is_step) f cdv A outer s H E) (fun cls d _ H => E cls d H) := takes_of rfl rfl rfl rfl
  have hp : PassesOwn (model P w) (A.deeper (envOfC "is_step" (defScope s_is_step) s.heap.objs.size f cdv)) (envOfC "is_step" (defScope s_is_step) s.heap.objs.size f cdv) (cxOf (L2.CX P w) P w K mg base ["value", "names"] "is_step" (defScope s_is_step) f cdv A outer s H E).xe := passes_of (X := cxOf (L2.CX P w) P w K mg base ["value", "names"] "is_step" (defScope s_is_step) f cdv A outer s H E) rfl
  have hu1 := u1 hr
  have hu64 := u64 hr
  have hu65 := u65 hr
  exact (pss_sSeq (ps_sIf (PW.pt (pw_tor (pt_tnot (pt_ev (pe_evB (cr_isiD) (by rfl) T.isinstance' (by decide +kernel) (PA.cons' (pe_evVar (i := 0) rfl (.inl rfl)) (PA.cons' (pe_evTy (by rfl) T.tuple' (by decide +kernel)) pa_evNil))) (fun _ => rfl))) (pw_tor (pt_cmp2 (op_neX hu64) (pe_evB (cr_lenD) (by rfl) T.len' (by decide +kernel) (PA.cons' (pe_evVar (i := 0) rfl (.inl rfl)) pa_evNil)) pe_evInt (nomark _)) (pw_tor (pt_tnot (pt_ev (pe_evCal C_is_name (hr.mono (by decide)) hgs (by rfl) tk (PA.cons' (pe_ix2 (ix_subscD hu1) (pe_evVar (i := 0) rfl (.inl rfl)) pe_evInt (fun _ _ => rfl)) pa_evNil) (len_cons (fun _ _ _ _ h => len_nil h))) (fun _ => rfl))) (pw_or1 (pt_tnot (pt_ev (pe_evCal C_is_name (hr.mono (by decide)) hgs (by rfl) tk (PA.cons' (pe_ix2 (ix_subscD hu1) (pe_evVar (i := 0) rfl (.inl rfl)) pe_evInt (fun _ _ => rfl)) pa_evNil) (len_cons (fun _ _ _ _ h => len_nil h))) (fun _ => rfl)))))))) (pss_sOne (ps_sRet pe_evBl)) pss_sNil)
  (pss_sSeq (ps_sIf (PW.pt (pw_tor (pt_cmp2 (op_ninD' hu65) (pe_ix2 (ix_subscD hu1) (pe_evVar (i := 0) rfl (.inl rfl)) pe_evInt (fun _ _ => rfl)) (pe_evVar (i := 1) rfl (.inl rfl)) (by with_unfolding_all rfl)) (pw_tor (pt_cmp2 (op_ninD' hu65) (pe_ix2 (ix_subscD hu1) (pe_evVar (i := 0) rfl (.inl rfl)) pe_evInt (fun _ _ => rfl)) (pe_evVar (i := 1) rfl (.inl rfl)) (by with_unfolding_all rfl)) (pw_or1 (pt_cmp2 (op_eqX hu64) (pe_ix2 (ix_subscD hu1) (pe_evVar (i := 0) rfl (.inl rfl)) pe_evInt (fun _ _ => rfl)) (pe_ix2 (ix_subscD hu1) (pe_evVar (i := 0) rfl (.inl rfl)) pe_evInt (fun _ _ => rfl)) (nomark _)))))) (pss_sOne (ps_sRet pe_evBl)) pss_sNil)
  (pss_sOne (ps_sRet (pe_evAnd (pe_evCal C_is_worth (hr.mono (by decide)) hgs (by rfl) tk (PA.cons' (pe_ix2 (ix_subscD hu1) (pe_evVar (i := 0) rfl (.inl rfl)) pe_evInt (fun _ _ => rfl)) pa_evNil) (len_cons (fun _ _ _ _ h => len_nil h))) (pe_one (pe_cmp2 (op_eqX hu64) (pe_evCal C_sign_of (hr.mono (by decide)) hgs (by rfl) tk (PA.cons' (pe_ix2 (ix_subscD hu1) (pe_evVar (i := 0) rfl (.inl rfl)) pe_evInt (fun _ _ => rfl)) pa_evNil) (len_cons (fun _ _ _ _ h => len_nil h))) pe_evInt (nomark _))))))))
/-! ### is_web -/
abbrev s_is_web : Stmt := topS 26
theorem sc_is_web : FnScope ["value", "pairs", "names", "steps", "one", "worth", "two", "step", "name"] ["value"] (defScope s_is_web) := ⟨rfl, rfl, rfl, by decide +kernel, rfl, by decide +kernel, by decide +kernel⟩
def b_is_web : Ss := (sSeq (sIf (tor (tnot (evT (evL isiD (evCons (evVar 0) (evCons (evC (.ty "tuple")) evNil))))) (evTB (ev2 neX (evL lenD (evCons (evVar 0) evNil)) (evC (.int 2)))))
 (sRet (evC (.bl false)))
 sNext)
 (sSeq (sTg (tgT 2 (tgsCons (tgN 2) (tgsCons (tgN 3) tgsNil))) (evVar 0))
 (sSeq (sIf (tor (tnot (evT (evL isiD (evCons (evVar 2) (evCons (evC (.ty "tuple")) evNil))))) (tor (evTB (ev2 eqX (evL lenD (evCons (evVar 2) evNil)) (evC (.int 0)))) (tnot (evT (evL isiD (evCons (evVar 3) (evCons (evC (.ty "tuple")) evNil)))))))
 (sRet (evC (.bl false)))
 sNext)
 (sSeq (sIf (tor (tnot (evT (evL allD (evCons (evLc (evSrc (evVar 2)) (tgN 8) [8] tyes (evCall g_is_name (evCons (evVar 8) evNil))) evNil)))) (tnot (evT (evL allD (evCons (evLc (evZp (evCons (evVar 2) (evCons (evSl sliceD (evVar 2) (some (evC (.int 1))) none) evNil))) (tgT 2 (tgsCons (tgN 4) (tgsCons (tgN 6) tgsNil))) [4, 6] tyes (ev2 ltD (evVar 4) (evVar 6))) evNil)))))
 (sRet (evC (.bl false)))
 sNext)
 (sSeq (sIf (tnot (evT (evL allD (evCons (evLc (evSrc (evVar 3)) (tgN 7) [7] tyes (evCall g_is_step (evCons (evVar 7) (evCons (evVar 2) evNil)))) evNil))))
 (sRet (evC (.bl false)))
 sNext)
 (sSeq (sSet 1 (evLc (evSrc (evVar 3)) (tgT 3 (tgsCons (tgN 4) (tgsCons (tgN 5) (tgsCons (tgN 6) tgsNil)))) [4, 5, 6] tyes (evL mkTup (evCons (evVar 4) (evCons (evVar 6) evNil)))))
 (sRet (evL allD (evCons (evLc (evZp (evCons (evVar 1) (evCons (evSl sliceD (evVar 1) (some (evC (.int 1))) none) evNil))) (tgT 2 (tgsCons (tgN 4) (tgsCons (tgN 6) tgsNil))) [4, 6] tyes (ev2 ltD (evVar 4) (evVar 6))) evNil)))))))))
def g_is_web : Fn := runS 9 b_is_web
theorem ok_is_web (T : Txt mg) (C_is_name : Cal K mg P w base "is_name" 1 ["value"] g_is_name) (C_is_step : Cal K mg P w base "is_step" 5 ["value", "names"] g_is_step) {f : Addr} {fd : FuncData} (F : FunD K "is_web" "is_web" (defArgs s_is_web) (defBody s_is_web) (defScope s_is_web) [] [] f fd) : FnG K mg P w base 6 f fd ["value"] g_is_web := by
  refine PP.FunD.okG F sc_is_web rfl (b := b_is_web) (fun cdv A outer s H E hr hgs => ?_)
  have tk : Takes (cxOf (L2.CX P w) P w K mg base ["value", "pairs", "names", "steps", "one", "worth", "two", "step", "name"] "is_web" (defScope s_is_web) f cdv A outer s H E) (fun cls d _ H => E cls d H) := takes_of rfl rfl rfl rfl
  have hp : PassesOwn (model P w) (A.deeper (envOfC "is_web" (defScope s_is_web) s.heap.objs.size f cdv)) (envOfC "is_web" (defScope s_is_web) s.heap.objs.size f cdv) (cxOf (L2.CX P w) P w K mg base ["value", "pairs", "names", "steps", "one", "worth", "two", "step", "name"] "is_web" (defScope s_is_web) f cdv A outer s H E).xe := passes_of (X := cxOf (L2.CX P w) P w K mg base ["value", "pairs", "names", "steps", "one", "worth", "two", "step", "name"] "is_web" (defScope s_is_web) f cdv A outer s H E) rfl
  have hu1 := u1 hr
  have hu64 := u64 hr
  have hu65 := u65 hr
  exact (pss_sSeq (ps_sIf (PW.pt (pw_tor (pt_tnot (pt_ev (pe_evB (cr_isiD) (by rfl) T.isinstance' (by decide +kernel) (PA.cons' (pe_evVar (i := 0) rfl (.inl rfl)) (PA.cons' (pe_evTy (by rfl) T.tuple' (by decide +kernel)) pa_evNil))) (fun _ => rfl))) (pw_or1 (pt_cmp2 (op_neX hu64) (pe_evB (cr_lenD) (by rfl) T.len' (by decide +kernel) (PA.cons' (pe_evVar (i := 0) rfl (.inl rfl)) pa_evNil)) pe_evInt (nomark _))))) (pss_sOne (ps_sRet pe_evBl)) pss_sNil)
  (pss_sSeq (ps_sTg (pe_evVar (i := 0) rfl (.inl rfl)) (pg_tgT rfl (pgs_tgCons (pg_tgN (i := 2) sc_is_web.nd rfl (.inr rfl)) (pgs_tgCons (pg_tgN (i := 3) sc_is_web.nd rfl (.inl rfl)) pgs_tgNil))))
  (pss_sSeq (ps_sIf (PW.pt (pw_tor (pt_tnot (pt_ev (pe_evB (cr_isiD) (by rfl) T.isinstance' (by decide +kernel) (PA.cons' (pe_evVar (i := 2) rfl (.inr (.inl rfl))) (PA.cons' (pe_evTy (by rfl) T.tuple' (by decide +kernel)) pa_evNil))) (fun _ => rfl))) (pw_tor (pt_cmp2 (op_eqX hu64) (pe_evB (cr_lenD) (by rfl) T.len' (by decide +kernel) (PA.cons' (pe_evVar (i := 2) rfl (.inr (.inl rfl))) pa_evNil)) pe_evInt (nomark _)) (pw_or1 (pt_tnot (pt_ev (pe_evB (cr_isiD) (by rfl) T.isinstance' (by decide +kernel) (PA.cons' (pe_evVar (i := 3) rfl (.inl rfl)) (PA.cons' (pe_evTy (by rfl) T.tuple' (by decide +kernel)) pa_evNil))) (fun _ => rfl))))))) (pss_sOne (ps_sRet pe_evBl)) pss_sNil)
  (pss_sSeq (ps_sIf (PW.pt (pw_tor (pt_tnot (pt_ev (pe_evB (cr_allD rfl) (by rfl) T.all' (by decide +kernel) (PA.cons' (pe_evLc (own := [("name", 8)]) (sl := [8]) rfl sc_is_web.nd (pi_src (pe_evVar (i := 2) rfl (.inr (.inl rfl)))) (blk_of (N := ["value", "pairs", "names", "steps", "one", "worth", "two", "step", "name"]) (sc := defScope s_is_web) (by decide +kernel)) (by decide) (fun _ _ _ _ _ => (pg_tgN (i := 8) sc_is_web.nd rfl (.inl rfl))) (fun _ _ _ _ _ => pts_evNil) (fun _ _ _ _ _ => (pe_evCal C_is_name (hr.mono (by decide)) hgs (by rfl) takes_none5 (PA.cons' (pe_evVar (i := 8) rfl (.inl rfl)) pa_evNil) (len_cons (fun _ _ _ _ h => len_nil h))))) pa_evNil)) (fun _ => rfl))) (pw_or1 (pt_tnot (pt_ev (pe_evB (cr_allD rfl) (by rfl) T.all' (by decide +kernel) (PA.cons' (pe_evLc (own := [("one", 4), ("two", 6)]) (sl := [4, 6]) rfl sc_is_web.nd (pi_zp (by rfl) T.zip' (PA.cons' (pe_evVar (i := 2) rfl (.inr (.inl rfl))) (PA.cons' (pe_evSl sl_sliceD (pe_evVar (i := 2) rfl (.inr (.inl rfl))) (po_ev1 pe_evInt) po_ev0) pa_evNil))) (blk_of (N := ["value", "pairs", "names", "steps", "one", "worth", "two", "step", "name"]) (sc := defScope s_is_web) (by decide +kernel)) (by decide) (fun _ _ _ _ _ => (pg_tgT rfl (pgs_tgCons (pg_tgN (i := 4) sc_is_web.nd rfl (.inl rfl)) (pgs_tgCons (pg_tgN (i := 6) sc_is_web.nd rfl (.inl rfl)) pgs_tgNil)))) (fun _ _ _ _ _ => pts_evNil) (fun _ _ _ _ _ => (pe_cmp2 (op_ltDd hu64) (pe_evVar (i := 4) rfl (.inl rfl)) (pe_evVar (i := 6) rfl (.inl rfl)) (nomark _)))) pa_evNil)) (fun _ => rfl)))))) (pss_sOne (ps_sRet pe_evBl)) pss_sNil)
  (pss_sSeq (ps_sIf (pt_tnot (pt_ev (pe_evB (cr_allD rfl) (by rfl) T.all' (by decide +kernel) (PA.cons' (pe_evLc (own := [("step", 7)]) (sl := [7]) rfl sc_is_web.nd (pi_src (pe_evVar (i := 3) rfl (.inl rfl))) (blk_of (N := ["value", "pairs", "names", "steps", "one", "worth", "two", "step", "name"]) (sc := defScope s_is_web) (by decide +kernel)) (by decide) (fun _ _ _ _ _ => (pg_tgN (i := 7) sc_is_web.nd rfl (.inl rfl))) (fun _ _ _ _ _ => pts_evNil) (fun _ _ _ _ _ => (pe_evCal C_is_step (hr.mono (by decide)) hgs (by rfl) takes_none5 (PA.cons' (pe_evVar (i := 7) rfl (.inl rfl)) (PA.cons' (pe_evVar (i := 2) rfl (.inr (.inl rfl))) pa_evNil)) (len_cons (len_cons (fun _ _ _ _ h => len_nil h)))))) pa_evNil)) (fun _ => rfl))) (pss_sOne (ps_sRet pe_evBl)) pss_sNil)
  (pss_sSeq (ps_sSetLc (i := 1) (own := [("one", 4), ("worth", 5), ("two", 6)]) (sl := [4, 5, 6]) rfl sc_is_web.nd rfl rfl (sw_true rfl rfl rfl (by decide +kernel)) (pi_src (pe_evVar (i := 3) rfl (.inl rfl))) (blk_of (N := ["value", "pairs", "names", "steps", "one", "worth", "two", "step", "name"]) (sc := defScope s_is_web) (by decide +kernel)) (by decide) (fun _ _ _ _ _ => (pg_tgT rfl (pgs_tgCons (pg_tgN (i := 4) sc_is_web.nd rfl (.inl rfl)) (pgs_tgCons (pg_tgN (i := 5) sc_is_web.nd rfl (.inl rfl)) (pgs_tgCons (pg_tgN (i := 6) sc_is_web.nd rfl (.inl rfl)) pgs_tgNil))))) (fun _ _ _ _ _ => pts_evNil) (fun _ _ _ _ _ => (pe_evTup (PA.cons' (pe_evVar (i := 4) rfl (.inl rfl)) (PA.cons' (pe_evVar (i := 6) rfl (.inl rfl)) pa_evNil)))))
  (pss_sOne (ps_sRet (pe_evB (cr_allD rfl) (by rfl) T.all' (by decide +kernel) (PA.cons' (pe_evLc (own := [("one", 4), ("two", 6)]) (sl := [4, 6]) rfl sc_is_web.nd (pi_zp (by rfl) T.zip' (PA.cons' (pe_evVar (i := 1) rfl (.inl rfl)) (PA.cons' (pe_evSl sl_sliceD (pe_evVar (i := 1) rfl (.inl rfl)) (po_ev1 pe_evInt) po_ev0) pa_evNil))) (blk_of (N := ["value", "pairs", "names", "steps", "one", "worth", "two", "step", "name"]) (sc := defScope s_is_web) (by decide +kernel)) (by decide) (fun _ _ _ _ _ => (pg_tgT rfl (pgs_tgCons (pg_tgN (i := 4) sc_is_web.nd rfl (.inl rfl)) (pgs_tgCons (pg_tgN (i := 6) sc_is_web.nd rfl (.inl rfl)) pgs_tgNil)))) (fun _ _ _ _ _ => pts_evNil) (fun _ _ _ _ _ => (pe_cmp2 (op_ltDd hu64) (pe_evVar (i := 4) rfl (.inl rfl)) (pe_evVar (i := 6) rfl (.inl rfl)) (nomark _)))) pa_evNil))))))))))
/-! ### need_web -/
abbrev s_need_web : Stmt := topS 27
theorem sc_need_web : FnScope ["value"] ["value"] (defScope s_need_web) := ⟨rfl, rfl, rfl, by decide +kernel, rfl, by decide +kernel, by decide +kernel⟩
def b_need_web : Ss := (sIf (tnot (evT (evCall g_is_web (evCons (evVar 0) evNil))))
 (sRaise "BadWeb" ["web"] (evCons (evVar 0) evNil))
 sNext)
def g_need_web : Fn := runS 1 b_need_web
theorem ok_need_web (T : Txt mg) {A_BadWeb : Addr} (X_BadWeb : XC1 K mg P w base "BadWeb" "web" A_BadWeb) (C_is_web : Cal K mg P w base "is_web" 6 ["value"] g_is_web) {f : Addr} {fd : FuncData} (F : FunD K "need_web" "need_web" (defArgs s_need_web) (defBody s_need_web) (defScope s_need_web) [] [] f fd) : FnG K mg P w base 7 f fd ["value"] g_need_web := by
  refine PP.FunD.okG F sc_need_web rfl (b := b_need_web) (fun cdv A outer s H E hr hgs => ?_)
  have tk : Takes (cxOf (L2.CX P w) P w K mg base ["value"] "need_web" (defScope s_need_web) f cdv A outer s H E) (fun cls d _ H => E cls d H) := takes_of rfl rfl rfl rfl
  have hp : PassesOwn (model P w) (A.deeper (envOfC "need_web" (defScope s_need_web) s.heap.objs.size f cdv)) (envOfC "need_web" (defScope s_need_web) s.heap.objs.size f cdv) (cxOf (L2.CX P w) P w K mg base ["value"] "need_web" (defScope s_need_web) f cdv A outer s H E).xe := passes_of (X := cxOf (L2.CX P w) P w K mg base ["value"] "need_web" (defScope s_need_web) f cdv A outer s H E) rfl
  have hu1 := u1 hr
  have hu64 := u64 hr
  have hu65 := u65 hr
  exact (pss_sOne (ps_sIf (pt_tnot (pt_ev (pe_evCal C_is_web (hr.mono (by decide)) hgs (by rfl) tk (PA.cons' (pe_evVar (i := 0) rfl (.inl rfl)) pa_evNil) (len_cons (fun _ _ _ _ h => len_nil h))) (fun _ => rfl))) (pss_sOne (X_BadWeb.raise rfl tk (hr.mono (by decide)) (by rfl) (PA.cons' (pe_evVar (i := 0) rfl (.inl rfl)) pa_evNil))) pss_sNil))
/-! ### is_less -/
abbrev s_is_less : Stmt := topS 17
theorem sc_is_less : FnScope ["first", "second"] ["first", "second"] (defScope s_is_less) := ⟨rfl, rfl, rfl, by decide +kernel, rfl, by decide +kernel, by decide +kernel⟩
def b_is_less : Ss := (sRet (ev2 ltD (ev2 mulD (ev2 subscD (evVar 0) (evC (.int 0))) (ev2 subscD (evVar 1) (evC (.int 1)))) (ev2 mulD (ev2 subscD (evVar 1) (evC (.int 0))) (ev2 subscD (evVar 0) (evC (.int 1))))))
def g_is_less : Fn := runS 2 b_is_less
theorem ok_is_less (T : Txt mg) {f : Addr} {fd : FuncData} (F : FunD K "is_less" "is_less" (defArgs s_is_less) (defBody s_is_less) (defScope s_is_less) [] [] f fd) : FnG K mg P w base 1 f fd ["first", "second"] g_is_less := by
  refine PP.FunD.okG F sc_is_less rfl (b := b_is_less) (fun cdv A outer s H E hr hgs => ?_)
  have tk : Takes (cxOf (L2.CX P w) P w K mg base ["first", "second"] "is_less" (defScope s_is_less) f cdv A outer s H E) (fun cls d _ H => E cls d H) := takes_of rfl rfl rfl rfl
  have hp : PassesOwn (model P w) (A.deeper (envOfC "is_less" (defScope s_is_less) s.heap.objs.size f cdv)) (envOfC "is_less" (defScope s_is_less) s.heap.objs.size f cdv) (cxOf (L2.CX P w) P w K mg base ["first", "second"] "is_less" (defScope s_is_less) f cdv A outer s H E).xe := passes_of (X := cxOf (L2.CX P w) P w K mg base ["first", "second"] "is_less" (defScope s_is_less) f cdv A outer s H E) rfl
  have hu1 := u1 hr
  have hu64 := u64 hr
  have hu65 := u65 hr
  exact (pss_sOne (ps_sRet (pe_cmp2 (op_ltDd hu64) (pe_ev2 op_mulD (pe_ix2 (ix_subscD hu1) (pe_evVar (i := 0) rfl (.inl rfl)) pe_evInt (fun _ _ => rfl)) (pe_ix2 (ix_subscD hu1) (pe_evVar (i := 1) rfl (.inl rfl)) pe_evInt (fun _ _ => rfl))) (pe_ev2 op_mulD (pe_ix2 (ix_subscD hu1) (pe_evVar (i := 1) rfl (.inl rfl)) pe_evInt (fun _ _ => rfl)) (pe_ix2 (ix_subscD hu1) (pe_evVar (i := 0) rfl (.inl rfl)) pe_evInt (fun _ _ => rfl))) (nomark _))))
/-! ### fraction_of -/
abbrev s_fraction_of : Stmt := topS 13
theorem sc_fraction_of : FnScope ["top", "bottom", "shared"] ["top", "bottom"] (defScope s_fraction_of) := ⟨rfl, rfl, rfl, by decide +kernel, rfl, by decide +kernel, by decide +kernel⟩
def b_fraction_of : Ss := (sSeq (sSet 2 (evIf (evTB (ev2 gtD (evVar 1) (evC (.int 0)))) (evL gcdD (evCons (evVar 0) (evCons (evVar 1) evNil))) (ev1 negD (evL gcdD (evCons (evVar 0) (evCons (evVar 1) evNil))))))
 (sRet (evL mkTup (evCons (ev2 floorD (evVar 0) (evVar 2)) (evCons (ev2 floorD (evVar 1) (evVar 2)) evNil)))))
def g_fraction_of : Fn := runS 3 b_fraction_of
theorem ok_fraction_of (T : Txt mg) {f : Addr} {fd : FuncData} (F : FunD K "fraction_of" "fraction_of" (defArgs s_fraction_of) (defBody s_fraction_of) (defScope s_fraction_of) [] [] f fd) : FnG K mg P w base 1 f fd ["top", "bottom"] g_fraction_of := by
  refine PP.FunD.okG F sc_fraction_of rfl (b := b_fraction_of) (fun cdv A outer s H E hr hgs => ?_)
  have tk : Takes (cxOf (L2.CX P w) P w K mg base ["top", "bottom", "shared"] "fraction_of" (defScope s_fraction_of) f cdv A outer s H E) (fun cls d _ H => E cls d H) := takes_of rfl rfl rfl rfl
  have hp : PassesOwn (model P w) (A.deeper (envOfC "fraction_of" (defScope s_fraction_of) s.heap.objs.size f cdv)) (envOfC "fraction_of" (defScope s_fraction_of) s.heap.objs.size f cdv) (cxOf (L2.CX P w) P w K mg base ["top", "bottom", "shared"] "fraction_of" (defScope s_fraction_of) f cdv A outer s H E).xe := passes_of (X := cxOf (L2.CX P w) P w K mg base ["top", "bottom", "shared"] "fraction_of" (defScope s_fraction_of) f cdv A outer s H E) rfl
  have hu1 := u1 hr
  have hu64 := u64 hr
  have hu65 := u65 hr
  exact (pss_sSeq (ps_sSet (i := 2) sc_fraction_of.nd rfl (.inl rfl) (pe_evIf (pt_cmp2 (op_gtDd hu64) (pe_evVar (i := 1) rfl (.inl rfl)) pe_evInt (nomark _)) (pe_evBF cr_gcdD (by rfl) T.gcd' (PA.cons' (pe_evVar (i := 0) rfl (.inl rfl)) (PA.cons' (pe_evVar (i := 1) rfl (.inl rfl)) pa_evNil))) (pe_ev1 un_negD (pe_evBF cr_gcdD (by rfl) T.gcd' (PA.cons' (pe_evVar (i := 0) rfl (.inl rfl)) (PA.cons' (pe_evVar (i := 1) rfl (.inl rfl)) pa_evNil))))))
  (pss_sOne (ps_sRet (pe_evTup (PA.cons' (pe_ev2 op_floorD (pe_evVar (i := 0) rfl (.inl rfl)) (pe_evVar (i := 2) rfl (.inl rfl))) (PA.cons' (pe_ev2 op_floorD (pe_evVar (i := 1) rfl (.inl rfl)) (pe_evVar (i := 2) rfl (.inl rfl))) pa_evNil))))))
/-! ### divided -/
abbrev s_divided : Stmt := topS 16
theorem sc_divided : FnScope ["first", "second"] ["first", "second"] (defScope s_divided) := ⟨rfl, rfl, rfl, by decide +kernel, rfl, by decide +kernel, by decide +kernel⟩
def b_divided : Ss := (sRet (evCall g_fraction_of (evCons (ev2 mulD (ev2 subscD (evVar 0) (evC (.int 0))) (ev2 subscD (evVar 1) (evC (.int 1)))) (evCons (ev2 mulD (ev2 subscD (evVar 0) (evC (.int 1))) (ev2 subscD (evVar 1) (evC (.int 0)))) evNil))))
def g_divided : Fn := runS 2 b_divided
theorem ok_divided (T : Txt mg) (C_fraction_of : Cal K mg P w base "fraction_of" 1 ["top", "bottom"] g_fraction_of) {f : Addr} {fd : FuncData} (F : FunD K "divided" "divided" (defArgs s_divided) (defBody s_divided) (defScope s_divided) [] [] f fd) : FnG K mg P w base 2 f fd ["first", "second"] g_divided := by
  refine PP.FunD.okG F sc_divided rfl (b := b_divided) (fun cdv A outer s H E hr hgs => ?_)
  have tk : Takes (cxOf (L2.CX P w) P w K mg base ["first", "second"] "divided" (defScope s_divided) f cdv A outer s H E) (fun cls d _ H => E cls d H) := takes_of rfl rfl rfl rfl
  have hp : PassesOwn (model P w) (A.deeper (envOfC "divided" (defScope s_divided) s.heap.objs.size f cdv)) (envOfC "divided" (defScope s_divided) s.heap.objs.size f cdv) (cxOf (L2.CX P w) P w K mg base ["first", "second"] "divided" (defScope s_divided) f cdv A outer s H E).xe := passes_of (X := cxOf (L2.CX P w) P w K mg base ["first", "second"] "divided" (defScope s_divided) f cdv A outer s H E) rfl
  have hu1 := u1 hr
  have hu64 := u64 hr
  have hu65 := u65 hr
  exact (pss_sOne (ps_sRet (pe_evCal C_fraction_of (hr.mono (by decide)) hgs (by rfl) tk (PA.cons' (pe_ev2 op_mulD (pe_ix2 (ix_subscD hu1) (pe_evVar (i := 0) rfl (.inl rfl)) pe_evInt (fun _ _ => rfl)) (pe_ix2 (ix_subscD hu1) (pe_evVar (i := 1) rfl (.inl rfl)) pe_evInt (fun _ _ => rfl))) (PA.cons' (pe_ev2 op_mulD (pe_ix2 (ix_subscD hu1) (pe_evVar (i := 0) rfl (.inl rfl)) pe_evInt (fun _ _ => rfl)) (pe_ix2 (ix_subscD hu1) (pe_evVar (i := 1) rfl (.inl rfl)) pe_evInt (fun _ _ => rfl))) pa_evNil)) (len_cons (len_cons (fun _ _ _ _ h => len_nil h))))))
/-! ### added -/
abbrev s_added : Stmt := topS 14
theorem sc_added : FnScope ["first", "second"] ["first", "second"] (defScope s_added) := ⟨rfl, rfl, rfl, by decide +kernel, rfl, by decide +kernel, by decide +kernel⟩
def b_added : Ss := (sRet (evCall g_fraction_of (evCons (ev2 addD (ev2 mulD (ev2 subscD (evVar 0) (evC (.int 0))) (ev2 subscD (evVar 1) (evC (.int 1)))) (ev2 mulD (ev2 subscD (evVar 1) (evC (.int 0))) (ev2 subscD (evVar 0) (evC (.int 1))))) (evCons (ev2 mulD (ev2 subscD (evVar 0) (evC (.int 1))) (ev2 subscD (evVar 1) (evC (.int 1)))) evNil))))
def g_added : Fn := runS 2 b_added
theorem ok_added (T : Txt mg) (C_fraction_of : Cal K mg P w base "fraction_of" 1 ["top", "bottom"] g_fraction_of) {f : Addr} {fd : FuncData} (F : FunD K "added" "added" (defArgs s_added) (defBody s_added) (defScope s_added) [] [] f fd) : FnG K mg P w base 2 f fd ["first", "second"] g_added := by
  refine PP.FunD.okG F sc_added rfl (b := b_added) (fun cdv A outer s H E hr hgs => ?_)
  have tk : Takes (cxOf (L2.CX P w) P w K mg base ["first", "second"] "added" (defScope s_added) f cdv A outer s H E) (fun cls d _ H => E cls d H) := takes_of rfl rfl rfl rfl
  have hp : PassesOwn (model P w) (A.deeper (envOfC "added" (defScope s_added) s.heap.objs.size f cdv)) (envOfC "added" (defScope s_added) s.heap.objs.size f cdv) (cxOf (L2.CX P w) P w K mg base ["first", "second"] "added" (defScope s_added) f cdv A outer s H E).xe := passes_of (X := cxOf (L2.CX P w) P w K mg base ["first", "second"] "added" (defScope s_added) f cdv A outer s H E) rfl
  have hu1 := u1 hr
  have hu64 := u64 hr
  have hu65 := u65 hr
  exact (pss_sOne (ps_sRet (pe_evCal C_fraction_of (hr.mono (by decide)) hgs (by rfl) tk (PA.cons' (pe_ev2 op_addD (pe_ev2 op_mulD (pe_ix2 (ix_subscD hu1) (pe_evVar (i := 0) rfl (.inl rfl)) pe_evInt (fun _ _ => rfl)) (pe_ix2 (ix_subscD hu1) (pe_evVar (i := 1) rfl (.inl rfl)) pe_evInt (fun _ _ => rfl))) (pe_ev2 op_mulD (pe_ix2 (ix_subscD hu1) (pe_evVar (i := 1) rfl (.inl rfl)) pe_evInt (fun _ _ => rfl)) (pe_ix2 (ix_subscD hu1) (pe_evVar (i := 0) rfl (.inl rfl)) pe_evInt (fun _ _ => rfl)))) (PA.cons' (pe_ev2 op_mulD (pe_ix2 (ix_subscD hu1) (pe_evVar (i := 0) rfl (.inl rfl)) pe_evInt (fun _ _ => rfl)) (pe_ix2 (ix_subscD hu1) (pe_evVar (i := 1) rfl (.inl rfl)) pe_evInt (fun _ _ => rfl))) pa_evNil)) (len_cons (len_cons (fun _ _ _ _ h => len_nil h))))))
/-! ### bound_of -/
abbrev s_bound_of : Stmt := topS 23
theorem sc_bound_of : FnScope ["worth", "first", "most", "order", "top", "bottom"] ["worth"] (defScope s_bound_of) := ⟨rfl, rfl, rfl, by decide +kernel, rfl, by decide +kernel, by decide +kernel⟩
def b_bound_of : Ss := (sSeq (sSet 1 (evL mkTup (evCons (evL absD (evCons (ev2 subscD (ev2 subscD (evVar 0) (evC (.int 0))) (evC (.int 1))) evNil)) (evCons (ev2 subscD (ev2 subscD (evVar 0) (evC (.int 0))) (evC (.int 2))) evNil))))
 (sSeq (sSet 2 (evL mkTup (evCons (evC (.int 0)) (evCons (evC (.int 1)) evNil))))
 (sSeq (sFor (evSrc (evSl sliceD (evVar 0) (some (evC (.int 1))) none)) (tgT 3 (tgsCons (tgN 3) (tgsCons (tgN 4) (tgsCons (tgN 5) tgsNil))))
 (sIf (evT (evCall g_is_less (evCons (evVar 2) (evCons (evL mkTup (evCons (evL absD (evCons (evVar 4) evNil)) (evCons (evVar 5) evNil))) evNil))))
 (sSet 2 (evL mkTup (evCons (evL absD (evCons (evVar 4) evNil)) (evCons (evVar 5) evNil))))
 sNext))
 (sRet (evCall g_divided (evCons (evVar 1) (evCons (evCall g_added (evCons (evVar 1) (evCons (evVar 2) evNil))) evNil)))))))
def g_bound_of : Fn := runS 6 b_bound_of
theorem ok_bound_of (T : Txt mg) (C_is_less : Cal K mg P w base "is_less" 1 ["first", "second"] g_is_less) (C_divided : Cal K mg P w base "divided" 2 ["first", "second"] g_divided) (C_added : Cal K mg P w base "added" 2 ["first", "second"] g_added) {f : Addr} {fd : FuncData} (F : FunD K "bound_of" "bound_of" (defArgs s_bound_of) (defBody s_bound_of) (defScope s_bound_of) [] [] f fd) : FnG K mg P w base 3 f fd ["worth"] g_bound_of := by
  refine PP.FunD.okG F sc_bound_of rfl (b := b_bound_of) (fun cdv A outer s H E hr hgs => ?_)
  have tk : Takes (cxOf (L2.CX P w) P w K mg base ["worth", "first", "most", "order", "top", "bottom"] "bound_of" (defScope s_bound_of) f cdv A outer s H E) (fun cls d _ H => E cls d H) := takes_of rfl rfl rfl rfl
  have hp : PassesOwn (model P w) (A.deeper (envOfC "bound_of" (defScope s_bound_of) s.heap.objs.size f cdv)) (envOfC "bound_of" (defScope s_bound_of) s.heap.objs.size f cdv) (cxOf (L2.CX P w) P w K mg base ["worth", "first", "most", "order", "top", "bottom"] "bound_of" (defScope s_bound_of) f cdv A outer s H E).xe := passes_of (X := cxOf (L2.CX P w) P w K mg base ["worth", "first", "most", "order", "top", "bottom"] "bound_of" (defScope s_bound_of) f cdv A outer s H E) rfl
  have hu1 := u1 hr
  have hu64 := u64 hr
  have hu65 := u65 hr
  exact (pss_sSeq (ps_sSet (i := 1) sc_bound_of.nd rfl (.inl rfl) (pe_evTup (PA.cons' (pe_evB (cr_absD) (by rfl) T.abs' (by decide +kernel) (PA.cons' (pe_ix2 (ix_subscD hu1) (pe_ix2 (ix_subscD hu1) (pe_evVar (i := 0) rfl (.inl rfl)) pe_evInt (fun _ _ => rfl)) pe_evInt (fun _ _ => rfl)) pa_evNil)) (PA.cons' (pe_ix2 (ix_subscD hu1) (pe_ix2 (ix_subscD hu1) (pe_evVar (i := 0) rfl (.inl rfl)) pe_evInt (fun _ _ => rfl)) pe_evInt (fun _ _ => rfl)) pa_evNil))))
  (pss_sSeq (ps_sSet (i := 2) sc_bound_of.nd rfl (.inl rfl) (pe_evTup (PA.cons' pe_evInt (PA.cons' pe_evInt pa_evNil))))
  (pss_sSeq (ps_sFor (sl := [3, 4, 5]) hp rfl (pi_src (pe_evSl sl_sliceD (pe_evVar (i := 0) rfl (.inl rfl)) (po_ev1 pe_evInt) po_ev0)) (pg_tgT rfl (pgs_tgCons (pg_tgN (i := 3) sc_bound_of.nd rfl (.inl rfl)) (pgs_tgCons (pg_tgN (i := 4) sc_bound_of.nd rfl (.inl rfl)) (pgs_tgCons (pg_tgN (i := 5) sc_bound_of.nd rfl (.inl rfl)) pgs_tgNil)))) (pss_sOne (ps_sIf (pt_ev (pe_evCal C_is_less (hr.mono (by decide)) hgs (by rfl) tk (PA.cons' (pe_evVar (i := 2) rfl (.inl rfl)) (PA.cons' (pe_evTup (PA.cons' (pe_evB (cr_absD) (by rfl) T.abs' (by decide +kernel) (PA.cons' (pe_evVar (i := 4) rfl (.inl rfl)) pa_evNil)) (PA.cons' (pe_evVar (i := 5) rfl (.inl rfl)) pa_evNil))) pa_evNil)) (len_cons (len_cons (fun _ _ _ _ h => len_nil h)))) (fun _ => rfl)) (pss_sOne (ps_sSet (i := 2) sc_bound_of.nd rfl (.inl rfl) (pe_evTup (PA.cons' (pe_evB (cr_absD) (by rfl) T.abs' (by decide +kernel) (PA.cons' (pe_evVar (i := 4) rfl (.inl rfl)) pa_evNil)) (PA.cons' (pe_evVar (i := 5) rfl (.inl rfl)) pa_evNil))))) pss_sNil)))
  (pss_sOne (ps_sRet (pe_evCal C_divided (hr.mono (by decide)) hgs (by rfl) tk (PA.cons' (pe_evVar (i := 1) rfl (.inl rfl)) (PA.cons' (pe_evCal C_added (hr.mono (by decide)) hgs (by rfl) tk (PA.cons' (pe_evVar (i := 1) rfl (.inl rfl)) (PA.cons' (pe_evVar (i := 2) rfl (.inl rfl)) pa_evNil)) (len_cons (len_cons (fun _ _ _ _ h => len_nil h)))) pa_evNil)) (len_cons (len_cons (fun _ _ _ _ h => len_nil h)))))))))
/-! ### multiplied -/
abbrev s_multiplied : Stmt := topS 15
theorem sc_multiplied : FnScope ["first", "second"] ["first", "second"] (defScope s_multiplied) := ⟨rfl, rfl, rfl, by decide +kernel, rfl, by decide +kernel, by decide +kernel⟩
def b_multiplied : Ss := (sRet (evCall g_fraction_of (evCons (ev2 mulD (ev2 subscD (evVar 0) (evC (.int 0))) (ev2 subscD (evVar 1) (evC (.int 0)))) (evCons (ev2 mulD (ev2 subscD (evVar 0) (evC (.int 1))) (ev2 subscD (evVar 1) (evC (.int 1)))) evNil))))
def g_multiplied : Fn := runS 2 b_multiplied
theorem ok_multiplied (T : Txt mg) (C_fraction_of : Cal K mg P w base "fraction_of" 1 ["top", "bottom"] g_fraction_of) {f : Addr} {fd : FuncData} (F : FunD K "multiplied" "multiplied" (defArgs s_multiplied) (defBody s_multiplied) (defScope s_multiplied) [] [] f fd) : FnG K mg P w base 2 f fd ["first", "second"] g_multiplied := by
  refine PP.FunD.okG F sc_multiplied rfl (b := b_multiplied) (fun cdv A outer s H E hr hgs => ?_)
  have tk : Takes (cxOf (L2.CX P w) P w K mg base ["first", "second"] "multiplied" (defScope s_multiplied) f cdv A outer s H E) (fun cls d _ H => E cls d H) := takes_of rfl rfl rfl rfl
  have hp : PassesOwn (model P w) (A.deeper (envOfC "multiplied" (defScope s_multiplied) s.heap.objs.size f cdv)) (envOfC "multiplied" (defScope s_multiplied) s.heap.objs.size f cdv) (cxOf (L2.CX P w) P w K mg base ["first", "second"] "multiplied" (defScope s_multiplied) f cdv A outer s H E).xe := passes_of (X := cxOf (L2.CX P w) P w K mg base ["first", "second"] "multiplied" (defScope s_multiplied) f cdv A outer s H E) rfl
  have hu1 := u1 hr
  have hu64 := u64 hr
  have hu65 := u65 hr
  exact (pss_sOne (ps_sRet (pe_evCal C_fraction_of (hr.mono (by decide)) hgs (by rfl) tk (PA.cons' (pe_ev2 op_mulD (pe_ix2 (ix_subscD hu1) (pe_evVar (i := 0) rfl (.inl rfl)) pe_evInt (fun _ _ => rfl)) (pe_ix2 (ix_subscD hu1) (pe_evVar (i := 1) rfl (.inl rfl)) pe_evInt (fun _ _ => rfl))) (PA.cons' (pe_ev2 op_mulD (pe_ix2 (ix_subscD hu1) (pe_evVar (i := 0) rfl (.inl rfl)) pe_evInt (fun _ _ => rfl)) (pe_ix2 (ix_subscD hu1) (pe_evVar (i := 1) rfl (.inl rfl)) pe_evInt (fun _ _ => rfl))) pa_evNil)) (len_cons (len_cons (fun _ _ _ _ h => len_nil h))))))
/-! ### power -/
abbrev s_power : Stmt := topS 21
theorem sc_power : FnScope ["fraction", "order", "lap", "top", "bottom"] ["fraction", "order"] (defScope s_power) := ⟨rfl, rfl, rfl, by decide +kernel, rfl, by decide +kernel, by decide +kernel⟩
def b_power : Ss := (sSeq (sTg (tgT 2 (tgsCons (tgN 3) (tgsCons (tgN 4) tgsNil))) (evL mkTup (evCons (evC (.int 1)) (evCons (evC (.int 1)) evNil))))
 (sSeq (sFor (evRg1 (evCons (evVar 1) evNil)) (tgN 2)
 (sPar 3 4 (evCons (ev2 mulD (evVar 3) (ev2 subscD (evVar 0) (evC (.int 0)))) (evCons (ev2 mulD (evVar 4) (ev2 subscD (evVar 0) (evC (.int 1)))) evNil))))
 (sRet (evL mkTup (evCons (evVar 3) (evCons (evVar 4) evNil))))))
def g_power : Fn := runS 5 b_power
theorem ok_power (T : Txt mg) {f : Addr} {fd : FuncData} (F : FunD K "power" "power" (defArgs s_power) (defBody s_power) (defScope s_power) [] [] f fd) : FnG K mg P w base 1 f fd ["fraction", "order"] g_power := by
  refine PP.FunD.okG F sc_power rfl (b := b_power) (fun cdv A outer s H E hr hgs => ?_)
  have tk : Takes (cxOf (L2.CX P w) P w K mg base ["fraction", "order", "lap", "top", "bottom"] "power" (defScope s_power) f cdv A outer s H E) (fun cls d _ H => E cls d H) := takes_of rfl rfl rfl rfl
  have hp : PassesOwn (model P w) (A.deeper (envOfC "power" (defScope s_power) s.heap.objs.size f cdv)) (envOfC "power" (defScope s_power) s.heap.objs.size f cdv) (cxOf (L2.CX P w) P w K mg base ["fraction", "order", "lap", "top", "bottom"] "power" (defScope s_power) f cdv A outer s H E).xe := passes_of (X := cxOf (L2.CX P w) P w K mg base ["fraction", "order", "lap", "top", "bottom"] "power" (defScope s_power) f cdv A outer s H E) rfl
  have hu1 := u1 hr
  have hu64 := u64 hr
  have hu65 := u65 hr
  exact (pss_sSeq (ps_sTg (pe_evTup (PA.cons' pe_evInt (PA.cons' pe_evInt pa_evNil))) (pg_tgT rfl (pgs_tgCons (pg_tgN (i := 3) sc_power.nd rfl (.inl rfl)) (pgs_tgCons (pg_tgN (i := 4) sc_power.nd rfl (.inl rfl)) pgs_tgNil))))
  (pss_sSeq (ps_sFor (sl := [2]) hp rfl (pi_rg1 (by rfl) T.range' (PA.cons' (pe_evVar (i := 1) rfl (.inl rfl)) pa_evNil)) (pg_tgN (i := 2) sc_power.nd rfl (.inl rfl)) (pss_sOne (ps_sPar (i := 3) (j := 4) rfl sc_power.nd rfl rfl (by decide) rfl rfl (PA.cons' (pe_ev2 op_mulD (pe_evVar (i := 3) rfl (.inl rfl)) (pe_ix2 (ix_subscD hu1) (pe_evVar (i := 0) rfl (.inl rfl)) pe_evInt (fun _ _ => rfl))) (PA.cons' (pe_ev2 op_mulD (pe_evVar (i := 4) rfl (.inl rfl)) (pe_ix2 (ix_subscD hu1) (pe_evVar (i := 0) rfl (.inl rfl)) pe_evInt (fun _ _ => rfl))) pa_evNil)) (by rfl))))
  (pss_sOne (ps_sRet (pe_evTup (PA.cons' (pe_evVar (i := 3) rfl (.inl rfl)) (PA.cons' (pe_evVar (i := 4) rfl (.inl rfl)) pa_evNil)))))))
/-! ### value_at -/
abbrev s_value_at : Stmt := topS 22
theorem sc_value_at : FnScope ["worth", "number", "found", "order", "top", "bottom"] ["worth", "number"] (defScope s_value_at) := ⟨rfl, rfl, rfl, by decide +kernel, rfl, by decide +kernel, by decide +kernel⟩
def b_value_at : Ss := (sSeq (sSet 2 (evL mkTup (evCons (evC (.int 0)) (evCons (evC (.int 1)) evNil))))
 (sSeq (sFor (evSrc (evVar 0)) (tgT 3 (tgsCons (tgN 3) (tgsCons (tgN 4) (tgsCons (tgN 5) tgsNil))))
 (sSet 2 (evCall g_added (evCons (evVar 2) (evCons (evCall g_multiplied (evCons (evL mkTup (evCons (evVar 4) (evCons (evVar 5) evNil))) (evCons (evCall g_power (evCons (evVar 1) (evCons (evVar 3) evNil))) evNil))) evNil)))))
 (sRet (evVar 2))))
def g_value_at : Fn := runS 6 b_value_at
theorem ok_value_at (T : Txt mg) (C_added : Cal K mg P w base "added" 2 ["first", "second"] g_added) (C_multiplied : Cal K mg P w base "multiplied" 2 ["first", "second"] g_multiplied) (C_power : Cal K mg P w base "power" 1 ["fraction", "order"] g_power) {f : Addr} {fd : FuncData} (F : FunD K "value_at" "value_at" (defArgs s_value_at) (defBody s_value_at) (defScope s_value_at) [] [] f fd) : FnG K mg P w base 3 f fd ["worth", "number"] g_value_at := by
  refine PP.FunD.okG F sc_value_at rfl (b := b_value_at) (fun cdv A outer s H E hr hgs => ?_)
  have tk : Takes (cxOf (L2.CX P w) P w K mg base ["worth", "number", "found", "order", "top", "bottom"] "value_at" (defScope s_value_at) f cdv A outer s H E) (fun cls d _ H => E cls d H) := takes_of rfl rfl rfl rfl
  have hp : PassesOwn (model P w) (A.deeper (envOfC "value_at" (defScope s_value_at) s.heap.objs.size f cdv)) (envOfC "value_at" (defScope s_value_at) s.heap.objs.size f cdv) (cxOf (L2.CX P w) P w K mg base ["worth", "number", "found", "order", "top", "bottom"] "value_at" (defScope s_value_at) f cdv A outer s H E).xe := passes_of (X := cxOf (L2.CX P w) P w K mg base ["worth", "number", "found", "order", "top", "bottom"] "value_at" (defScope s_value_at) f cdv A outer s H E) rfl
  have hu1 := u1 hr
  have hu64 := u64 hr
  have hu65 := u65 hr
  exact (pss_sSeq (ps_sSet (i := 2) sc_value_at.nd rfl (.inl rfl) (pe_evTup (PA.cons' pe_evInt (PA.cons' pe_evInt pa_evNil))))
  (pss_sSeq (ps_sFor (sl := [3, 4, 5]) hp rfl (pi_src (pe_evVar (i := 0) rfl (.inl rfl))) (pg_tgT rfl (pgs_tgCons (pg_tgN (i := 3) sc_value_at.nd rfl (.inl rfl)) (pgs_tgCons (pg_tgN (i := 4) sc_value_at.nd rfl (.inl rfl)) (pgs_tgCons (pg_tgN (i := 5) sc_value_at.nd rfl (.inl rfl)) pgs_tgNil)))) (pss_sOne (ps_sSet (i := 2) sc_value_at.nd rfl (.inl rfl) (pe_evCal C_added (hr.mono (by decide)) hgs (by rfl) tk (PA.cons' (pe_evVar (i := 2) rfl (.inl rfl)) (PA.cons' (pe_evCal C_multiplied (hr.mono (by decide)) hgs (by rfl) tk (PA.cons' (pe_evTup (PA.cons' (pe_evVar (i := 4) rfl (.inl rfl)) (PA.cons' (pe_evVar (i := 5) rfl (.inl rfl)) pa_evNil))) (PA.cons' (pe_evCal C_power (hr.mono (by decide)) hgs (by rfl) tk (PA.cons' (pe_evVar (i := 1) rfl (.inl rfl)) (PA.cons' (pe_evVar (i := 3) rfl (.inl rfl)) pa_evNil)) (len_cons (len_cons (fun _ _ _ _ h => len_nil h)))) pa_evNil)) (len_cons (len_cons (fun _ _ _ _ h => len_nil h)))) pa_evNil)) (len_cons (len_cons (fun _ _ _ _ h => len_nil h)))))))
  (pss_sOne (ps_sRet (pe_evVar (i := 2) rfl (.inl rfl))))))
/-! ### web_at -/
abbrev s_web_at : Stmt := topS 28
theorem sc_web_at : FnScope ["web", "number", "one", "worth", "two"] ["web", "number"] (defScope s_web_at) := ⟨rfl, rfl, rfl, by decide +kernel, rfl, by decide +kernel, by decide +kernel⟩
def b_web_at : Ss := (sSeq (sExpr (evCall g_need_web (evCons (evVar 0) evNil)))
 (sSeq (sIf (tor (tnot (evT (evCall g_is_fraction (evCons (evVar 1) evNil)))) (evTB (ev2 leD (ev2 subscD (evVar 1) (evC (.int 0))) (evC (.int 0)))))
 (sRaise "BadNumber" ["what", "number"] (evCons (evC (.str "number")) (evCons (evVar 1) evNil)))
 sNext)
 (sSeq (sFor (evSrc (ev2 subscD (evVar 0) (evC (.int 1)))) (tgT 3 (tgsCons (tgN 2) (tgsCons (tgN 3) (tgsCons (tgN 4) tgsNil))))
 (sIf (tnot (evT (evCall g_is_less (evCons (evVar 1) (evCons (evCall g_bound_of (evCons (evVar 3) evNil)) evNil)))))
 (sRaise "NotKept" ["promise", "witness"] (evCons (evC (.str "kept")) (evCons (evL mkTup (evCons (evVar 2) (evCons (evVar 4) evNil))) evNil)))
 sNext))
 (sRet (evL tupleD (evCons (evLc (evSrc (ev2 subscD (evVar 0) (evC (.int 1)))) (tgT 3 (tgsCons (tgN 2) (tgsCons (tgN 3) (tgsCons (tgN 4) tgsNil)))) [2, 3, 4] tyes (evL mkTup (evCons (evVar 2) (evCons (evCall g_value_at (evCons (evVar 3) (evCons (evVar 1) evNil))) (evCons (evVar 4) evNil))))) evNil))))))
def g_web_at : Fn := runS 5 b_web_at
theorem ok_web_at (T : Txt mg) {A_BadNumber : Addr} (X_BadNumber : XC2 K mg P w base "BadNumber" "what" "number" A_BadNumber) {A_NotKept : Addr} (X_NotKept : XC2 K mg P w base "NotKept" "promise" "witness" A_NotKept) (C_need_web : Cal K mg P w base "need_web" 7 ["value"] g_need_web) (C_is_fraction : Cal K mg P w base "is_fraction" 2 ["value"] g_is_fraction) (C_is_less : Cal K mg P w base "is_less" 1 ["first", "second"] g_is_less) (C_bound_of : Cal K mg P w base "bound_of" 3 ["worth"] g_bound_of) (C_value_at : Cal K mg P w base "value_at" 3 ["worth", "number"] g_value_at) {f : Addr} {fd : FuncData} (F : FunD K "web_at" "web_at" (defArgs s_web_at) (defBody s_web_at) (defScope s_web_at) [] [] f fd) : FnG K mg P w base 8 f fd ["web", "number"] g_web_at := by
  refine PP.FunD.okG F sc_web_at rfl (b := b_web_at) (fun cdv A outer s H E hr hgs => ?_)
  have tk : Takes (cxOf (L2.CX P w) P w K mg base ["web", "number", "one", "worth", "two"] "web_at" (defScope s_web_at) f cdv A outer s H E) (fun cls d _ H => E cls d H) := takes_of rfl rfl rfl rfl
  have hp : PassesOwn (model P w) (A.deeper (envOfC "web_at" (defScope s_web_at) s.heap.objs.size f cdv)) (envOfC "web_at" (defScope s_web_at) s.heap.objs.size f cdv) (cxOf (L2.CX P w) P w K mg base ["web", "number", "one", "worth", "two"] "web_at" (defScope s_web_at) f cdv A outer s H E).xe := passes_of (X := cxOf (L2.CX P w) P w K mg base ["web", "number", "one", "worth", "two"] "web_at" (defScope s_web_at) f cdv A outer s H E) rfl
  have hu1 := u1 hr
  have hu64 := u64 hr
  have hu65 := u65 hr
  exact (pss_sSeq (ps_sExpr (pe_evCal C_need_web (hr.mono (by decide)) hgs (by rfl) tk (PA.cons' (pe_evVar (i := 0) rfl (.inl rfl)) pa_evNil) (len_cons (fun _ _ _ _ h => len_nil h))))
  (pss_sSeq (ps_sIf (PW.pt (pw_tor (pt_tnot (pt_ev (pe_evCal C_is_fraction (hr.mono (by decide)) hgs (by rfl) tk (PA.cons' (pe_evVar (i := 1) rfl (.inr (.inl rfl))) pa_evNil) (len_cons (fun _ _ _ _ h => len_nil h))) (fun _ => rfl))) (pw_or1 (pt_cmp2 (op_leDd hu64) (pe_ix2 (ix_subscD hu1) (pe_evVar (i := 1) rfl (.inr (.inl rfl))) pe_evInt (fun _ _ => rfl)) pe_evInt (nomark _))))) (pss_sOne (X_BadNumber.raise rfl tk (hr.mono (by decide)) (by rfl) (PA.cons' pe_evStr (PA.cons' (pe_evVar (i := 1) rfl (.inr (.inl rfl))) pa_evNil)))) pss_sNil)
  (pss_sSeq (ps_sFor (sl := [2, 3, 4]) hp rfl (pi_src (pe_ix2 (ix_subscD hu1) (pe_evVar (i := 0) rfl (.inl rfl)) pe_evInt (fun _ _ => rfl))) (pg_tgT rfl (pgs_tgCons (pg_tgN (i := 2) sc_web_at.nd rfl (.inl rfl)) (pgs_tgCons (pg_tgN (i := 3) sc_web_at.nd rfl (.inl rfl)) (pgs_tgCons (pg_tgN (i := 4) sc_web_at.nd rfl (.inl rfl)) pgs_tgNil)))) (pss_sOne (ps_sIf (pt_tnot (pt_ev (pe_evCal C_is_less (hr.mono (by decide)) hgs (by rfl) tk (PA.cons' (pe_evVar (i := 1) rfl (.inr (.inl rfl))) (PA.cons' (pe_evCal C_bound_of (hr.mono (by decide)) hgs (by rfl) tk (PA.cons' (pe_evVar (i := 3) rfl (.inl rfl)) pa_evNil) (len_cons (fun _ _ _ _ h => len_nil h))) pa_evNil)) (len_cons (len_cons (fun _ _ _ _ h => len_nil h)))) (fun _ => rfl))) (pss_sOne (X_NotKept.raise rfl tk (hr.mono (by decide)) (by rfl) (PA.cons' pe_evStr (PA.cons' (pe_evTup (PA.cons' (pe_evVar (i := 2) rfl (.inl rfl)) (PA.cons' (pe_evVar (i := 4) rfl (.inl rfl)) pa_evNil))) pa_evNil)))) pss_sNil)))
  (pss_sOne (ps_sRet (pe_evBT (cr_tupleD) (by rfl) T.tuple' (by decide +kernel) (PA.cons' (pe_evLc (own := [("one", 2), ("worth", 3), ("two", 4)]) (sl := [2, 3, 4]) rfl sc_web_at.nd (pi_src (pe_ix2 (ix_subscD hu1) (pe_evVar (i := 0) rfl (.inl rfl)) pe_evInt (fun _ _ => rfl))) (blk_of (N := ["web", "number", "one", "worth", "two"]) (sc := defScope s_web_at) (by decide +kernel)) (by decide) (fun _ _ _ _ _ => (pg_tgT rfl (pgs_tgCons (pg_tgN (i := 2) sc_web_at.nd rfl (.inl rfl)) (pgs_tgCons (pg_tgN (i := 3) sc_web_at.nd rfl (.inl rfl)) (pgs_tgCons (pg_tgN (i := 4) sc_web_at.nd rfl (.inl rfl)) pgs_tgNil))))) (fun _ _ _ _ _ => pts_evNil) (fun _ _ _ _ _ => (pe_evTup (PA.cons' (pe_evVar (i := 2) rfl (.inl rfl)) (PA.cons' (pe_evCal C_value_at (hr.mono (by decide)) hgs (by rfl) takes_none5 (PA.cons' (pe_evVar (i := 3) rfl (.inl rfl)) (PA.cons' (pe_evVar (i := 1) rfl (.inr (.inl rfl))) pa_evNil)) (len_cons (len_cons (fun _ _ _ _ h => len_nil h)))) (PA.cons' (pe_evVar (i := 4) rfl (.inl rfl)) pa_evNil)))))) pa_evNil)))))))
/-! ### law -/
abbrev s_law : Stmt := topS 44
theorem sc_law : FnScope ["script", "pen", "lap", "web", "bounds", "number", "wrong", "due", "odd", "bad", "found", "one", "worth", "two", "bound"] ["script"] (defScope s_law) := ⟨rfl, rfl, rfl, by decide +kernel, rfl, by decide +kernel, by decide +kernel⟩
def b_law : Ss := (sSeq (sSet 1 (evCall g__law_pen (evCons (evVar 0) evNil)))
 (sSeq (sFor (evRg1 (evCons (evC (.int 4)) evNil)) (tgN 2)
 (sSeq (sSet 3 (evCall g__law_web (evCons (evVar 1) (evCons (evCall g__law_names (evCons (evVar 1) (evCons (ev2 addD (evC (.int 2)) (evCall g__law_draw (evCons (evVar 1) (evCons (evC (.int 5)) evNil)))) evNil))) (evCons (ev2 addD (evC (.int 1)) (evCall g__law_draw (evCons (evVar 1) (evCons (evC (.int 8)) evNil)))) (evCons (evC (.int 5)) evNil))))))
 (sSeq (sSet 4 (evLc (evSrc (ev2 subscD (evVar 3) (evC (.int 1)))) (tgT 3 (tgsCons (tgN 11) (tgsCons (tgN 12) (tgsCons (tgN 13) tgsNil)))) [11, 12, 13] tyes (evL mkTup (evCons (evVar 11) (evCons (evVar 13) (evCons (evCall g__law_bound (evCons (evVar 12) evNil)) evNil))))))
 (sSeq (sSet 5 (evCall g__law_fraction (evCons (ev2 addD (evC (.int 1)) (evCall g__law_draw (evCons (evVar 1) (evCons (evC (.int 40)) evNil)))) (evCons (ev2 addD (evC (.int 1)) (evCall g__law_draw (evCons (evVar 1) (evCons (evCall g__law_pick (evCons (evVar 1) (evCons (evL mkLst (evCons (evC (.int 20)) (evCons (evC (.int 60)) (evCons (ev2 powD (evC (.int 10)) (evC (.int 6))) evNil)))) evNil))) evNil)))) evNil))))
 (sSeq (sIf (tand (evTB (ev2 neX (evVar 4) (evL mkLst evNil))) (evTB (ev2 eqX (evCall g__law_draw (evCons (evVar 1) (evCons (evC (.int 3)) evNil))) (evC (.int 0)))))
 (sSet 5 (ev2 subscD (evCall g__law_pick (evCons (evVar 1) (evCons (evVar 4) evNil))) (evC (.int 2))))
 sNext)
 (sSeq (sSet 6 (evLc (evSrc (evVar 4)) (tgT 3 (tgsCons (tgN 11) (tgsCons (tgN 13) (tgsCons (tgN 14) tgsNil)))) [11, 13, 14] (evTB (ev2 geD (ev2 mulD (ev2 subscD (evVar 5) (evC (.int 0))) (ev2 subscD (evVar 14) (evC (.int 1)))) (ev2 mulD (ev2 subscD (evVar 14) (evC (.int 0))) (ev2 subscD (evVar 5) (evC (.int 1)))))) (evL mkTup (evCons (evVar 11) (evCons (evVar 13) evNil)))))
 (sSeq (sSet 7 (evL reprD (evCons (evL tupleD (evCons (evLc (evSrc (ev2 subscD (evVar 3) (evC (.int 1)))) (tgT 3 (tgsCons (tgN 11) (tgsCons (tgN 12) (tgsCons (tgN 13) tgsNil)))) [11, 12, 13] tyes (evL mkTup (evCons (evVar 11) (evCons (evCall g__law_at (evCons (evVar 12) (evCons (evVar 5) evNil))) (evCons (evVar 13) evNil))))) evNil)) evNil)))
 (sSeq (sIf (evTB (ev2 neX (evVar 6) (evL mkLst evNil)))
 (sIf (evTB (ev2 neX (evRef exT hs__law_refused (evCall g_web_at (evCons (evVar 3) (evCons (evVar 5) evNil)))) (evL mkTup (evCons (evC (.str "kept")) (evCons (evL reprD (evCons (ev2 subscD (evVar 6) (evC (.int 0))) evNil)) evNil)))))
 (sRet (evC (.bl false)))
 sNext)
 (sIf (evTB (ev2 neX (evL reprD (evCons (evCall g_web_at (evCons (evVar 3) (evCons (evVar 5) evNil))) evNil)) (evVar 7)))
 (sRet (evC (.bl false)))
 sNext))
 (sSeq (sSet 8 (evCall g__law_pick (evCons (evVar 1) (evCons (evL mkLst (evCons (evC .non) (evCons (evL mkTup evNil) (evCons (evL listD (evCons (evVar 3) evNil)) (evCons (evL mkTup (evCons (evL mkTup evNil) (evCons (evL mkTup evNil) evNil))) evNil))))) evNil))))
 (sSeq (sSet 9 (evCall g__law_pick (evCons (evVar 1) (evCons (evL mkLst (evCons (evC .non) (evCons (evL mkTup (evCons (evC (.int 0)) (evCons (evC (.int 1)) evNil))) (evCons (evL mkTup (evCons (ev1 negD (evC (.int 1))) (evCons (evC (.int 2)) evNil))) (evCons (evL mkTup (evCons (evC (.int 2)) (evCons (evC (.int 4)) evNil))) (evCons (evL mkTup (evCons (evC (.int 1)) (evCons (evC (.int 0)) evNil))) (evCons (evC (.int 1)) (evCons (evL mkLst (evCons (evC (.int 1)) (evCons (evC (.int 2)) evNil))) (evCons (evL mkTup (evCons (evC (.bl true)) (evCons (evC (.int 2)) evNil))) (evCons (evC (.str "1/2")) evNil)))))))))) evNil))))
 (sSeq (sSet 10 (evL mkLst (evCons (evRef exT hs__law_refused (evCall g_web_at (evCons (evVar 8) (evCons (evVar 9) evNil)))) evNil)))
 (sSeq (sExpr (evM isLst appendM (evVar 10) (evCons (evRef exT hs__law_refused (evCall g_web_at (evCons (evVar 3) (evCons (evVar 9) evNil)))) evNil)))
 (sIf (evTB (ev2 neX (evVar 10) (evL mkLst (evCons (evL mkTup (evCons (evC (.str "web")) (evCons (evL reprD (evCons (evVar 8) evNil)) evNil))) (evCons (evL mkTup (evCons (evC (.str "number")) (evCons (evL reprD (evCons (evVar 9) evNil)) evNil))) evNil)))))
 (sRet (evC (.bl false)))
 sNext)))))))))))))
 (sRet (evC (.bl true)))))
def g_law : Fn := runS 15 b_law
theorem ok_law (T : Txt mg) (TE : TabOk K mg exT) (R__law_refused : RefP K mg P w base "_law_refused" exT hs__law_refused) {c : Addr} (LA : LamAt base mg (("law" : Str) ++ ".<locals>.") c) (C__law_pen : Cal K mg P w base "_law_pen" 1 ["script"] g__law_pen) (C__law_web : Cal K mg P w base "_law_web" 6 ["pen", "names", "share", "orders"] g__law_web) (C__law_draw : Cal K mg P w base "_law_draw" 1 ["pen", "many"] g__law_draw) (C__law_names : Cal K mg P w base "_law_names" 3 ["pen", "many"] g__law_names) (C__law_bound : Cal K mg P w base "_law_bound" 4 ["worth"] g__law_bound) (C__law_fraction : Cal K mg P w base "_law_fraction" 2 ["top", "bottom"] g__law_fraction) (C__law_pick : Cal K mg P w base "_law_pick" 2 ["pen", "some"] g__law_pick) (C__law_at : Cal K mg P w base "_law_at" 4 ["worth", "number"] g__law_at) (C_web_at : Cal K mg P w base "web_at" 8 ["web", "number"] g_web_at) {f : Addr} {fd : FuncData} (hcK : codeK K f = some c) (F : FunD K "law" "law" (defArgs s_law) (defBody s_law) (defScope s_law) [] [] f fd) : FnG K mg P w base 11 f fd ["script"] g_law := by
  refine PP.FunD.okGc F hcK sc_law rfl (b := b_law) (fun cdv A outer s H E hcd hr hgs => ?_)
  have tk : Takes (cxOf (L2.CX P w) P w K mg base ["script", "pen", "lap", "web", "bounds", "number", "wrong", "due", "odd", "bad", "found", "one", "worth", "two", "bound"] "law" (defScope s_law) f cdv A outer s H E) (fun cls d _ H => E cls d H) := takes_of rfl rfl rfl rfl
  have hp : PassesOwn (model P w) (A.deeper (envOfC "law" (defScope s_law) s.heap.objs.size f cdv)) (envOfC "law" (defScope s_law) s.heap.objs.size f cdv) (cxOf (L2.CX P w) P w K mg base ["script", "pen", "lap", "web", "bounds", "number", "wrong", "due", "odd", "bad", "found", "one", "worth", "two", "bound"] "law" (defScope s_law) f cdv A outer s H E).xe := passes_of (X := cxOf (L2.CX P w) P w K mg base ["script", "pen", "lap", "web", "bounds", "number", "wrong", "due", "odd", "bad", "found", "one", "worth", "two", "bound"] "law" (defScope s_law) f cdv A outer s H E) rfl
  have hu1 := u1 hr
  have hu64 := u64 hr
  have hu65 := u65 hr
  exact (pss_sSeq (ps_sSet (i := 1) sc_law.nd rfl (.inl rfl) (pe_evCal C__law_pen (hr.mono (by decide)) hgs (by rfl) tk (PA.cons' (pe_evVar (i := 0) rfl (.inl rfl)) pa_evNil) (len_cons (fun _ _ _ _ h => len_nil h))))
  (pss_sSeq (ps_sFor (sl := [2]) hp rfl (pi_rg1 (by rfl) T.range' (PA.cons' pe_evInt pa_evNil)) (pg_tgN (i := 2) sc_law.nd rfl (.inl rfl)) (pss_sSeq (ps_sSet (i := 3) sc_law.nd rfl (.inr rfl) (pe_evCal C__law_web (hr.mono (by decide)) hgs (by rfl) tk (PA.cons' (pe_evVar (i := 1) rfl (.inl rfl)) (PA.cons' (pe_evCal C__law_names (hr.mono (by decide)) hgs (by rfl) tk (PA.cons' (pe_evVar (i := 1) rfl (.inl rfl)) (PA.cons' (pe_ev2 op_addD pe_evInt (pe_evCal C__law_draw (hr.mono (by decide)) hgs (by rfl) tk (PA.cons' (pe_evVar (i := 1) rfl (.inl rfl)) (PA.cons' pe_evInt pa_evNil)) (len_cons (len_cons (fun _ _ _ _ h => len_nil h))))) pa_evNil)) (len_cons (len_cons (fun _ _ _ _ h => len_nil h)))) (PA.cons' (pe_ev2 op_addD pe_evInt (pe_evCal C__law_draw (hr.mono (by decide)) hgs (by rfl) tk (PA.cons' (pe_evVar (i := 1) rfl (.inl rfl)) (PA.cons' pe_evInt pa_evNil)) (len_cons (len_cons (fun _ _ _ _ h => len_nil h))))) (PA.cons' pe_evInt pa_evNil)))) (len_cons (len_cons (len_cons (len_cons (fun _ _ _ _ h => len_nil h)))))))
  (pss_sSeq (ps_sSetLc (i := 4) (own := [("one", 11), ("worth", 12), ("two", 13)]) (sl := [11, 12, 13]) rfl sc_law.nd rfl rfl (sw_true rfl rfl rfl (by decide +kernel)) (pi_src (pe_ix2 (ix_subscD hu1) (pe_evVar (i := 3) rfl (.inr (.inl rfl))) pe_evInt (fun _ _ => rfl))) (blk_of (N := ["script", "pen", "lap", "web", "bounds", "number", "wrong", "due", "odd", "bad", "found", "one", "worth", "two", "bound"]) (sc := defScope s_law) (by decide +kernel)) (by decide) (fun _ _ _ _ _ => (pg_tgT rfl (pgs_tgCons (pg_tgN (i := 11) sc_law.nd rfl (.inl rfl)) (pgs_tgCons (pg_tgN (i := 12) sc_law.nd rfl (.inl rfl)) (pgs_tgCons (pg_tgN (i := 13) sc_law.nd rfl (.inl rfl)) pgs_tgNil))))) (fun _ _ _ _ _ => pts_evNil) (fun _ _ _ _ _ => (pe_evTup (PA.cons' (pe_evVar (i := 11) rfl (.inl rfl)) (PA.cons' (pe_evVar (i := 13) rfl (.inl rfl)) (PA.cons' (pe_evCal C__law_bound (hr.mono (by decide)) hgs (by rfl) takes_none5 (PA.cons' (pe_evVar (i := 12) rfl (.inl rfl)) pa_evNil) (len_cons (fun _ _ _ _ h => len_nil h))) pa_evNil))))))
  (pss_sSeq (ps_sSet (i := 5) sc_law.nd rfl (.inr rfl) (pe_evCal C__law_fraction (hr.mono (by decide)) hgs (by rfl) tk (PA.cons' (pe_ev2 op_addD pe_evInt (pe_evCal C__law_draw (hr.mono (by decide)) hgs (by rfl) tk (PA.cons' (pe_evVar (i := 1) rfl (.inl rfl)) (PA.cons' pe_evInt pa_evNil)) (len_cons (len_cons (fun _ _ _ _ h => len_nil h))))) (PA.cons' (pe_ev2 op_addD pe_evInt (pe_evCal C__law_draw (hr.mono (by decide)) hgs (by rfl) tk (PA.cons' (pe_evVar (i := 1) rfl (.inl rfl)) (PA.cons' (pe_evCal C__law_pick (hr.mono (by decide)) hgs (by rfl) tk (PA.cons' (pe_evVar (i := 1) rfl (.inl rfl)) (PA.cons' (pe_evLst (PA.cons' pe_evInt (PA.cons' pe_evInt (PA.cons' (pe_ev2 op_powD pe_evInt pe_evInt) pa_evNil)))) pa_evNil)) (len_cons (len_cons (fun _ _ _ _ h => len_nil h)))) pa_evNil)) (len_cons (len_cons (fun _ _ _ _ h => len_nil h))))) pa_evNil)) (len_cons (len_cons (fun _ _ _ _ h => len_nil h)))))
  (pss_sSeq (ps_sIf (PW.pt (pw_tand (pt_cmp2 (op_neX hu64) (pe_evVar (i := 4) rfl (.inl rfl)) (pe_evLst pa_evNil) (nomark _)) (pw_and1 (pt_cmp2 (op_eqX hu64) (pe_evCal C__law_draw (hr.mono (by decide)) hgs (by rfl) tk (PA.cons' (pe_evVar (i := 1) rfl (.inl rfl)) (PA.cons' pe_evInt pa_evNil)) (len_cons (len_cons (fun _ _ _ _ h => len_nil h)))) pe_evInt (nomark _))))) (pss_sOne (ps_sSet (i := 5) sc_law.nd rfl (.inr rfl) (pe_ix2 (ix_subscD hu1) (pe_evCal C__law_pick (hr.mono (by decide)) hgs (by rfl) tk (PA.cons' (pe_evVar (i := 1) rfl (.inl rfl)) (PA.cons' (pe_evVar (i := 4) rfl (.inl rfl)) pa_evNil)) (len_cons (len_cons (fun _ _ _ _ h => len_nil h)))) pe_evInt (fun _ _ => rfl)))) pss_sNil)
  (pss_sSeq (ps_sSetLc (i := 6) (own := [("one", 11), ("two", 13), ("bound", 14)]) (sl := [11, 13, 14]) rfl sc_law.nd rfl rfl (sw_true rfl rfl rfl (by decide +kernel)) (pi_src (pe_evVar (i := 4) rfl (.inl rfl))) (blk_of (N := ["script", "pen", "lap", "web", "bounds", "number", "wrong", "due", "odd", "bad", "found", "one", "worth", "two", "bound"]) (sc := defScope s_law) (by decide +kernel)) (by decide) (fun _ _ _ _ _ => (pg_tgT rfl (pgs_tgCons (pg_tgN (i := 11) sc_law.nd rfl (.inl rfl)) (pgs_tgCons (pg_tgN (i := 13) sc_law.nd rfl (.inl rfl)) (pgs_tgCons (pg_tgN (i := 14) sc_law.nd rfl (.inl rfl)) pgs_tgNil))))) (fun _ _ _ _ _ => (pts_one (pt_cmp2 (op_geDd hu64) (pe_ev2 op_mulD (pe_ix2 (ix_subscD hu1) (pe_evVar (i := 5) rfl (.inr (.inl rfl))) pe_evInt (fun _ _ => rfl)) (pe_ix2 (ix_subscD hu1) (pe_evVar (i := 14) rfl (.inl rfl)) pe_evInt (fun _ _ => rfl))) (pe_ev2 op_mulD (pe_ix2 (ix_subscD hu1) (pe_evVar (i := 14) rfl (.inl rfl)) pe_evInt (fun _ _ => rfl)) (pe_ix2 (ix_subscD hu1) (pe_evVar (i := 5) rfl (.inr (.inl rfl))) pe_evInt (fun _ _ => rfl))) (nomark _)))) (fun _ _ _ _ _ => (pe_evTup (PA.cons' (pe_evVar (i := 11) rfl (.inl rfl)) (PA.cons' (pe_evVar (i := 13) rfl (.inl rfl)) pa_evNil)))))
  (pss_sSeq (ps_sSet (i := 7) sc_law.nd rfl (.inl rfl) (pe_evB (cr_reprD hgs hu64) (by rfl) T.repr' (by decide +kernel) (PA.cons' (pe_evBT (cr_tupleD) (by rfl) T.tuple' (by decide +kernel) (PA.cons' (pe_evLc (own := [("one", 11), ("worth", 12), ("two", 13)]) (sl := [11, 12, 13]) rfl sc_law.nd (pi_src (pe_ix2 (ix_subscD hu1) (pe_evVar (i := 3) rfl (.inr (.inl rfl))) pe_evInt (fun _ _ => rfl))) (blk_of (N := ["script", "pen", "lap", "web", "bounds", "number", "wrong", "due", "odd", "bad", "found", "one", "worth", "two", "bound"]) (sc := defScope s_law) (by decide +kernel)) (by decide) (fun _ _ _ _ _ => (pg_tgT rfl (pgs_tgCons (pg_tgN (i := 11) sc_law.nd rfl (.inl rfl)) (pgs_tgCons (pg_tgN (i := 12) sc_law.nd rfl (.inl rfl)) (pgs_tgCons (pg_tgN (i := 13) sc_law.nd rfl (.inl rfl)) pgs_tgNil))))) (fun _ _ _ _ _ => pts_evNil) (fun _ _ _ _ _ => (pe_evTup (PA.cons' (pe_evVar (i := 11) rfl (.inl rfl)) (PA.cons' (pe_evCal C__law_at (hr.mono (by decide)) hgs (by rfl) takes_none5 (PA.cons' (pe_evVar (i := 12) rfl (.inl rfl)) (PA.cons' (pe_evVar (i := 5) rfl (.inr (.inl rfl))) pa_evNil)) (len_cons (len_cons (fun _ _ _ _ h => len_nil h)))) (PA.cons' (pe_evVar (i := 13) rfl (.inl rfl)) pa_evNil)))))) pa_evNil)) pa_evNil)))
  (pss_sSeq (ps_sIf (pt_cmp2 (op_neX hu64) (pe_evVar (i := 6) rfl (.inl rfl)) (pe_evLst pa_evNil) (nomark _)) (pss_sOne (ps_sIf (pt_cmp2 (op_neX hu64) (pe_ref (k := 8) R__law_refused TE (by rfl) LA hcd (hr.mono (by decide)) hgs (LamX.lamS_by (sc := defScope s_law) (by decide +kernel)) rfl (fun _ _ _ _ _ => rfl) (fun A outer s H E f c' hr hgs => lamB hr fun tk hu1 hu64 hu65 => (pe_evCal C_web_at (hr.mono (by decide)) hgs (by rfl) tk (PA.cons' (pe_evVar (i := 3) rfl (.inr (.inr rfl))) (PA.cons' (pe_evVar (i := 5) rfl (.inr (.inr rfl))) pa_evNil)) (len_cons (len_cons (fun _ _ _ _ h => len_nil h)))))) (pe_evTup (PA.cons' pe_evStr (PA.cons' (pe_evB (cr_reprD hgs hu64) (by rfl) T.repr' (by decide +kernel) (PA.cons' (pe_ix2 (ix_subscD hu1) (pe_evVar (i := 6) rfl (.inl rfl)) pe_evInt (fun _ _ => rfl)) pa_evNil)) pa_evNil))) (nomark _)) (pss_sOne (ps_sRet pe_evBl)) pss_sNil)) (pss_sOne (ps_sIf (pt_cmp2 (op_neX hu64) (pe_evB (cr_reprD hgs hu64) (by rfl) T.repr' (by decide +kernel) (PA.cons' (pe_evCal C_web_at (hr.mono (by decide)) hgs (by rfl) tk (PA.cons' (pe_evVar (i := 3) rfl (.inr (.inl rfl))) (PA.cons' (pe_evVar (i := 5) rfl (.inr (.inl rfl))) pa_evNil)) (len_cons (len_cons (fun _ _ _ _ h => len_nil h)))) pa_evNil)) (pe_evVar (i := 7) rfl (.inl rfl)) (nomark _)) (pss_sOne (ps_sRet pe_evBl)) pss_sNil)))
  (pss_sSeq (ps_sSet (i := 8) sc_law.nd rfl (.inr rfl) (pe_evCal C__law_pick (hr.mono (by decide)) hgs (by rfl) tk (PA.cons' (pe_evVar (i := 1) rfl (.inl rfl)) (PA.cons' (pe_evLst (PA.cons' pe_evNon (PA.cons' (pe_evTup pa_evNil) (PA.cons' (pe_evBT (cr_listD rfl) (by rfl) T.list' (by decide +kernel) (PA.cons' (pe_evVar (i := 3) rfl (.inr (.inl rfl))) pa_evNil)) (PA.cons' (pe_evTup (PA.cons' (pe_evTup pa_evNil) (PA.cons' (pe_evTup pa_evNil) pa_evNil))) pa_evNil))))) pa_evNil)) (len_cons (len_cons (fun _ _ _ _ h => len_nil h)))))
  (pss_sSeq (ps_sSet (i := 9) sc_law.nd rfl (.inr rfl) (pe_evCal C__law_pick (hr.mono (by decide)) hgs (by rfl) tk (PA.cons' (pe_evVar (i := 1) rfl (.inl rfl)) (PA.cons' (pe_evLst (PA.cons' pe_evNon (PA.cons' (pe_evTup (PA.cons' pe_evInt (PA.cons' pe_evInt pa_evNil))) (PA.cons' (pe_evTup (PA.cons' (pe_ev1 un_negD pe_evInt) (PA.cons' pe_evInt pa_evNil))) (PA.cons' (pe_evTup (PA.cons' pe_evInt (PA.cons' pe_evInt pa_evNil))) (PA.cons' (pe_evTup (PA.cons' pe_evInt (PA.cons' pe_evInt pa_evNil))) (PA.cons' pe_evInt (PA.cons' (pe_evLst (PA.cons' pe_evInt (PA.cons' pe_evInt pa_evNil))) (PA.cons' (pe_evTup (PA.cons' pe_evBl (PA.cons' pe_evInt pa_evNil))) (PA.cons' pe_evStr pa_evNil)))))))))) pa_evNil)) (len_cons (len_cons (fun _ _ _ _ h => len_nil h)))))
  (pss_sSeq (ps_sSet (i := 10) sc_law.nd rfl (.inl rfl) (pe_evLst (PA.cons' (pe_ref (k := 8) R__law_refused TE (by rfl) LA hcd (hr.mono (by decide)) hgs (LamX.lamS_by (sc := defScope s_law) (by decide +kernel)) rfl (fun _ _ _ _ _ => rfl) (fun A outer s H E f c' hr hgs => lamB hr fun tk hu1 hu64 hu65 => (pe_evCal C_web_at (hr.mono (by decide)) hgs (by rfl) tk (PA.cons' (pe_evVar (i := 8) rfl (.inr (.inr rfl))) (PA.cons' (pe_evVar (i := 9) rfl (.inr (.inr rfl))) pa_evNil)) (len_cons (len_cons (fun _ _ _ _ h => len_nil h)))))) pa_evNil)))
  (pss_sSeq (ps_sExpr (pe_evM ty_lst PySem.F.plainAttrs_list PySem.F.slot_list_append PySem.F.type_list_append mt_appendM (pe_evVar (i := 10) rfl (.inl rfl)) (PA.cons' (pe_ref (k := 8) R__law_refused TE (by rfl) LA hcd (hr.mono (by decide)) hgs (LamX.lamS_by (sc := defScope s_law) (by decide +kernel)) rfl (fun _ _ _ _ _ => rfl) (fun A outer s H E f c' hr hgs => lamB hr fun tk hu1 hu64 hu65 => (pe_evCal C_web_at (hr.mono (by decide)) hgs (by rfl) tk (PA.cons' (pe_evVar (i := 3) rfl (.inr (.inr rfl))) (PA.cons' (pe_evVar (i := 9) rfl (.inr (.inr rfl))) pa_evNil)) (len_cons (len_cons (fun _ _ _ _ h => len_nil h)))))) pa_evNil)))
  (pss_sOne (ps_sIf (pt_cmp2 (op_neX hu64) (pe_evVar (i := 10) rfl (.inl rfl)) (pe_evLst (PA.cons' (pe_evTup (PA.cons' pe_evStr (PA.cons' (pe_evB (cr_reprD hgs hu64) (by rfl) T.repr' (by decide +kernel) (PA.cons' (pe_evVar (i := 8) rfl (.inr (.inl rfl))) pa_evNil)) pa_evNil))) (PA.cons' (pe_evTup (PA.cons' pe_evStr (PA.cons' (pe_evB (cr_reprD hgs hu64) (by rfl) T.repr' (by decide +kernel) (PA.cons' (pe_evVar (i := 9) rfl (.inr (.inl rfl))) pa_evNil)) pa_evNil))) pa_evNil))) (nomark _)) (pss_sOne (ps_sRet pe_evBl)) pss_sNil))))))))))))))
  (pss_sOne (ps_sRet pe_evBl))))
end
end G07
set_option Elab.async false
set_option linter.all false
set_option maxRecDepth 100000
set_option maxHeartbeats 0
/-! the head of raresteps_k07_rates_at_numbers: what the top leaves; the law's def -/
namespace HG07
open PySem PySem.Spec PyProof.Rows L2 He PP G07
def dd__law_pen : DefD := ⟨("_law_pen", none), "_law_pen", "_law_pen", defArgs s__law_pen, defBody s__law_pen, defScope s__law_pen, [], []⟩
def dd__law_draw : DefD := ⟨("_law_draw", none), "_law_draw", "_law_draw", defArgs s__law_draw, defBody s__law_draw, defScope s__law_draw, [], []⟩
def dd__law_pick : DefD := ⟨("_law_pick", none), "_law_pick", "_law_pick", defArgs s__law_pick, defBody s__law_pick, defScope s__law_pick, [], []⟩
def dd__law_number : DefD := ⟨("_law_number", none), "_law_number", "_law_number", defArgs s__law_number, defBody s__law_number, defScope s__law_number, [], []⟩
def dd__law_gcd : DefD := ⟨("_law_gcd", none), "_law_gcd", "_law_gcd", defArgs s__law_gcd, defBody s__law_gcd, defScope s__law_gcd, [], []⟩
def dd__law_fraction : DefD := ⟨("_law_fraction", none), "_law_fraction", "_law_fraction", defArgs s__law_fraction, defBody s__law_fraction, defScope s__law_fraction, [], []⟩
def dd__law_added : DefD := ⟨("_law_added", none), "_law_added", "_law_added", defArgs s__law_added, defBody s__law_added, defScope s__law_added, [], []⟩
def dd__law_worth_from : DefD := ⟨("_law_worth_from", none), "_law_worth_from", "_law_worth_from", defArgs s__law_worth_from, defBody s__law_worth_from, defScope s__law_worth_from, [], []⟩
def dd__law_rate : DefD := ⟨("_law_rate", none), "_law_rate", "_law_rate", defArgs s__law_rate, defBody s__law_rate, defScope s__law_rate, [], []⟩
def dd__law_web : DefD := ⟨("_law_web", none), "_law_web", "_law_web", defArgs s__law_web, defBody s__law_web, defScope s__law_web, [], []⟩
def dd__law_names : DefD := ⟨("_law_names", none), "_law_names", "_law_names", defArgs s__law_names, defBody s__law_names, defScope s__law_names, [], []⟩
def dd__law_bound : DefD := ⟨("_law_bound", none), "_law_bound", "_law_bound", defArgs s__law_bound, defBody s__law_bound, defScope s__law_bound, [], []⟩
def dd__law_at : DefD := ⟨("_law_at", none), "_law_at", "_law_at", defArgs s__law_at, defBody s__law_at, defScope s__law_at, [], []⟩
def dd_is_name : DefD := ⟨("is_name", none), "is_name", "is_name", defArgs s_is_name, defBody s_is_name, defScope s_is_name, [], []⟩
def dd_is_whole : DefD := ⟨("is_whole", none), "is_whole", "is_whole", defArgs s_is_whole, defBody s_is_whole, defScope s_is_whole, [], []⟩
def dd_is_count : DefD := ⟨("is_count", none), "is_count", "is_count", defArgs s_is_count, defBody s_is_count, defScope s_is_count, [], []⟩
def dd_is_fraction : DefD := ⟨("is_fraction", none), "is_fraction", "is_fraction", defArgs s_is_fraction, defBody s_is_fraction, defScope s_is_fraction, [], []⟩
def dd_is_term : DefD := ⟨("is_term", none), "is_term", "is_term", defArgs s_is_term, defBody s_is_term, defScope s_is_term, [], []⟩
def dd_is_worth : DefD := ⟨("is_worth", none), "is_worth", "is_worth", defArgs s_is_worth, defBody s_is_worth, defScope s_is_worth, [], []⟩
def dd_sign_of : DefD := ⟨("sign_of", none), "sign_of", "sign_of", defArgs s_sign_of, defBody s_sign_of, defScope s_sign_of, [], []⟩
def dd_is_step : DefD := ⟨("is_step", none), "is_step", "is_step", defArgs s_is_step, defBody s_is_step, defScope s_is_step, [], []⟩
def dd_is_web : DefD := ⟨("is_web", none), "is_web", "is_web", defArgs s_is_web, defBody s_is_web, defScope s_is_web, [], []⟩
def dd_need_web : DefD := ⟨("need_web", none), "need_web", "need_web", defArgs s_need_web, defBody s_need_web, defScope s_need_web, [], []⟩
def dd_is_less : DefD := ⟨("is_less", none), "is_less", "is_less", defArgs s_is_less, defBody s_is_less, defScope s_is_less, [], []⟩
def dd_fraction_of : DefD := ⟨("fraction_of", none), "fraction_of", "fraction_of", defArgs s_fraction_of, defBody s_fraction_of, defScope s_fraction_of, [], []⟩
def dd_divided : DefD := ⟨("divided", none), "divided", "divided", defArgs s_divided, defBody s_divided, defScope s_divided, [], []⟩
def dd_added : DefD := ⟨("added", none), "added", "added", defArgs s_added, defBody s_added, defScope s_added, [], []⟩
def dd_bound_of : DefD := ⟨("bound_of", none), "bound_of", "bound_of", defArgs s_bound_of, defBody s_bound_of, defScope s_bound_of, [], []⟩
def dd_multiplied : DefD := ⟨("multiplied", none), "multiplied", "multiplied", defArgs s_multiplied, defBody s_multiplied, defScope s_multiplied, [], []⟩
def dd_power : DefD := ⟨("power", none), "power", "power", defArgs s_power, defBody s_power, defScope s_power, [], []⟩
def dd_value_at : DefD := ⟨("value_at", none), "value_at", "value_at", defArgs s_value_at, defBody s_value_at, defScope s_value_at, [], []⟩
def dd_web_at : DefD := ⟨("web_at", none), "web_at", "web_at", defArgs s_web_at, defBody s_web_at, defScope s_web_at, [], []⟩
def dd_law : DefD := ⟨("law", none), "law", "law", defArgs s_law, defBody s_law, defScope s_law, [], []⟩
def dd__law_refused : DefD := ⟨("_law_refused", none), "_law_refused", "_law_refused", defArgs s__law_refused, defBody s__law_refused, defScope s__law_refused, [], []⟩
abbrev i_BadWeb : Stmt := (clsBody (topS 6)).getD 0 (.Pass ⟨0, 0, 0, 0⟩)
def di_BadWeb : DefD := ⟨("BadWeb", some "__init__"), "__init__", "BadWeb.__init__", defArgs i_BadWeb, defBody i_BadWeb, defScope i_BadWeb, [], []⟩
abbrev i_BadNumber : Stmt := (clsBody (topS 5)).getD 0 (.Pass ⟨0, 0, 0, 0⟩)
def di_BadNumber : DefD := ⟨("BadNumber", some "__init__"), "__init__", "BadNumber.__init__", defArgs i_BadNumber, defBody i_BadNumber, defScope i_BadNumber, [], []⟩
abbrev i_NotKept : Stmt := (clsBody (topS 7)).getD 0 (.Pass ⟨0, 0, 0, 0⟩)
def di_NotKept : DefD := ⟨("NotKept", some "__init__"), "__init__", "NotKept.__init__", defArgs i_NotKept, defBody i_NotKept, defScope i_NotKept, [], []⟩
def fn : List DefD := [dd__law_pen, dd__law_draw, dd__law_pick, dd__law_number, dd__law_gcd, dd__law_fraction, dd__law_added, dd__law_worth_from, dd__law_rate, dd__law_web, dd__law_names, dd__law_bound, dd__law_at, dd_is_name, dd_is_whole, dd_is_count, dd_is_fraction, dd_is_term, dd_is_worth, dd_sign_of, dd_is_step, dd_is_web, dd_need_web, dd_is_less, dd_fraction_of, dd_divided, dd_added, dd_bound_of, dd_multiplied, dd_power, dd_value_at, dd_web_at, dd_law, dd__law_refused, di_BadWeb, di_BadNumber, di_NotKept]
def faL : List Fa := [.glo "_law_pen", .glo "_law_draw", .glo "_law_pick", .glo "_law_number", .glo "_law_gcd", .glo "_law_fraction", .glo "_law_added", .glo "_law_worth_from", .glo "_law_rate", .glo "_law_web", .glo "_law_names", .glo "_law_bound", .glo "_law_at", .glo "is_name", .glo "is_whole", .glo "is_count", .glo "is_fraction", .glo "is_term", .glo "is_worth", .glo "sign_of", .glo "is_step", .glo "is_web", .glo "need_web", .glo "is_less", .glo "fraction_of", .glo "divided", .glo "added", .glo "bound_of", .glo "multiplied", .glo "power", .glo "value_at", .glo "web_at", .glo "law", .glo "_law_refused", .free "abs", .free "all", .free "bool", .free "dict", .free "int", .free "isinstance", .free "len", .free "list", .free "range", .free "repr", .free "sorted", .free "str", .free "tuple", .free "zip"]
/-- the code objects that make lambdas, and their tables -/
def csL (K : PySem.W.Frag) : List (Addr × Addr) := [(tabK K (fAd K ("law", none))).getD (0, 0)]
def tsL (K : PySem.W.Frag) : List (Addr × Str) := [(((tabK K (fAd K ("law", none))).getD (0, 0)).2, (("law" : Str) ++ ".<locals>.") ++ "<lambda>")]
def tb (K : PySem.W.Frag) : Bool := noList K && (noTabL K (csL K) && (faL.all (fun f => f.ok K) && (decide ((tsL K).map (·.1)).Nodup && ((tabK K (fAd K ("law", none))).isSome && (eqO (PySem.W.nsIn K mainGlobals "gcd") (some (some (.builtin "math.gcd"))) && (gsB "SMALL" "abcdefghijklmnopqrstuvwxyz" K && (gsB "SIGNS" "abcdefghijklmnopqrstuvwxyz0123456789" K && (exB "BadWeb" ["web"] K && (exB "BadNumber" ["what", "number"] K && (exB "NotKept" ["promise", "witness"] K && ((["BadWeb", "BadNumber", "NotKept"] : List Str).all fun c => (["BadNumber", "NotKept", "BadWeb"] : List Str).all fun cn => decide (PySem.W.exmOne K (.ref (ga K c)) (.ref (ga K cn)) = some (decide (c = cn))))))))))))))
abbrev R : PySem.W.OpenRow := PySem.W.OpenLaw.row PySem.Challenge.rw_raresteps_k07_rates_at_numbers
abbrev hk : PySem.W.Hook := hookF 6 tb fn
def ob (s : PySem.W.SharedT) : AlD := obsFG 6 tb fn (HandSHeadRun.getT s)
theorem ob_eq (s : PySem.W.SharedT) : ob s = hk.obs s.abs := by
  haveI : Tbl := ⟨[]⟩
  exact obsFG_eq (HandSHeadRun.getT_eq s)
def loose0 : List Str := ["SMALL", "SIGNS", "RareError", "BadNumber", "BadWeb", "NotKept", "is_whole", "is_count", "is_name", "is_fraction", "fraction_of", "added", "multiplied", "divided", "is_less", "is_term", "is_worth", "sign_of", "power", "value_at", "bound_of", "is_step", "is_web", "need_web", "web_at", "_law_pen", "_law_draw", "_law_pick", "_law_gcd", "_law_fraction"]
def loose1 : List Str := ["_law_added", "_law_worth_from", "_law_at", "_law_number", "_law_rate", "_law_names", "_law_web", "_law_refused", "_law_bound"]
def loose : List Str := loose0 ++ loose1
theorem run (w : World) : HandSHeadRun.RunEqI R (PySem.W.view R.prog [0, 44]) hk ob 4000 loose w := by
  unfold HandSHeadRun.RunEqI
  kernel_rfl
theorem facts {P : Program} {w : World} {K : PySem.W.Frag} {h : Heap} {mg : Str → Option Value} {fl : Addr} (kin : K.In h) (G : h.Ns mainGlobals mg) (hfl : mg ("law" : Str) = some (.ref fl)) (c : SaysF tb fn K) (hTS : ∀ x ∈ (["law"] : List Str), TabSays mg h x) :
    noList K = true ∧ noTabL K (csL K) = true ∧ (∀ p ∈ csL K, PySem.W.CodeHd h p.1 p.2 ∧ h.get? p.2 = some { cls := .none, data := .fields #[] }) ∧ (∀ p ∈ tsL K, p.1 ∈ (csL K).map (·.2)) ∧ ∃ fd : FuncData, (∀ (s : Shared) (v : Value), BindsTo s fd ⟨[v], []⟩ [("script", v)]) ∧ ∀ base : Heap, K.In base → base.Ns mainGlobals mg → (∀ p ∈ csL K, LamX.TabB base mg p.1 p.2) → @FnG ⟨tsL K⟩ K mg P w base 11 fl fd ["script"] g_law := by
  letI : Tbl := ⟨tsL K⟩
  have t := c.test
  unfold tb at t
  obtain ⟨t_nl, t⟩ := ba t
  obtain ⟨t_nt, t⟩ := ba t
  obtain ⟨t_fa, t⟩ := ba t
  obtain ⟨t_nd, t⟩ := ba t
  obtain ⟨t_tab_law, t⟩ := ba t
  obtain ⟨t_g_gcd, t⟩ := ba t
  obtain ⟨t_s_SMALL, t⟩ := ba t
  obtain ⟨t_s_SIGNS, t⟩ := ba t
  obtain ⟨t_x_BadWeb, t⟩ := ba t
  obtain ⟨t_x_BadNumber, t⟩ := ba t
  obtain ⟨t_x_NotKept, t⟩ := ba t
  have t_m := t
  have fact : ∀ (i : Nat) {f : Fa}, faL[i]? = some f → f.ok K = true := fun i f h => List.all_eq_true.mp t_fa f (List.mem_of_getElem? h)
  have T : Txt mg := ⟨free_ok kin G (fact 34 rfl), free_ok kin G (fact 35 rfl), free_ok kin G (fact 36 rfl), free_ok kin G (fact 37 rfl), free_ok kin G (fact 38 rfl), free_ok kin G (fact 39 rfl), free_ok kin G (fact 40 rfl), free_ok kin G (fact 41 rfl), free_ok kin G (fact 42 rfl), free_ok kin G (fact 43 rfl), free_ok kin G (fact 44 rfl), free_ok kin G (fact 45 rfl), free_ok kin G (fact 46 rfl), free_ok kin G (fact 47 rfl), PySem.W.mg_of kin G (eqO_ok t_g_gcd), gs_ok kin G t_s_SMALL, gs_ok kin G t_s_SIGNS⟩
  obtain ⟨fd__law_pen, F__law_pen⟩ := c.at_ 0 (d := dd__law_pen) rfl
  obtain ⟨fd__law_draw, F__law_draw⟩ := c.at_ 1 (d := dd__law_draw) rfl
  obtain ⟨fd__law_pick, F__law_pick⟩ := c.at_ 2 (d := dd__law_pick) rfl
  obtain ⟨fd__law_number, F__law_number⟩ := c.at_ 3 (d := dd__law_number) rfl
  obtain ⟨fd__law_gcd, F__law_gcd⟩ := c.at_ 4 (d := dd__law_gcd) rfl
  obtain ⟨fd__law_fraction, F__law_fraction⟩ := c.at_ 5 (d := dd__law_fraction) rfl
  obtain ⟨fd__law_added, F__law_added⟩ := c.at_ 6 (d := dd__law_added) rfl
  obtain ⟨fd__law_worth_from, F__law_worth_from⟩ := c.at_ 7 (d := dd__law_worth_from) rfl
  obtain ⟨fd__law_rate, F__law_rate⟩ := c.at_ 8 (d := dd__law_rate) rfl
  obtain ⟨fd__law_web, F__law_web⟩ := c.at_ 9 (d := dd__law_web) rfl
  obtain ⟨fd__law_names, F__law_names⟩ := c.at_ 10 (d := dd__law_names) rfl
  obtain ⟨fd__law_bound, F__law_bound⟩ := c.at_ 11 (d := dd__law_bound) rfl
  obtain ⟨fd__law_at, F__law_at⟩ := c.at_ 12 (d := dd__law_at) rfl
  obtain ⟨fd_is_name, F_is_name⟩ := c.at_ 13 (d := dd_is_name) rfl
  obtain ⟨fd_is_whole, F_is_whole⟩ := c.at_ 14 (d := dd_is_whole) rfl
  obtain ⟨fd_is_count, F_is_count⟩ := c.at_ 15 (d := dd_is_count) rfl
  obtain ⟨fd_is_fraction, F_is_fraction⟩ := c.at_ 16 (d := dd_is_fraction) rfl
  obtain ⟨fd_is_term, F_is_term⟩ := c.at_ 17 (d := dd_is_term) rfl
  obtain ⟨fd_is_worth, F_is_worth⟩ := c.at_ 18 (d := dd_is_worth) rfl
  obtain ⟨fd_sign_of, F_sign_of⟩ := c.at_ 19 (d := dd_sign_of) rfl
  obtain ⟨fd_is_step, F_is_step⟩ := c.at_ 20 (d := dd_is_step) rfl
  obtain ⟨fd_is_web, F_is_web⟩ := c.at_ 21 (d := dd_is_web) rfl
  obtain ⟨fd_need_web, F_need_web⟩ := c.at_ 22 (d := dd_need_web) rfl
  obtain ⟨fd_is_less, F_is_less⟩ := c.at_ 23 (d := dd_is_less) rfl
  obtain ⟨fd_fraction_of, F_fraction_of⟩ := c.at_ 24 (d := dd_fraction_of) rfl
  obtain ⟨fd_divided, F_divided⟩ := c.at_ 25 (d := dd_divided) rfl
  obtain ⟨fd_added, F_added⟩ := c.at_ 26 (d := dd_added) rfl
  obtain ⟨fd_bound_of, F_bound_of⟩ := c.at_ 27 (d := dd_bound_of) rfl
  obtain ⟨fd_multiplied, F_multiplied⟩ := c.at_ 28 (d := dd_multiplied) rfl
  obtain ⟨fd_power, F_power⟩ := c.at_ 29 (d := dd_power) rfl
  obtain ⟨fd_value_at, F_value_at⟩ := c.at_ 30 (d := dd_value_at) rfl
  obtain ⟨fd_web_at, F_web_at⟩ := c.at_ 31 (d := dd_web_at) rfl
  obtain ⟨fd_law, F_law⟩ := c.at_ 32 (d := dd_law) rfl
  obtain ⟨fd__law_refused, F__law_refused⟩ := c.at_ 33 (d := dd__law_refused) rfl
  obtain ⟨⟨c_law, P_law⟩, et_law⟩ := Option.isSome_iff_exists.mp t_tab_law
  have hs_law := tab_at kin (hTS "law" (by simp)) (glo_ok kin G (fact 32 (f := .glo "law") rfl)) et_law
  have ecs : csL K = [(c_law, P_law)] := by
    unfold csL
    rw [et_law]
    rfl
  have ets : tsL K = [(P_law, (("law" : Str) ++ ".<locals>.") ++ "<lambda>")] := by
    unfold tsL
    rw [et_law]
    rfl
  have tnd := of_decide_eq_true t_nd
  obtain ⟨fd_iBadWeb, F_iBadWeb⟩ := c.at_ 34 (d := di_BadWeb) rfl
  obtain ⟨fd_iBadNumber, F_iBadNumber⟩ := c.at_ 35 (d := di_BadNumber) rfl
  obtain ⟨fd_iNotKept, F_iNotKept⟩ := c.at_ 36 (d := di_NotKept) rfl
  have hgx : ∀ c ∈ (["BadWeb", "BadNumber", "NotKept"] : List Str), mg c = some (.ref (ga K c)) := fun c hc => by
    simp only [List.mem_cons, List.not_mem_nil, or_false] at hc
    rcases hc with rfl | rfl | rfl
    · exact glo_ok kin G (ba t_x_BadWeb).1
    · exact glo_ok kin G (ba t_x_BadNumber).1
    · exact glo_ok kin G (ba t_x_NotKept).1
  have hgx2 : ∀ c ∈ (["BadNumber", "NotKept", "BadWeb"] : List Str), mg c = some (.ref (ga K c)) := fun c hc => by
    simp only [List.mem_cons, List.not_mem_nil, or_false] at hc
    rcases hc with rfl | rfl | rfl
    · exact glo_ok kin G (ba t_x_BadNumber).1
    · exact glo_ok kin G (ba t_x_NotKept).1
    · exact glo_ok kin G (ba t_x_BadWeb).1
  have TE : TabOk K mg exT := tabOk_L hgx hgx2 t_m
  refine ⟨t_nl, t_nt, (fun p hp => by rw [ecs] at hp; simp only [List.mem_cons, List.not_mem_nil, or_false] at hp; rcases hp with rfl; exact hs_law), (fun p hp => by rw [ets] at hp; rw [ecs]; simp only [List.mem_cons, List.not_mem_nil, or_false] at hp; rcases hp with rfl <;> simp), fd_law, fun s v => FunD.bindsA (ps := ["script"]) F_law (fun _ _ _ _ _ _ us hl => match us, hl with | [_], _ => rfl) s [v] rfl, fun base _ _ hTB => ?_⟩
  have LA_law : LamAt base mg (("law" : Str) ++ ".<locals>.") c_law := ⟨P_law, hTB (c_law, P_law) (by rw [ecs]; simp), (by show _ ∈ tsL K; rw [ets]; simp), tabs_uniq tnd (by rw [ets]; simp)⟩
  have X_BadWeb := mkXC1 (P := P) (w := w) (base := base) kin G t_x_BadWeb F_iBadWeb ⟨rfl, rfl, rfl, by decide +kernel, rfl, by decide +kernel, by decide +kernel⟩ rfl rfl (by decide) (by decide) (fun _ _ _ _ _ _ us hl => match us, hl with | [_, _], _ => rfl)
  have X_BadNumber := mkXC2 (P := P) (w := w) (base := base) kin G t_x_BadNumber F_iBadNumber ⟨rfl, rfl, rfl, by decide +kernel, rfl, by decide +kernel, by decide +kernel⟩ rfl rfl rfl (by decide) (by decide) (by decide) (by decide) (fun _ _ _ _ _ _ us hl => match us, hl with | [_, _, _], _ => rfl)
  have X_NotKept := mkXC2 (P := P) (w := w) (base := base) kin G t_x_NotKept F_iNotKept ⟨rfl, rfl, rfl, by decide +kernel, rfl, by decide +kernel, by decide +kernel⟩ rfl rfl rfl (by decide) (by decide) (by decide) (by decide) (fun _ _ _ _ _ _ us hl => match us, hl with | [_, _, _], _ => rfl)
  have R__law_refused := ref__law_refused (P := P) (w := w) (base := base) T X_BadNumber X_NotKept X_BadWeb kin G (fact 33 (f := .glo "_law_refused") rfl) F__law_refused
  have C__law_pen := mkCal (P := P) (w := w) (base := base) kin G (fact 0 (f := .glo "_law_pen") rfl) F__law_pen (ok__law_pen T F__law_pen) (fun _ _ _ _ _ _ us hl => match us, hl with | [_], _ => rfl)
  have C__law_draw := mkCal (P := P) (w := w) (base := base) kin G (fact 1 (f := .glo "_law_draw") rfl) F__law_draw (ok__law_draw T F__law_draw) (fun _ _ _ _ _ _ us hl => match us, hl with | [_, _], _ => rfl)
  have C__law_pick := mkCal (P := P) (w := w) (base := base) kin G (fact 2 (f := .glo "_law_pick") rfl) F__law_pick (ok__law_pick T C__law_draw F__law_pick) (fun _ _ _ _ _ _ us hl => match us, hl with | [_, _], _ => rfl)
  have C__law_number := mkCal (P := P) (w := w) (base := base) kin G (fact 3 (f := .glo "_law_number") rfl) F__law_number (ok__law_number T C__law_draw C__law_pick F__law_number) (fun _ _ _ _ _ _ us hl => match us, hl with | [_], _ => rfl)
  have C__law_gcd := mkCal (P := P) (w := w) (base := base) kin G (fact 4 (f := .glo "_law_gcd") rfl) F__law_gcd (ok__law_gcd T F__law_gcd) (fun _ _ _ _ _ _ us hl => match us, hl with | [_, _], _ => rfl)
  have C__law_fraction := mkCal (P := P) (w := w) (base := base) kin G (fact 5 (f := .glo "_law_fraction") rfl) F__law_fraction (ok__law_fraction T C__law_gcd F__law_fraction) (fun _ _ _ _ _ _ us hl => match us, hl with | [_, _], _ => rfl)
  have C__law_added := mkCal (P := P) (w := w) (base := base) kin G (fact 6 (f := .glo "_law_added") rfl) F__law_added (ok__law_added T C__law_fraction F__law_added) (fun _ _ _ _ _ _ us hl => match us, hl with | [_, _], _ => rfl)
  have C__law_worth_from := mkCal (P := P) (w := w) (base := base) kin G (fact 7 (f := .glo "_law_worth_from") rfl) F__law_worth_from (ok__law_worth_from T C__law_added C__law_fraction F__law_worth_from) (fun _ _ _ _ _ _ us hl => match us, hl with | [_], _ => rfl)
  have C__law_rate := mkCal (P := P) (w := w) (base := base) kin G (fact 8 (f := .glo "_law_rate") rfl) F__law_rate (ok__law_rate T C__law_draw C__law_pick C__law_number C__law_worth_from F__law_rate) (fun _ _ _ _ _ _ us hl => match us, hl with | [_, _], _ => rfl)
  have C__law_web := mkCal (P := P) (w := w) (base := base) kin G (fact 9 (f := .glo "_law_web") rfl) F__law_web (ok__law_web T C__law_draw C__law_rate F__law_web) (fun _ _ _ _ _ _ us hl => match us, hl with | [_, _, _, _], _ => rfl)
  have C__law_names := mkCal (P := P) (w := w) (base := base) kin G (fact 10 (f := .glo "_law_names") rfl) F__law_names (ok__law_names T C__law_pick C__law_draw F__law_names) (fun _ _ _ _ _ _ us hl => match us, hl with | [_, _], _ => rfl)
  have C__law_bound := mkCal (P := P) (w := w) (base := base) kin G (fact 11 (f := .glo "_law_bound") rfl) F__law_bound (ok__law_bound T C__law_added C__law_fraction F__law_bound) (fun _ _ _ _ _ _ us hl => match us, hl with | [_], _ => rfl)
  have C__law_at := mkCal (P := P) (w := w) (base := base) kin G (fact 12 (f := .glo "_law_at") rfl) F__law_at (ok__law_at T C__law_added C__law_fraction F__law_at) (fun _ _ _ _ _ _ us hl => match us, hl with | [_, _], _ => rfl)
  have C_is_name := mkCal (P := P) (w := w) (base := base) kin G (fact 13 (f := .glo "is_name") rfl) F_is_name (ok_is_name T F_is_name) (fun _ _ _ _ _ _ us hl => match us, hl with | [_], _ => rfl)
  have C_is_whole := mkCal (P := P) (w := w) (base := base) kin G (fact 14 (f := .glo "is_whole") rfl) F_is_whole (ok_is_whole T F_is_whole) (fun _ _ _ _ _ _ us hl => match us, hl with | [_], _ => rfl)
  have C_is_count := mkCal (P := P) (w := w) (base := base) kin G (fact 15 (f := .glo "is_count") rfl) F_is_count (ok_is_count T C_is_whole F_is_count) (fun _ _ _ _ _ _ us hl => match us, hl with | [_], _ => rfl)
  have C_is_fraction := mkCal (P := P) (w := w) (base := base) kin G (fact 16 (f := .glo "is_fraction") rfl) F_is_fraction (ok_is_fraction T C_is_whole F_is_fraction) (fun _ _ _ _ _ _ us hl => match us, hl with | [_], _ => rfl)
  have C_is_term := mkCal (P := P) (w := w) (base := base) kin G (fact 17 (f := .glo "is_term") rfl) F_is_term (ok_is_term T C_is_count C_is_fraction F_is_term) (fun _ _ _ _ _ _ us hl => match us, hl with | [_], _ => rfl)
  have C_is_worth := mkCal (P := P) (w := w) (base := base) kin G (fact 18 (f := .glo "is_worth") rfl) F_is_worth (ok_is_worth T C_is_term F_is_worth) (fun _ _ _ _ _ _ us hl => match us, hl with | [_], _ => rfl)
  have C_sign_of := mkCal (P := P) (w := w) (base := base) kin G (fact 19 (f := .glo "sign_of") rfl) F_sign_of (ok_sign_of T F_sign_of) (fun _ _ _ _ _ _ us hl => match us, hl with | [_], _ => rfl)
  have C_is_step := mkCal (P := P) (w := w) (base := base) kin G (fact 20 (f := .glo "is_step") rfl) F_is_step (ok_is_step T C_is_name C_is_worth C_sign_of F_is_step) (fun _ _ _ _ _ _ us hl => match us, hl with | [_, _], _ => rfl)
  have C_is_web := mkCal (P := P) (w := w) (base := base) kin G (fact 21 (f := .glo "is_web") rfl) F_is_web (ok_is_web T C_is_name C_is_step F_is_web) (fun _ _ _ _ _ _ us hl => match us, hl with | [_], _ => rfl)
  have C_need_web := mkCal (P := P) (w := w) (base := base) kin G (fact 22 (f := .glo "need_web") rfl) F_need_web (ok_need_web T X_BadWeb C_is_web F_need_web) (fun _ _ _ _ _ _ us hl => match us, hl with | [_], _ => rfl)
  have C_is_less := mkCal (P := P) (w := w) (base := base) kin G (fact 23 (f := .glo "is_less") rfl) F_is_less (ok_is_less T F_is_less) (fun _ _ _ _ _ _ us hl => match us, hl with | [_, _], _ => rfl)
  have C_fraction_of := mkCal (P := P) (w := w) (base := base) kin G (fact 24 (f := .glo "fraction_of") rfl) F_fraction_of (ok_fraction_of T F_fraction_of) (fun _ _ _ _ _ _ us hl => match us, hl with | [_, _], _ => rfl)
  have C_divided := mkCal (P := P) (w := w) (base := base) kin G (fact 25 (f := .glo "divided") rfl) F_divided (ok_divided T C_fraction_of F_divided) (fun _ _ _ _ _ _ us hl => match us, hl with | [_, _], _ => rfl)
  have C_added := mkCal (P := P) (w := w) (base := base) kin G (fact 26 (f := .glo "added") rfl) F_added (ok_added T C_fraction_of F_added) (fun _ _ _ _ _ _ us hl => match us, hl with | [_, _], _ => rfl)
  have C_bound_of := mkCal (P := P) (w := w) (base := base) kin G (fact 27 (f := .glo "bound_of") rfl) F_bound_of (ok_bound_of T C_is_less C_divided C_added F_bound_of) (fun _ _ _ _ _ _ us hl => match us, hl with | [_], _ => rfl)
  have C_multiplied := mkCal (P := P) (w := w) (base := base) kin G (fact 28 (f := .glo "multiplied") rfl) F_multiplied (ok_multiplied T C_fraction_of F_multiplied) (fun _ _ _ _ _ _ us hl => match us, hl with | [_, _], _ => rfl)
  have C_power := mkCal (P := P) (w := w) (base := base) kin G (fact 29 (f := .glo "power") rfl) F_power (ok_power T F_power) (fun _ _ _ _ _ _ us hl => match us, hl with | [_, _], _ => rfl)
  have C_value_at := mkCal (P := P) (w := w) (base := base) kin G (fact 30 (f := .glo "value_at") rfl) F_value_at (ok_value_at T C_added C_multiplied C_power F_value_at) (fun _ _ _ _ _ _ us hl => match us, hl with | [_, _], _ => rfl)
  have C_web_at := mkCal (P := P) (w := w) (base := base) kin G (fact 31 (f := .glo "web_at") rfl) F_web_at (ok_web_at T X_BadNumber X_NotKept C_need_web C_is_fraction C_is_less C_bound_of C_value_at F_web_at) (fun _ _ _ _ _ _ us hl => match us, hl with | [_, _], _ => rfl)
  have e := hfl.symm.trans (glo_ok kin G (fact 32 (f := .glo "law") rfl))
  cases e
  exact ok_law T TE R__law_refused LA_law C__law_pen C__law_web C__law_draw C__law_names C__law_bound C__law_fraction C__law_pick C__law_at C_web_at (tabK_some et_law).1 F_law
end HG07
section
open PySem PySem.W PySem.Calls PyProof.Rows
/-- the law holds if its evaluator gives True -/
theorem HG07.holds_of (ht : ∀ ns : List Int, ns.length ≤ 63 → PP.LawTrue G07.g_law ns) : PySem.Challenge.rw_raresteps_k07_rates_at_numbers.Holds := by
  w_on; o_law
  refine HandSHeadRun.head_imp (r := OpenLaw.row PySem.Challenge.rw_raresteps_k07_rates_at_numbers) (q := view (OpenLaw.row PySem.Challenge.rw_raresteps_k07_rates_at_numbers).prog [0, 44]) (H := HG07.hk) (ob := HG07.ob) (M := 4000) (loose := HG07.loose) (d := HandSHeadRun.topDef (OpenLaw.row PySem.Challenge.rw_raresteps_k07_rates_at_numbers).prog 44) (kwd := []) HG07.ob_eq HG07.run
    (by kernel_rfl) (by kernel_rfl) (by kernel_rfl) (by rfl) (by first | assumption | decide +kernel) (by decide +kernel) ⟨rfl, rfl, rfl, rfl, rfl, by decide +kernel⟩ ?hw ?hc
  case hw => w_witness2
  case hc =>
    refine PP.walk_ofG (l := PySem.Challenge.rw_raresteps_k07_rates_at_numbers) (n := 63) (k := 11) (x := "script") rfl (by decide) (by kernel_rfl) ⟨rfl, by decide, by decide⟩ ?F
    intro w mg fa h Y G hmg0 hTS
    obtain ⟨K, kin, c⟩ := Y
    have hmg : mg ("law" : PySem.Str) = some (.ref fa) := by
      have e : (HandSHeadRun.topDef (OpenLaw.row PySem.Challenge.rw_raresteps_k07_rates_at_numbers).prog 44).name = ("law" : PySem.Str) := by kernel_rfl
      rw [← e]
      exact hmg0
    obtain ⟨nl, nt, h1, h2, fd, hb, hF⟩ := HG07.facts (P := (PySem.Challenge.rw_raresteps_k07_rates_at_numbers).prog) (w := w) kin G hmg c (fun x hx => PP.TabSays.of hTS (by revert x; decide +kernel))
    exact ⟨⟨HG07.tsL K⟩, K, fd, G07.g_law, HG07.csL K, kin, nl, nt, h1, h2, hb, ht, hF⟩
end
set_option Elab.async false
set_option linter.all false
/-! MA: fractions in lowest terms, worths as lists of order and number: plain Lean, no program in sight. -/
namespace MA
/-! ### lowest terms -/
/-- what both numbers are divided by -/
def shr (t b : Int) : Int := if b > 0 then ((Nat.gcd t.natAbs b.natAbs : Nat) : Int) else -((Nat.gcd t.natAbs b.natAbs : Nat) : Int)
theorem shr_ne {t b : Int} (h : b ≠ 0) : shr t b ≠ 0 := by
  have : 0 < Nat.gcd t.natAbs b.natAbs := Nat.gcd_pos_of_pos_right _ (by omega)
  unfold shr; split <;> omega
theorem shr_eq {t b : Int} (h : b ≠ 0) : shr t b = b.sign * ((b.gcd t : Nat) : Int) := by
  unfold shr
  rw [Int.gcd_comm]
  show (if b > 0 then ((t.gcd b : Nat) : Int) else -((t.gcd b : Nat) : Int)) = _
  split
  · rw [Int.sign_eq_one_of_pos (by omega), Int.one_mul]
  · rw [Int.sign_eq_neg_one_of_neg (by omega)]; omega
theorem part_num {t b : Int} (h : b ≠ 0) : t.fdiv (shr t b) = (Rat.divInt t b).num := by
  have g0 : ((b.gcd t : Nat) : Int) ≠ 0 := by
    have : b.gcd t ≠ 0 := by rw [Ne, Int.gcd_eq_zero_iff]; exact fun z => h z.1
    omega
  rw [Rat.num_divInt]
  obtain ⟨c, hc⟩ := Int.gcd_dvd_right b t
  have e : b.sign * t / ((b.gcd t : Nat) : Int) = b.sign * c := by
    have : b.sign * t = b.sign * c * ((b.gcd t : Nat) : Int) := by
      conv => lhs; rw [hc]
      rw [Int.mul_assoc, Int.mul_comm c]
    rw [this, Int.mul_ediv_cancel _ g0]
  rw [e]
  refine Int.fdiv_eq_of_eq_mul_left (shr_ne h) ?_
  rw [shr_eq h]
  have s2 : b.sign * b.sign = 1 := by
    rcases Int.lt_or_gt_of_ne h with k | k
    · rw [Int.sign_eq_neg_one_of_neg k]; rfl
    · rw [Int.sign_eq_one_of_pos k]; rfl
  calc t = ((b.gcd t : Nat) : Int) * c := hc
    _ = (b.sign * b.sign) * (((b.gcd t : Nat) : Int) * c) := by rw [s2, Int.one_mul]
    _ = _ := by simp only [Int.mul_assoc, Int.mul_comm, Int.mul_left_comm]
theorem part_den {t b : Int} (h : b ≠ 0) : b.fdiv (shr t b) = ((Rat.divInt t b).den : Int) := by
  rw [Rat.den_divInt, if_neg h]
  have hd : b.gcd t ∣ b.natAbs := Nat.gcd_dvd_left _ _
  refine Int.fdiv_eq_of_eq_mul_left (shr_ne h) ?_
  rw [shr_eq h]
  obtain ⟨c, hc⟩ := hd
  have g0 : 0 < b.gcd t := Nat.pos_of_ne_zero (by rw [Ne, Int.gcd_eq_zero_iff]; exact fun z => h z.1)
  rw [hc, Nat.mul_div_cancel_left _ g0]
  have e : b = b.sign * (b.natAbs : Int) := (Int.sign_mul_natAbs b).symm
  have e2 : (b.natAbs : Int) = ((b.gcd t : Nat) : Int) * (c : Int) := by rw [hc]; simp
  calc b = b.sign * (b.natAbs : Int) := e
    _ = b.sign * (((b.gcd t : Nat) : Int) * (c : Int)) := by rw [e2]
    _ = _ := by simp only [Int.mul_assoc, Int.mul_comm, Int.mul_left_comm]
theorem shr_le {t b : Int} (h : b ≠ 0) : (shr t b).natAbs ≤ b.natAbs := by
  have : Nat.gcd t.natAbs b.natAbs ≤ b.natAbs := Nat.gcd_le_right _ (by omega)
  unfold shr; split <;> omega
theorem num_den (q : Rat) : (q.num : Rat) / ((q.den : Int) : Rat) = q := by
  rw [← Rat.divInt_eq_div]; exact Rat.num_divInt_den q
theorem den_ne (q : Rat) : ((q.den : Int)) ≠ 0 := by have := q.den_pos; omega
theorem cast_ne {b : Int} (h : b ≠ 0) : (b : Rat) ≠ 0 := fun z => h (Rat.intCast_inj.mp z)
theorem add_parts (p q : Rat) : Rat.divInt (p.num * q.den + q.num * p.den) (p.den * q.den) = p + q := by
  have h := Rat.divInt_add_divInt p.num q.num (den_ne p) (den_ne q)
  rw [Rat.num_divInt_den, Rat.num_divInt_den] at h
  exact h.symm
theorem mul_parts (p q : Rat) : Rat.divInt (p.num * q.num) (p.den * q.den) = p * q := by
  have h := Rat.divInt_mul_divInt p.num q.num (d₁ := p.den) (d₂ := q.den)
  rw [Rat.num_divInt_den, Rat.num_divInt_den] at h
  exact h.symm
theorem div_parts (p q : Rat) : Rat.divInt (p.num * q.den) (p.den * q.num) = p / q := by
  have h := Rat.divInt_mul_divInt p.num q.den (d₁ := p.den) (d₂ := q.num)
  rw [← h, Rat.num_divInt_den, Rat.div_def]
  congr 1
  rw [← Rat.inv_divInt, Rat.num_divInt_den]
/-! ### sizes: a common bottom and a bound of the tops -/
def Lat (L B : Nat) (q : Rat) : Prop := ∃ a : Int, q * ((L : Int) : Rat) = (a : Rat) ∧ a.natAbs ≤ B
theorem Lat.zero (L B : Nat) : Lat L B 0 := ⟨0, by simp [Rat.zero_mul], by simp⟩
theorem Lat.add {L B C : Nat} {p q : Rat} (h : Lat L B p) (k : Lat L C q) : Lat L (B + C) (p + q) := by
  obtain ⟨a, e, l⟩ := h
  obtain ⟨b, f, m⟩ := k
  exact ⟨a + b, by rw [Rat.intCast_add, ← e, ← f, Rat.add_mul], by omega⟩
theorem Lat.neg {L B : Nat} {p : Rat} (h : Lat L B p) : Lat L B (-p) := by
  obtain ⟨a, e, l⟩ := h
  exact ⟨-a, by rw [Rat.intCast_neg, ← e, Rat.neg_mul], by omega⟩
theorem Lat.mul {L B M C : Nat} {p q : Rat} (h : Lat L B p) (k : Lat M C q) : Lat (L * M) (B * C) (p * q) := by
  obtain ⟨a, e, l⟩ := h
  obtain ⟨b, f, m⟩ := k
  refine ⟨a * b, ?_, ?_⟩
  · rw [Rat.intCast_mul, ← e, ← f]
    have : (((L * M : Nat) : Int) : Rat) = ((L : Int) : Rat) * ((M : Int) : Rat) := by rw [← Rat.intCast_mul]; norm_cast
    rw [this]; grind
  · rw [Int.natAbs_mul]; exact Nat.mul_le_mul l m
theorem Lat.le {L B C : Nat} {p : Rat} (h : Lat L B p) (k : B ≤ C) : Lat L C p := by
  obtain ⟨a, e, l⟩ := h
  exact ⟨a, e, by omega⟩
theorem Lat.one {B : Nat} {a : Int} (h : a.natAbs ≤ B) : Lat 1 B (a : Rat) := ⟨a, by simp [Rat.mul_one], h⟩
theorem Lat.up {L B : Nat} {p : Rat} (h : Lat L B p) (c : Nat) : Lat (L * c) (B * c) p := by
  have := h.mul (Lat.one (B := c) (a := (c : Int)) (by simp))
  obtain ⟨a, e, l⟩ := h
  refine ⟨a * c, ?_, ?_⟩
  · rw [Rat.intCast_mul, ← e]
    have : (((L * c : Nat) : Int) : Rat) = ((L : Int) : Rat) * ((c : Int) : Rat) := by rw [← Rat.intCast_mul]; norm_cast
    rw [this]; grind
  · rw [Int.natAbs_mul]
    exact Nat.mul_le_mul l (by simp)
theorem Lat.num {L B : Nat} {q : Rat} (hL : 0 < L) (h : Lat L B q) : q.num.natAbs ≤ B ∧ q.den ≤ L := by
  obtain ⟨a, e, l⟩ := h
  have k : q.num * L = a * q.den := by
    have h1 : (q.num : Rat) / ((q.den : Int) : Rat) * ((L : Int) : Rat) = (a : Rat) := by rw [num_den]; exact e
    have d0 : ((q.den : Int) : Rat) ≠ 0 := cast_ne (den_ne q)
    have h2 : (q.num : Rat) * ((L : Int) : Rat) = (a : Rat) * ((q.den : Int) : Rat) := by grind
    rw [← Rat.intCast_mul, ← Rat.intCast_mul] at h2
    exact Rat.intCast_inj.mp h2
  have k2 : q.num.natAbs * L = a.natAbs * q.den := by
    have := congrArg Int.natAbs k
    rw [Int.natAbs_mul, Int.natAbs_mul] at this
    simpa using this
  have c := q.reduced
  have d1 : q.num.natAbs ∣ a.natAbs := Nat.Coprime.dvd_of_dvd_mul_right c ⟨L, k2.symm⟩
  have d2 : q.den ∣ L := Nat.Coprime.dvd_of_dvd_mul_left c.symm ⟨a.natAbs, by rw [k2, Nat.mul_comm]⟩
  refine ⟨?_, Nat.le_of_dvd hL d2⟩
  by_cases z : a.natAbs = 0
  · rw [z, Nat.zero_mul] at k2
    have : q.num.natAbs = 0 := by
      rcases Nat.mul_eq_zero.mp k2 with x | x
      · exact x
      · omega
    omega
  · exact Nat.le_trans (Nat.le_of_dvd (by omega) d1) l
/-! ### worths: orders and numbers -/
abbrev W := List (Int × Rat)
def cf : W → Int → Rat
  | [], _ => 0
  | p :: r, j => (if p.1 = j then p.2 else 0) + cf r j
theorem cf_app : ∀ (a b : W) (j : Int), cf (a ++ b) j = cf a j + cf b j
  | [], b, j => by simp [cf, Rat.zero_add]
  | p :: a, b, j => by simp only [List.cons_append, cf, cf_app a b j, Rat.add_assoc]
theorem cf_perm {a b : W} (h : a.Perm b) (j : Int) : cf a j = cf b j := by
  induction h with
  | nil => rfl
  | cons x _ ih => simp only [cf, ih]
  | swap x y l => simp only [cf]; grind
  | trans _ _ h1 h2 => exact h1.trans h2
abbrev keys (a : W) : List Int := a.map (·.1)
theorem cf_notin : ∀ {a : W} {j : Int}, j ∉ keys a → cf a j = 0
  | [], _, _ => rfl
  | p :: a, j, h => by
    have h1 : ¬ p.1 = j := fun e => h (by simp [keys, e])
    have h2 : j ∉ keys a := fun e => h (List.mem_cons_of_mem _ e)
    simp only [cf, if_neg h1, cf_notin h2, Rat.add_zero]
theorem cf_mem : ∀ {a : W} {p : Int × Rat}, (keys a).Nodup → p ∈ a → cf a p.1 = p.2
  | q :: a, p, h, hp => by
    obtain ⟨h1, h2⟩ := List.nodup_cons.mp h
    rcases List.mem_cons.mp hp with e | e
    · subst e
      simp only [cf, if_pos, cf_notin h1, Rat.add_zero]
    · have : ¬ q.1 = p.1 := fun z => h1 (by show q.1 ∈ _; rw [z]; exact List.mem_map_of_mem e)
      simp only [cf, if_neg this, cf_mem h2 e, Rat.zero_add]
/-- each key with its number -/
theorem as_keys : ∀ {a : W}, (keys a).Nodup → a = (keys a).map fun k => (k, cf a k) := fun {a} h => by
  have : a.map (fun p => (p.1, cf a p.1)) = a.map id := List.map_congr_left (fun p hp => by rw [cf_mem h hp]; rfl)
  rw [List.map_id] at this
  conv => lhs; rw [← this]
  rw [List.map_map]; rfl
def put (a : W) (k : Int) (v : Rat) : W := if (a.any fun p => p.1 == k) = true then a.map fun p => if p.1 == k then (p.1, v) else p else a ++ [(k, v)]
theorem keys_put (a : W) (k : Int) (v : Rat) : keys (put a k v) = if k ∈ keys a then keys a else keys a ++ [k] := by
  unfold put
  by_cases h : k ∈ keys a
  · have : (a.any fun p => p.1 == k) = true := by
      obtain ⟨p, hp, e⟩ := List.mem_map.mp h
      exact List.any_eq_true.mpr ⟨p, hp, by simp [e]⟩
    rw [if_pos this, if_pos h]
    unfold keys
    rw [List.map_map]
    exact List.map_congr_left fun p _ => by simp only [Function.comp]; split <;> rfl
  · have : ¬ (a.any fun p => p.1 == k) = true := fun z => by
      obtain ⟨p, hp, e⟩ := List.any_eq_true.mp z
      exact h (List.mem_map.mpr ⟨p, hp, by simpa using e⟩)
    rw [if_neg this, if_neg h]
    simp [keys]
theorem nodup_put {a : W} (k : Int) (v : Rat) (h : (keys a).Nodup) : (keys (put a k v)).Nodup := by
  rw [keys_put]
  split
  · exact h
  · rename_i n
    exact List.nodup_append.mpr ⟨h, by simp, fun x hx y hy e => n (by rw [List.mem_singleton.mp hy] at e; rw [← e]; exact hx)⟩
theorem len_put (a : W) (k : Int) (v : Rat) : (put a k v).length ≤ a.length + 1 := by
  unfold put; split <;> simp
theorem mem_put {a : W} {k : Int} {v : Rat} {p : Int × Rat} (h : p ∈ put a k v) : p ∈ a ∨ p = (k, v) := by
  unfold put at h
  split at h
  · obtain ⟨q, hq, e⟩ := List.mem_map.mp h
    split at e
    · rename_i z
      exact .inr (by rw [← e]; exact Prod.ext (by simpa using z) rfl)
    · exact .inl (e ▸ hq)
  · rcases List.mem_append.mp h with z | z
    · exact .inl z
    · exact .inr (List.mem_singleton.mp z)
theorem cf_put {a : W} (k : Int) (v : Rat) (h : (keys a).Nodup) (j : Int) : cf (put a k v) j = if k = j then v else cf a j := by
  have nd := nodup_put k v h
  by_cases hj : j ∈ keys (put a k v)
  · obtain ⟨p, hp, rfl⟩ := List.mem_map.mp hj
    rw [cf_mem nd hp]
    unfold put at hp
    split at hp
    · obtain ⟨q, hq, e⟩ := List.mem_map.mp hp
      split at e
      · rename_i z
        subst e
        have y : q.1 = k := by simpa using z
        rw [if_pos y.symm]
      · rename_i z
        subst e
        rw [if_neg (fun y => z (by simp [y])), cf_mem h hq]
    · rename_i z
      rcases List.mem_append.mp hp with y | y
      · rw [if_neg (fun x => z (List.any_eq_true.mpr ⟨p, y, by simp [x]⟩)), cf_mem h y]
      · rw [List.mem_singleton.mp y]; simp
  · rw [cf_notin hj]
    rw [keys_put] at hj
    split at hj
    · rename_i z
      rw [if_neg (fun (e : k = j) => hj (e ▸ z)), cf_notin hj]
    · rw [if_neg (fun (e : k = j) => hj (e ▸ List.mem_append_right _ (by simp))), cf_notin (fun e => hj (List.mem_append_left _ e))]
/-- a number added at an order -/
def add1 (a : W) (t : Int × Rat) : W := put a t.1 (cf a t.1 + t.2)
def sums (a : W) (ts : W) : W := ts.foldl add1 a
theorem sums_app (a b c : W) : sums a (b ++ c) = sums (sums a b) c := List.foldl_append
theorem nodup_sums : ∀ (ts : W) {a : W}, (keys a).Nodup → (keys (sums a ts)).Nodup
  | [], _, h => h
  | t :: ts, a, h => nodup_sums ts (nodup_put _ _ h)
theorem len_sums : ∀ (ts a : W), (sums a ts).length ≤ a.length + ts.length
  | [], a => by simp [sums]
  | t :: ts, a => by
    have h1 := len_sums ts (add1 a t)
    have h2 := len_put a t.1 (cf a t.1 + t.2)
    show (sums (add1 a t) ts).length ≤ _
    simp only [List.length_cons]
    unfold add1 at h1 ⊢
    omega
theorem cf_sums : ∀ (ts : W) {a : W}, (keys a).Nodup → ∀ j, cf (sums a ts) j = cf a j + cf ts j
  | [], a, h, j => by simp [sums, cf, Rat.add_zero]
  | t :: ts, a, h, j => by
    show cf (sums (add1 a t) ts) j = _
    rw [cf_sums ts (a := add1 a t) (nodup_put _ _ h)]
    unfold add1
    rw [cf_put _ _ h]
    simp only [cf]
    split
    · rename_i e
      rw [e, Rat.add_assoc]
    · rw [Rat.zero_add]
theorem keys_sums : ∀ (ts a : W) {k : Int}, k ∈ keys (sums a ts) → k ∈ keys a ∨ k ∈ keys ts
  | [], _, _, h => .inl h
  | t :: ts, a, k, h => by
    rcases keys_sums ts (add1 a t) h with z | z
    · unfold add1 at z
      rw [keys_put] at z
      split at z
      · exact .inl z
      · rcases List.mem_append.mp z with y | y
        · exact .inl y
        · exact .inr (by rw [List.mem_singleton.mp y]; exact List.mem_cons_self)
    · exact .inr (List.mem_cons_of_mem _ z)
def nz (a : W) : W := a.filter fun p => decide (p.2 ≠ 0)
theorem cf_nz : ∀ (a : W) (j : Int), cf (nz a) j = cf a j
  | [], _ => rfl
  | p :: a, j => by
    unfold nz
    rw [List.filter_cons]
    split
    · show (if p.1 = j then p.2 else 0) + cf (nz a) j = _
      rw [cf_nz a j]; rfl
    · rename_i z
      have : p.2 = 0 := by simpa using z
      show cf (nz a) j = (if p.1 = j then p.2 else 0) + cf a j
      rw [cf_nz a j, this]
      simp [Rat.zero_add]
theorem keys_nz {a : W} (h : (keys a).Nodup) : (keys (nz a)).Nodup := List.Sublist.nodup (List.Sublist.map _ List.filter_sublist) h
def cross (a b : W) : W := a.flatMap fun p => b.map fun r => (p.1 + r.1, p.2 * r.2)
theorem cf_shift (k : Int) (q : Rat) : ∀ (b : W) (j : Int), cf (b.map fun r => (k + r.1, q * r.2)) j = q * cf b (j - k)
  | [], j => by simp [cf, Rat.mul_zero]
  | r :: b, j => by
    simp only [List.map_cons, cf, cf_shift k q b j]
    by_cases e : r.1 = j - k
    · rw [if_pos e, if_pos (by omega), Rat.mul_add]
    · rw [if_neg e, if_neg (by omega), Rat.mul_add, Rat.mul_zero]
theorem cf_cross_cons (p : Int × Rat) (a b : W) (j : Int) : cf (cross (p :: a) b) j = p.2 * cf b (j - p.1) + cf (cross a b) j := by
  unfold cross
  rw [List.flatMap_cons, cf_app, cf_shift]
theorem cross_perm {a a' b b' : W} (h : a.Perm a') (k : b.Perm b') (j : Int) : cf (cross a b) j = cf (cross a' b') j := by
  have h1 : cf (cross a b) j = cf (cross a' b) j := by
    unfold cross
    exact cf_perm (List.Perm.flatMap_right _ h) j
  have h2 : ∀ a : W, cf (cross a b) j = cf (cross a b') j := fun a => by
    induction a with
    | nil => rfl
    | cons p a ih => rw [cf_cross_cons, cf_cross_cons, cf_perm k, ih]
  rw [h1, h2]
theorem cross_low {b : W} {m k0 : Int} : ∀ (a : W), (∀ p ∈ a, p.2 = 0 ∨ p.1 = k0 ∨ cf b (m - p.1) = 0) → cf (cross a b) m = cf a k0 * cf b (m - k0)
  | [], _ => by simp [cross, cf, Rat.zero_mul]
  | p :: a, h => by
    rw [cf_cross_cons, cross_low a (fun q hq => h q (List.mem_cons_of_mem _ hq))]
    simp only [cf]
    by_cases e : p.1 = k0
    · rw [if_pos e, e, Rat.add_mul]
    · rw [if_neg e, Rat.zero_add]
      rcases h p List.mem_cons_self with z | z | z
      · rw [z, Rat.zero_mul, Rat.zero_add]
      · exact absurd z e
      · rw [z, Rat.mul_zero, Rat.zero_add]
/-! ### the sign: that of the lowest number -/
def sgv (q : Rat) : Int := if 0 < q then 1 else -1
def Sg (f : Int → Rat) (s : Int) : Prop := (s = 0 ∧ ∀ k, f k = 0) ∨ ∃ k, f k ≠ 0 ∧ (∀ j, j < k → f j = 0) ∧ s = sgv (f k)
theorem Sg.uniq {f : Int → Rat} {s t : Int} (h : Sg f s) (k : Sg f t) : s = t := by
  rcases h with ⟨rfl, h⟩ | ⟨i, h1, h2, rfl⟩ <;> rcases k with ⟨rfl, k⟩ | ⟨j, k1, k2, rfl⟩
  · rfl
  · exact absurd (h j) k1
  · exact absurd (k i) h1
  · have : i = j := by
      rcases Int.lt_trichotomy i j with z | z | z
      · exact absurd (k2 i z) h1
      · exact z
      · exact absurd (h2 j z) k1
    rw [this]
theorem sgv_neg {q : Rat} (h : q ≠ 0) : sgv (-q) = - sgv q := by
  unfold sgv
  by_cases z : 0 < q
  · rw [if_pos z, if_neg (by grind)]
  · rw [if_neg z, if_pos (by grind)]; rfl
theorem Sg.neg {f g : Int → Rat} {s : Int} (h : Sg f s) (e : ∀ k, g k = - f k) : Sg g (-s) := by
  rcases h with ⟨rfl, h⟩ | ⟨i, h1, h2, rfl⟩
  · exact .inl ⟨rfl, fun k => by rw [e, h k]; rfl⟩
  · exact .inr ⟨i, by rw [e]; grind, fun j hj => by rw [e, h2 j hj]; rfl, by rw [e, sgv_neg h1]⟩
theorem Sg.congr {f g : Int → Rat} {s : Int} (h : Sg f s) (e : ∀ k, g k = f k) : Sg g s := by
  have : g = f := funext e
  rw [this]; exact h
theorem Sg.some {f : Int → Rat} {s : Int} (h : Sg f s) : s = 0 ∨ s = 1 ∨ s = -1 := by
  rcases h with ⟨rfl, h⟩ | ⟨i, h1, h2, rfl⟩
  · exact .inl rfl
  · unfold sgv; split <;> simp
theorem sgv_ne (q : Rat) : sgv q ≠ 0 := by unfold sgv; split <;> omega
theorem Sg.zero {f : Int → Rat} (h : Sg f 0) : ∀ k, f k = 0 := by
  rcases h with ⟨_, h⟩ | ⟨i, h1, h2, e⟩
  · exact h
  · exact absurd e.symm (sgv_ne _)
/-- orders rise, no number is 0 -/
structure Good (a : W) : Prop where
  up : (keys a).Pairwise (· < ·)
  nz : ∀ p ∈ a, p.2 ≠ 0
theorem Good.nodup {a : W} (h : Good a) : (keys a).Nodup := h.up.imp (fun h => by omega)
def sgn : W → Int
  | [] => 0
  | p :: _ => sgv p.2
theorem Good.sg {a : W} (h : Good a) : Sg (cf a) (sgn a) := by
  cases a with
  | nil => exact .inl ⟨rfl, fun k => rfl⟩
  | cons p a =>
    have e : cf (p :: a) p.1 = p.2 := cf_mem h.nodup List.mem_cons_self
    refine .inr ⟨p.1, by rw [e]; exact h.nz p List.mem_cons_self, fun j hj => cf_notin fun hm => ?_, by rw [e]; rfl⟩
    rcases List.mem_cons.mp hm with z | z
    · have z' : j = p.1 := z
      omega
    · have y : p.1 < j := (List.pairwise_cons.mp h.up).1 j z
      omega
theorem Sg.pos {f : Int → Rat} (h : Sg f 1) : ∃ k, 0 < f k ∧ ∀ j, j < k → f j = 0 := by
  rcases h with ⟨e, h⟩ | ⟨i, h1, h2, e⟩
  · exact absurd e (by omega)
  · refine ⟨i, ?_, h2⟩
    unfold sgv at e
    split at e
    · assumption
    · exact absurd e (by omega)
theorem sg_cross {a b : W} (na : (keys a).Nodup) (ha : Sg (cf a) 1) (hb : Sg (cf b) 1) : Sg (cf (cross a b)) 1 := by
  obtain ⟨k, k1, k2⟩ := ha.pos
  obtain ⟨j, j1, j2⟩ := hb.pos
  have low : ∀ m, m ≤ k + j → ∀ p ∈ a, p.2 = 0 ∨ p.1 = k ∨ cf b (m - p.1) = 0 := fun m hm p hp => by
    rcases Int.lt_trichotomy p.1 k with z | z | z
    · exact .inl (by rw [← cf_mem na hp]; exact k2 _ z)
    · exact .inr (.inl z)
    · exact .inr (.inr (j2 _ (by omega)))
  refine .inr ⟨k + j, ?_, fun m hm => ?_, ?_⟩
  · rw [cross_low a (low _ (Int.le_refl _)), show k + j - k = j by omega]
    have := Rat.mul_pos k1 j1
    grind
  · rw [cross_low a (low _ (by omega)), j2 _ (by omega), Rat.mul_zero]
  · rw [cross_low a (low _ (Int.le_refl _)), show k + j - k = j by omega]
    unfold sgv
    rw [if_pos (Rat.mul_pos k1 j1)]
/-! ### sorted -/
def ups (ks : List Int) : List Int := ks.mergeSort fun x y => decide (x ≤ y)
theorem ups_perm (ks : List Int) : (ups ks).Perm ks := List.mergeSort_perm _ _
theorem ups_le (ks : List Int) : (ups ks).Pairwise (· ≤ ·) := by
  have h := List.pairwise_mergeSort (le := fun x y : Int => decide (x ≤ y)) (fun a b c h k => by simp only [decide_eq_true_eq] at *; omega) (fun a b => by simp only [Bool.or_eq_true, decide_eq_true_eq]; omega) ks
  exact h.imp (fun x => of_decide_eq_true x)
theorem ups_lt {ks : List Int} (h : ks.Nodup) : (ups ks).Pairwise (· < ·) := by
  have h1 := ups_le ks
  have h2 : (ups ks).Nodup := (ups_perm ks).nodup_iff.mpr h
  exact (List.pairwise_and_iff.mpr ⟨h1, h2⟩).imp (fun x => by have := x.1; have := x.2; omega)
/-- the same, orders rising -/
def srt (a : W) : W := (ups (keys a)).map fun k => (k, cf a k)
theorem keys_srt (a : W) : keys (srt a) = ups (keys a) := by
  unfold srt keys
  rw [List.map_map]
  show List.map (fun k => k) _ = _
  rw [List.map_id']
theorem srt_perm {a : W} (h : (keys a).Nodup) : (srt a).Perm a := by
  have := (ups_perm (keys a)).map fun k => (k, cf a k)
  rw [← as_keys h] at this
  exact this
theorem good_srt {a : W} (h : (keys a).Nodup) : Good (nz (srt a)) := by
  refine ⟨?_, fun p hp => by simpa using (List.mem_filter.mp hp).2⟩
  have : (keys (srt a)).Pairwise (· < ·) := by rw [keys_srt]; exact ups_lt h
  exact this.sublist (List.Sublist.map _ List.filter_sublist)
theorem cf_srt {a : W} (h : (keys a).Nodup) (j : Int) : cf (srt a) j = cf a j := cf_perm (srt_perm h) j
theorem cf_nsrt {a : W} (h : (keys a).Nodup) (j : Int) : cf (nz (srt a)) j = cf a j := by rw [cf_nz, cf_srt h]
theorem cf_neg : ∀ (a : W) (j : Int), cf (a.map fun p => (p.1, -p.2)) j = - cf a j
  | [], _ => rfl
  | p :: a, j => by
    simp only [List.map_cons, cf, cf_neg a j]
    split <;> grind
/-- sizes of sums -/
theorem Lat.cf {L B : Nat} : ∀ {a : W}, (∀ p ∈ a, Lat L B p.2) → ∀ j, Lat L (a.length * B) (cf a j)
  | [], _, j => Lat.zero L _
  | p :: a, h, j => by
    have h1 := Lat.cf (fun q hq => h q (List.mem_cons_of_mem _ hq)) (a := a) j
    have h2 := h p List.mem_cons_self
    show Lat L ((a.length + 1) * B) ((if p.1 = j then p.2 else 0) + MA.cf a j)
    rw [Nat.add_mul, Nat.one_mul, Nat.add_comm]
    refine Lat.add ?_ h1
    split
    · exact h2
    · exact Lat.zero L _
theorem mem_cross {a b : W} {p : Int × Rat} (h : p ∈ cross a b) : ∃ x ∈ a, ∃ y ∈ b, p = (x.1 + y.1, x.2 * y.2) := by
  obtain ⟨x, hx, h1⟩ := List.mem_flatMap.mp h
  obtain ⟨y, hy, rfl⟩ := List.mem_map.mp h1
  exact ⟨x, hx, y, hy, rfl⟩
theorem len_cross : ∀ (a b : W), (cross a b).length = a.length * b.length
  | [], b => by simp [cross]
  | p :: a, b => by
    unfold cross
    rw [List.flatMap_cons, List.length_append, List.length_map]
    have := len_cross a b
    unfold cross at this
    rw [this, List.length_cons, Nat.add_mul, Nat.one_mul, Nat.add_comm]
end MA
set_option Elab.async false
set_option linter.all false
/-! EV: worths at numbers: plain Lean. -/
namespace EV
open MA
def pw (q : Rat) : Nat → Rat
  | 0 => 1
  | n + 1 => pw q n * q
theorem pw_add (q : Rat) (n : Nat) : ∀ m, pw q (n + m) = pw q n * pw q m
  | 0 => by simp [pw, Rat.mul_one]
  | m + 1 => by rw [← Nat.add_assoc]; simp only [pw, pw_add q n m, Rat.mul_assoc]
def ev : W → Rat → Rat
  | [], _ => 0
  | p :: a, q => p.2 * pw q p.1.toNat + ev a q
theorem ev_app (q : Rat) : ∀ a b : W, ev (a ++ b) q = ev a q + ev b q
  | [], b => by simp [ev, Rat.zero_add]
  | p :: a, b => by simp only [List.cons_append, ev, ev_app q a b, Rat.add_assoc]
theorem ev_perm {a b : W} (h : a.Perm b) (q : Rat) : ev a q = ev b q := by
  induction h with
  | nil => rfl
  | cons x _ ih => simp only [ev, ih]
  | swap x y l => simp only [ev]; grind
  | trans _ _ h1 h2 => exact h1.trans h2
theorem ev_set (k : Int) (v : Rat) (q : Rat) : ∀ {a : W}, (keys a).Nodup → k ∈ keys a → ev (a.map fun p => if p.1 == k then (p.1, v) else p) q = ev a q + (v - cf a k) * pw q k.toNat
  | [], _, h => by cases h
  | p :: a, nd, h => by
    obtain ⟨h1, h2⟩ := List.nodup_cons.mp nd
    by_cases e : p.1 = k
    · have c : cf (p :: a) k = p.2 := by rw [← e]; exact cf_mem nd List.mem_cons_self
      have r : a.map (fun p => if p.1 == k then (p.1, v) else p) = a := by
        have : a.map (fun p => if p.1 == k then (p.1, v) else p) = a.map id := List.map_congr_left fun x hx => by
          have : x.1 ≠ k := fun z => h1 (by show p.1 ∈ _; rw [e, ← z]; exact List.mem_map_of_mem hx)
          simp [this]
        rw [this, List.map_id]
      rw [List.map_cons, r, c]
      simp only [e, beq_self_eq_true, if_true, ev]
      grind
    · have hk : k ∈ keys a := by
        rcases List.mem_cons.mp h with z | z
        · exact absurd z.symm e
        · exact z
      have c : cf (p :: a) k = cf a k := by simp [cf, e, Rat.zero_add]
      rw [List.map_cons, c]
      have e' : (p.1 == k) = false := by simpa using e
      simp only [e', Bool.false_eq_true, if_false, ev]
      rw [ev_set k v q h2 hk]
      grind
theorem ev_put {a : W} (k : Int) (v : Rat) (q : Rat) (nd : (keys a).Nodup) : ev (put a k v) q = ev a q + (v - cf a k) * pw q k.toNat := by
  unfold put
  by_cases h : k ∈ keys a
  · have : (a.any fun p => p.1 == k) = true := by
      obtain ⟨p, hp, e⟩ := List.mem_map.mp h
      exact List.any_eq_true.mpr ⟨p, hp, by simp [e]⟩
    rw [if_pos this]
    exact ev_set k v q nd h
  · have : ¬ (a.any fun p => p.1 == k) = true := fun z => by
      obtain ⟨p, hp, e⟩ := List.any_eq_true.mp z
      exact h (List.mem_map.mpr ⟨p, hp, by simpa using e⟩)
    rw [if_neg this, ev_app, cf_notin h]
    simp only [ev]
    grind
theorem ev_sums (q : Rat) : ∀ (ts : W) {a : W}, (keys a).Nodup → ev (sums a ts) q = ev a q + ev ts q
  | [], a, _ => by simp [sums, ev, Rat.add_zero]
  | t :: ts, a, h => by
    show ev (sums (add1 a t) ts) q = _
    rw [ev_sums q ts (a := add1 a t) (nodup_put _ _ h)]
    unfold add1
    rw [ev_put _ _ _ h]
    simp only [ev]
    grind
theorem ev_nz (q : Rat) : ∀ a : W, ev (nz a) q = ev a q
  | [] => rfl
  | p :: a => by
    unfold nz
    rw [List.filter_cons]
    split
    · show p.2 * pw q p.1.toNat + ev (nz a) q = _
      rw [ev_nz q a]; rfl
    · rename_i z
      have : p.2 = 0 := by simpa using z
      show ev (nz a) q = p.2 * pw q p.1.toNat + ev a q
      rw [ev_nz q a, this, Rat.zero_mul, Rat.zero_add]
theorem ev_tot (ts : W) (q : Rat) : ev (nz (srt (sums [] ts))) q = ev ts q := by
  have nd : (keys (sums [] ts)).Nodup := nodup_sums ts (a := []) List.nodup_nil
  rw [ev_nz, ev_perm (srt_perm nd), ev_sums q ts (a := []) List.nodup_nil]
  simp [ev, Rat.zero_add]
theorem ev_shift (k : Int) (c q : Rat) (hk : 0 ≤ k) : ∀ b : W, (∀ p ∈ b, 0 ≤ p.1) → ev (b.map fun r => (k + r.1, c * r.2)) q = c * pw q k.toNat * ev b q
  | [], _ => by simp [ev, Rat.mul_zero]
  | r :: b, h => by
    have h1 := h r List.mem_cons_self
    have e : (k + r.1).toNat = k.toNat + r.1.toNat := by omega
    simp only [List.map_cons, ev, ev_shift k c q hk b (fun p hp => h p (List.mem_cons_of_mem _ hp)), e, pw_add]
    grind
theorem ev_cross (q : Rat) : ∀ {a b : W}, (∀ p ∈ a, 0 ≤ p.1) → (∀ p ∈ b, 0 ≤ p.1) → ev (cross a b) q = ev a q * ev b q
  | [], b, _, _ => by simp [cross, ev, Rat.zero_mul]
  | p :: a, b, ha, hb => by
    unfold cross
    rw [List.flatMap_cons, ev_app, ev_shift _ _ _ (ha p List.mem_cons_self) b hb]
    have := ev_cross q (a := a) (b := b) (fun x hx => ha x (List.mem_cons_of_mem _ hx)) hb
    unfold cross at this
    rw [this]
    simp only [ev]
    grind
/-- two sorted worths with the same numbers are one -/
theorem good_ext : ∀ {a b : W}, Good a → Good b → (∀ j, cf a j = cf b j) → a = b
  | [], [], _, _, _ => rfl
  | [], p :: b, _, hb, h => by
    have := h p.1
    rw [cf_mem hb.nodup List.mem_cons_self] at this
    exact absurd this.symm (hb.nz p List.mem_cons_self)
  | p :: a, [], ha, _, h => by
    have := h p.1
    rw [cf_mem ha.nodup List.mem_cons_self] at this
    exact absurd this (ha.nz p List.mem_cons_self)
  | p :: a, r :: b, ha, hb, h => by
    have ua := List.pairwise_cons.mp ha.up
    have ub := List.pairwise_cons.mp hb.up
    have lowA : ∀ j, j < p.1 → cf (p :: a) j = 0 := fun j hj => cf_notin fun m => by
      rcases List.mem_cons.mp m with z | z
      · have z : j = p.1 := z
        omega
      · have : p.1 < j := ua.1 j z
        omega
    have lowB : ∀ j, j < r.1 → cf (r :: b) j = 0 := fun j hj => cf_notin fun m => by
      rcases List.mem_cons.mp m with z | z
      · have z : j = r.1 := z
        omega
      · have : r.1 < j := ub.1 j z
        omega
    have ea := cf_mem ha.nodup (p := p) List.mem_cons_self
    have eb := cf_mem hb.nodup (p := r) List.mem_cons_self
    have e1 : p.1 = r.1 := by
      rcases Int.lt_trichotomy p.1 r.1 with z | z | z
      · have := h p.1
        rw [ea, lowB _ z] at this
        exact absurd this (ha.nz p List.mem_cons_self)
      · exact z
      · have := h r.1
        rw [eb, lowA _ z] at this
        exact absurd this.symm (hb.nz r List.mem_cons_self)
    have e2 : p.2 = r.2 := by
      have := h p.1
      rw [ea, e1, eb] at this
      exact this
    have e3 : p = r := Prod.ext e1 e2
    subst e3
    have ga : Good a := ⟨ua.2, fun x hx => ha.nz x (List.mem_cons_of_mem _ hx)⟩
    have gb : Good b := ⟨ub.2, fun x hx => hb.nz x (List.mem_cons_of_mem _ hx)⟩
    have na := List.nodup_cons.mp ha.nodup
    have nb := List.nodup_cons.mp hb.nodup
    rw [good_ext ga gb fun j => by
      have := h j
      simp only [cf] at this
      grind]
theorem good_nil : Good ([] : W) := ⟨List.Pairwise.nil, fun p hp => by cases hp⟩
/-- a power in lowest terms -/
theorem pw_div (q : Rat) : ∀ n : Nat, Rat.divInt (q.num ^ n) ((q.den : Int) ^ n) = pw q n
  | 0 => by simp [pw]; rfl
  | n + 1 => by
    rw [Int.pow_succ, Int.pow_succ, ← Rat.divInt_mul_divInt, pw_div q n, Rat.num_divInt_den]
    rfl
end EV
set_option Elab.async false
set_option linter.all false
set_option maxRecDepth 100000
set_option maxHeartbeats 1000000
/-! FB: the evaluators of fractions. -/
namespace FB
open PySem PySem.Spec PyProof.Rows L2 PP MA G07
variable [Tbl]
/-! ### comparisons of numbers -/
theorem rd_int (st : Store) (a : Int) : rdP st (.int a) = some (.int a) := rfl
theorem empD_i (st : Store) (a : Int) (e : D) : empD st (.int a) e = none := rfl
theorem eqX_ii (a b : Int) (st : Store) : eqX (.int a) (.int b) st = some (.bl (decide (a = b)), st) := by
  unfold eqX eqD
  rw [empD_i]
  simp only [rd_int, PyData.eqv]
  rfl
theorem neX_ii (a b : Int) (st : Store) : neX (.int a) (.int b) st = some (.bl (decide (a ≠ b)), st) := by
  unfold neX neD
  rw [empD_i]
  simp only [rd_int, PyData.eqv]
  congr 3
  by_cases h : a = b <;> simp [h]
theorem ord_ii (a b : Int) : ordOk (.int a) (.int b) = true := by
  unfold ordOk
  simp [PySem.W.alike]
theorem ltD_ii (a b : Int) (st : Store) : ltD (.int a) (.int b) st = some (.bl (decide (a < b)), st) := by
  unfold ltD
  simp only [rd_int, ord_ii, PySem.W.dataLt_int, if_true]
theorem gtD_ii (a b : Int) (st : Store) : gtD (.int a) (.int b) st = some (.bl (decide (b < a)), st) := by
  unfold gtD
  simp only [rd_int, ord_ii, PySem.W.dataLt_int, if_true]
theorem geD_ii (a b : Int) (st : Store) : geD (.int a) (.int b) st = some (.bl (!decide (a < b)), st) := by
  unfold geD
  simp only [rd_int, ord_ii, PySem.W.dataLt_int, if_true]
/-! ### sizes -/
/-- a number of at most n binary digits -/
def Bs (n : Nat) (i : Int) : Prop := i.natAbs < 2 ^ n
theorem Bs.mono {n m : Nat} {i : Int} (h : Bs n i) (k : n ≤ m) : Bs m i := Nat.lt_of_lt_of_le h (Nat.pow_le_pow_right (by omega) k)
theorem Bs.mul {n m : Nat} {i j : Int} (h : Bs n i) (k : Bs m j) : Bs (n + m) (i * j) := by
  unfold Bs at *
  rw [Int.natAbs_mul, Nat.pow_add]
  exact Nat.mul_lt_mul_of_lt_of_lt h k
theorem Bs.add {n : Nat} {i j : Int} (h : Bs n i) (k : Bs n j) : Bs (n + 1) (i + j) := by
  unfold Bs at *
  have := Int.natAbs_add_le i j
  rw [Nat.pow_succ]
  omega
theorem Bs.log {n : Nat} {i : Int} (h : Bs n i) (k : 0 < n) : i.natAbs.log2 < n := by
  by_cases z : i.natAbs = 0
  · rw [z]; simpa using k
  · exact (Nat.log2_lt z).mpr h
theorem Bs.small {i : Int} (h : Bs 9000 i) : smallI i = true := decide_eq_true (by have := h.log (by omega); omega)
theorem mulD_ii {a b : Int} (h : Bs 9000 a) (k : Bs 9000 b) (st : Store) : mulD (.int a) (.int b) st = some (.int (a * b), st) := by
  unfold mulD
  simp only [h.small, k.small, Bool.and_self, if_true]
theorem floorD_ii {a b : Int} (hb : b ≠ 0) (h : Bs 9000 b) (st : Store) : floorD (.int a) (.int b) st = some (.int (a.fdiv b), st) := by
  unfold floorD
  simp only
  rw [if_pos ⟨hb, h.log (by omega)⟩]
theorem modD_ii {a b : Int} (hb : b ≠ 0) (st : Store) : modD (.int a) (.int b) st = some (.int (a.fmod b), st) := by
  unfold modD
  simp only
  rw [if_pos hb]
/-! ### fractions -/
abbrev fr (q : Rat) : D := .tup false [.int q.num, .int q.den]
/-- what may be multiplied and shown -/
structure Ok (q : Rat) : Prop where
  num : Bs 900 q.num
  den : Bs 900 q.den
theorem shr_bs {t b : Int} (h : b ≠ 0) (k : Bs 9000 b) : Bs 9000 (shr t b) := Nat.lt_of_le_of_lt (shr_le h) k
/-- the greatest common part, as the loop finds it -/
abbrev gcdB : Ss := sSeq (sIf (evTB (ev2 eqX (evVar 1) (evC (.int 0)))) (sRet (evVar 0)) sNext) (sPar 0 1 (evCons (evVar 1) (evCons (ev2 modD (evL intD (evCons (evVar 0) evNil)) (evVar 1)) evNil)))
theorem gcd_for : ∀ (k a b : Nat), b < 2 ^ k → ∀ (i m : Nat) (st : Store) (v : Option D), i + 2 * k + 1 ≤ 4000 → 2 * k + 1 ≤ m →
    forE (srcS (rangeL 0 4000)) (tgN 2) gcdB m i [some (.int a), some (.int b), v] st = .fl (.rt (.int (Nat.gcd a b : Nat))) st := by
  have item : ∀ i, i < 4000 → srcS (rangeL 0 4000) i = fun _ => some (some (.int (i : Nat))) := fun i hi => by
    funext _
    unfold srcS rangeL
    simp [hi]
  have stop : ∀ (a i m : Nat) (st : Store) (v : Option D), i < 4000 → 0 < m → forE (srcS (rangeL 0 4000)) (tgN 2) gcdB m i [some (.int a), some (.int (0 : Nat)), v] st = .fl (.rt (.int a)) st := fun a i m st v hi hm => by
    obtain ⟨m, rfl⟩ : ∃ j, m = j + 1 := ⟨m - 1, by omega⟩
    unfold forE
    rw [item i hi]
    simp [tgN, sSeq, sSet, sPar, sRet, sIf, sExpr, sNext, ofE, evCall, evL, evCons, evNil, ev1, ev2, evC, evVar, evIf, evTB, evT, evNot, tand, tor, tnot, Res.bind, Res.ofOpt, asB, List.getElem?_cons_zero, List.getElem?_cons_succ, List.set_cons_zero, List.set_cons_succ, Option.map_some, eqX_ii]
  have go : ∀ (a b i m : Nat) (st : Store) (v : Option D), i < 4000 → 0 < b → forE (srcS (rangeL 0 4000)) (tgN 2) gcdB (m + 1) i [some (.int a), some (.int b), v] st = forE (srcS (rangeL 0 4000)) (tgN 2) gcdB m (i + 1) [some (.int b), some (.int (a % b : Nat)), some (.int (i : Nat))] st := fun a b i m st v hi hb => by
    have b0 : (b : Int) ≠ 0 := by omega
    have e : Int.fmod (a : Int) (b : Int) = ((a % b : Nat) : Int) := by rw [Int.fmod_eq_emod_of_nonneg _ (by omega)]; rfl
    conv => lhs; unfold forE
    rw [item i hi]
    simp [tgN, sSeq, sSet, sPar, sRet, sIf, sExpr, sNext, ofE, evCall, evL, evCons, evNil, ev1, ev2, evC, evVar, evIf, evTB, evT, evNot, tand, tor, tnot, Res.bind, Res.ofOpt, asB, List.getElem?_cons_zero, List.getElem?_cons_succ, List.set_cons_zero, List.set_cons_succ, Option.map_some, eqX_ii, modD_ii b0, e, PP.intD, Nat.pos_iff_ne_zero.mp hb]
  intro k
  induction k with
  | zero =>
    intro a b hb i m st v hi hm
    have : b = 0 := by simpa using hb
    subst this
    rw [Nat.gcd_zero_right]
    exact stop a i m st v (by omega) (by omega)
  | succ k ih =>
    intro a b hb i m st v hi hm
    by_cases b0 : b = 0
    · subst b0
      rw [Nat.gcd_zero_right]
      exact stop a i m st v (by omega) (by omega)
    · obtain ⟨m, rfl⟩ : ∃ j, m = j + 2 := ⟨m - 2, by omega⟩
      rw [go a b i (m + 1) st v (by omega) (by omega)]
      have eg : Nat.gcd a b = Nat.gcd b (a % b) := by rw [Nat.gcd_comm a b, Nat.gcd_rec b a, Nat.gcd_comm]
      by_cases r0 : a % b = 0
      · rw [eg, r0, Nat.gcd_zero_right]
        exact stop b (i + 1) (m + 1) st _ (by omega) (by omega)
      · rw [go b (a % b) (i + 1) m st _ (by omega) (by omega)]
        have eg2 : Nat.gcd b (a % b) = Nat.gcd (a % b) (b % (a % b)) := by rw [Nat.gcd_comm b, Nat.gcd_rec (a % b) b, Nat.gcd_comm]
        rw [eg, eg2]
        refine ih (a % b) (b % (a % b)) ?_ (i + 1 + 1) m st _ (by omega) (by omega)
        have h1 : a % b < b := Nat.mod_lt _ (by omega)
        have h2 : b % (a % b) < a % b := Nat.mod_lt _ (by omega)
        have h3 : b % (a % b) + (a % b) ≤ b := by
          have := Nat.div_add_mod b (a % b)
          have d1 : 1 ≤ b / (a % b) := (Nat.one_le_div_iff (by omega)).mpr (by omega)
          have : (a % b) * 1 ≤ (a % b) * (b / (a % b)) := Nat.mul_le_mul_left _ d1
          omega
        rw [Nat.pow_succ] at hb
        omega
theorem law_gcd {t b : Int} (h : Bs 1990 b) (st : Store) : g__law_gcd [.int t, .int b] st = .ok (.int (Nat.gcd t.natAbs b.natAbs : Nat)) st := by
  have ea : ∀ i : Int, (if i < 0 then -i else i) = ((i.natAbs : Nat) : Int) := fun i => by split <;> omega
  have hw := gcd_for 1990 t.natAbs b.natAbs h 0 fuelF st none (by omega) (by unfold fuelF; omega)
  have rg : ∀ env, evRg1 (evCons (evC (.int 4000)) evNil) env st = .ok (srcS (rangeL 0 4000)) st := fun env => by
    unfold evRg1
    simp only [sSeq, sSet, sPar, sRet, sIf, sExpr, sNext, ofE, evCall, evL, evCons, evNil, ev1, ev2, evC, evVar, evIf, evTB, evT, evNot, tand, tor, tnot, Res.bind, Res.ofOpt, asB, List.getElem?_cons_zero, List.getElem?_cons_succ, List.set_cons_zero, List.set_cons_succ, Option.map_some, srcRg, show small62 4000 = true by decide, if_true]
    rfl
  unfold g__law_gcd b__law_gcd runS startD
  simp only [List.map_cons, List.map_nil, List.length_cons, List.length_nil, Nat.zero_add, Nat.reduceAdd, Nat.reduceSub, List.replicate_succ, List.replicate_zero, List.cons_append, List.nil_append]
  unfold gcdB at hw
  simp only [sSeq, sPar, evCons, evNil, evL, evVar, Res.bind, absD, Res.ofOpt, ofE, ea, List.getElem?_cons_zero, List.getElem?_cons_succ, List.set_cons_zero, List.set_cons_succ, sFor, rg] at hw ⊢
  rw [hw]
theorem law_fraction {t b : Int} (hb : 0 < b) (h : Bs 1990 b) (st : Store) : g__law_fraction [.int t, .int b] st = .ok (fr (Rat.divInt t b)) st := by
  have hs := shr_ne (t := t) (b := b) (by omega)
  have hz : Bs 9000 (shr t b) := Nat.lt_of_le_of_lt (shr_le (t := t) (b := b) (by omega)) (h.mono (by omega) : Bs 9000 b)
  have hl : 2 ≤ sizeLine := by decide
  rw [← show D.tup false [.int (t.fdiv (shr t b)), .int (b.fdiv (shr t b))] = fr (Rat.divInt t b) by rw [part_num (by omega), part_den (by omega)]]
  have es : shr t b = ((Nat.gcd t.natAbs b.natAbs : Nat) : Int) := by unfold shr; rw [if_pos hb]
  rw [es] at hs hz ⊢
  unfold g__law_fraction b__law_fraction runS startD
  simp only [List.map_cons, List.map_nil, List.length_cons, List.length_nil, Nat.zero_add, Nat.reduceAdd, Nat.reduceSub, List.replicate_succ, List.replicate_zero, List.cons_append, List.nil_append, sSeq, sSet, sPar, sRet, sIf, sExpr, sNext, ofE, evCall, evL, evCons, evNil, ev1, ev2, evC, evVar, evIf, evTB, evT, evNot, tand, tor, tnot, Res.bind, Res.ofOpt, asB, List.getElem?_cons_zero, List.getElem?_cons_succ, List.set_cons_zero, List.set_cons_succ, Option.map_some, law_gcd h, floorD_ii hs hz, mkTup, hl, if_true]
theorem fraction_of {t b : Int} (hb : b ≠ 0) (h : Bs 9000 b) (st : Store) : g_fraction_of [.int t, .int b] st = .ok (fr (Rat.divInt t b)) st := by
  have hs := shr_ne (t := t) hb
  have hz := shr_bs (t := t) hb h
  have hl : 2 ≤ sizeLine := by decide
  rw [← show D.tup false [.int (t.fdiv (shr t b)), .int (b.fdiv (shr t b))] = fr (Rat.divInt t b) by rw [part_num hb, part_den hb]]
  unfold g_fraction_of b_fraction_of runS startD
  by_cases c : 0 < b
  · have es : shr t b = ((Nat.gcd t.natAbs b.natAbs : Nat) : Int) := by unfold shr; rw [if_pos c]
    rw [es] at hs hz ⊢
    simp [sSeq, sSet, sRet, ofE, evCons, evNil, evVar, Res.bind, gcdD, evIf, evTB, ev2, evC, gtD_ii, Res.ofOpt, asB, evL, mkTup, floorD_ii hs hz, c, hl]
  · have es : shr t b = -((Nat.gcd t.natAbs b.natAbs : Nat) : Int) := by unfold shr; rw [if_neg c]
    rw [es] at hs hz ⊢
    simp [sSeq, sSet, sRet, ofE, evCons, evNil, evVar, Res.bind, gcdD, evIf, evTB, ev2, ev1, negD, evC, gtD_ii, Res.ofOpt, asB, evL, mkTup, floorD_ii hs hz, c, hl]
theorem ix0 (b : Bool) (x : D) (r : List D) (st : Store) : subscD (.tup b (x :: r)) (.int 0) st = some (x, st) := by
  unfold subscD ixD
  simp [L2.atI, L2.ixN]
theorem ix1 (b : Bool) (x y : D) (r : List D) (st : Store) : subscD (.tup b (x :: y :: r)) (.int 1) st = some (y, st) := by
  unfold subscD ixD
  have : (1 : Int) < (r.length : Int) + 1 + 1 := by omega
  simp [L2.atI, L2.ixN, this]
theorem ix2 (b : Bool) (x y z : D) (r : List D) (st : Store) : subscD (.tup b (x :: y :: z :: r)) (.int 2) st = some (z, st) := by
  unfold subscD ixD
  have : (2 : Int) < (r.length : Int) + 1 + 1 + 1 := by omega
  simp [L2.atI, L2.ixN, this]
theorem addD_ii (a b : Int) (st : Store) : addD (.int a) (.int b) st = some (.int (a + b), st) := rfl
theorem subD_ii (a b : Int) (st : Store) : subD (.int a) (.int b) st = some (.int (a - b), st) := rfl
section
variable {p q : Rat} (hp : Ok p) (hq : Ok q)
theorem Ok.k1 {p : Rat} (h : Ok p) : Bs 9000 p.num := h.num.mono (by omega)
theorem Ok.k2 {p : Rat} (h : Ok p) : Bs 9000 (p.den : Int) := h.den.mono (by omega)
theorem den_mul_ne (p q : Rat) : (p.den : Int) * (q.den : Int) ≠ 0 := Int.mul_ne_zero (den_ne p) (den_ne q)
theorem den_mul_pos (p q : Rat) : 0 < (p.den : Int) * (q.den : Int) := Int.mul_pos (by have := p.den_pos; omega) (by have := q.den_pos; omega)
include hp hq
theorem den_mul_bs : Bs 9000 ((p.den : Int) * (q.den : Int)) := (hp.den.mul hq.den).mono (by omega)
theorem den_mul_bs' : Bs 1990 ((p.den : Int) * (q.den : Int)) := (hp.den.mul hq.den).mono (by omega)
theorem law_added (st : Store) : g__law_added [fr p, fr q] st = .ok (fr (p + q)) st := by
  unfold g__law_added b__law_added runS startD
  simp [sRet, ofE, evCall, evCons, evNil, evVar, Res.bind, ev2, evC, ix0, ix1, mulD_ii hp.k1 hq.k2, mulD_ii hq.k1 hp.k2, mulD_ii hp.k2 hq.k2, Res.ofOpt, addD_ii, law_fraction (den_mul_pos p q) (den_mul_bs' hp hq), add_parts]
theorem added (st : Store) : g_added [fr p, fr q] st = .ok (fr (p + q)) st := by
  unfold g_added b_added runS startD
  simp [sRet, ofE, evCall, evCons, evNil, evVar, Res.bind, ev2, evC, ix0, ix1, mulD_ii hp.k1 hq.k2, mulD_ii hq.k1 hp.k2, mulD_ii hp.k2 hq.k2, Res.ofOpt, addD_ii, fraction_of (den_mul_ne p q) (den_mul_bs hp hq), add_parts]
theorem multiplied (st : Store) : g_multiplied [fr p, fr q] st = .ok (fr (p * q)) st := by
  unfold g_multiplied b_multiplied runS startD
  simp [sRet, ofE, evCall, evCons, evNil, evVar, Res.bind, ev2, evC, ix0, ix1, mulD_ii hp.k1 hq.k1, mulD_ii hp.k2 hq.k2, Res.ofOpt, fraction_of (den_mul_ne p q) (den_mul_bs hp hq), mul_parts]
theorem over_bs (q0 : q ≠ 0) : (p.den : Int) * q.num ≠ 0 ∧ Bs 9000 ((p.den : Int) * q.num) := ⟨Int.mul_ne_zero (den_ne p) (fun z => q0 (Rat.num_eq_zero.mp z)), (hp.den.mul hq.num).mono (by omega)⟩
theorem divided (q0 : q ≠ 0) (st : Store) : g_divided [fr p, fr q] st = .ok (fr (p / q)) st := by
  unfold g_divided b_divided runS startD
  simp [sRet, ofE, evCall, evCons, evNil, evVar, Res.bind, ev2, evC, ix0, ix1, mulD_ii hp.k1 hq.k2, mulD_ii hp.k2 hq.k1, Res.ofOpt, fraction_of (over_bs hp hq q0).1 (over_bs hp hq q0).2, div_parts]
end
end FB
set_option Elab.async false
set_option linter.all false
set_option maxRecDepth 100000
set_option maxHeartbeats 1000000
/-! FC: dicts and tuples of worths. -/
namespace FC
open PySem PySem.Spec PyProof.Rows L2 PP MA FB G07
variable [Tbl]
abbrev kv (a : W) : List (D × D) := a.map fun p => (.int p.1, fr p.2)
abbrev tm (p : Int × Rat) : D := .tup false [.int p.1, .int p.2.num, .int p.2.den]
abbrev tms (a : W) : D := .tup false (a.map tm)
theorem keq_ii (a b : Int) : keq (.int a) (.int b) = decide (a = b) := by
  show decide ((Sum.inl (Sum.inl a) : Sum Key (List Key)) = Sum.inl (Sum.inl b)) = _
  simp
theorem dget_kv : ∀ {a : W} (k : Int), (keys a).Nodup → dget (kv a) (.int k) = if k ∈ keys a then some (fr (cf a k)) else none
  | [], k, _ => rfl
  | p :: a, k, h => by
    obtain ⟨h1, h2⟩ := List.nodup_cons.mp h
    have ih := dget_kv (a := a) k h2
    unfold dget at ih ⊢
    unfold kv at ih ⊢
    rw [List.map_cons, List.find?_cons]
    simp only [keq_ii]
    by_cases e : p.1 = k
    · have m : k ∈ keys (p :: a) := by rw [← e]; exact List.mem_cons_self
      rw [if_pos m]
      have c : cf (p :: a) k = p.2 := by rw [← e]; exact cf_mem h List.mem_cons_self
      simp [e, c]
    · have c : cf (p :: a) k = cf a k := by simp [cf, e, Rat.zero_add]
      rw [c]
      simp only [e, decide_false]
      rw [ih]
      have : (k ∈ keys (p :: a)) ↔ k ∈ keys a := by
        simp only [keys, List.map_cons, List.mem_cons]
        exact ⟨fun z => z.resolve_left (fun y => e y.symm), .inr⟩
      simp only [this]
theorem dput_kv (a : W) (k : Int) (v : Rat) : dput (kv a) (.int k) (fr v) = kv (put a k v) := by
  have e1 : ((kv a).any fun p => keq p.1 (.int k)) = a.any fun p => p.1 == k := by
    unfold kv
    rw [List.any_map]
    congr 1
    funext p
    simp only [Function.comp, keq_ii]
    rfl
  unfold dput put
  rw [e1]
  split
  · simp only [kv, List.map_map]
    refine List.map_congr_left fun p _ => ?_
    simp only [Function.comp, keq_ii]
    by_cases e : p.1 = k <;> simp [e]
  · simp [kv]
theorem isK_i (k : Int) : isK (.int k) = true := rfl
theorem look_kv {st : Store} {l : Nat} {lk : Bool} {a : W} (e : st[l]? = some (lk, .dct (kv a))) (h : a = [] → lk = false) (nd : (keys a).Nodup) (k : Int) : lookD st (.ref l) (.int k) = some (if k ∈ keys a then some (fr (cf a k)) else none) := by
  unfold lookD
  rw [← dget_kv k nd]
  cases a with
  | nil =>
    have := h rfl
    subst this
    simp only [kv, List.map_nil] at e ⊢
    simp [e, isK_i, dget]
  | cons p a => simp [kv, e, isK_i]
theorem ixD_dct {st : Store} {l : Nat} {lk : Bool} {kvs : List (D × D)} (e : st[l]? = some (lk, .dct kvs)) (k : D) : ixD (.ref l) k st = none := by
  unfold ixD
  cases k <;> simp [e]
theorem get_kv {st : Store} {l : Nat} {lk : Bool} {a : W} (e : st[l]? = some (lk, .dct (kv a))) (nd : (keys a).Nodup) {k : Int} (h : k ∈ keys a) : subscD (.ref l) (.int k) st = some (fr (cf a k), st) := by
  have h0 : a = [] → lk = false := fun z => by subst z; cases h
  unfold subscD
  rw [ixD_dct e]
  simp only [dgetD, look_kv e h0 nd, if_pos h]
theorem put_kv {st : Store} {l : Nat} {a : W} (e : st[l]? = some (false, .dct (kv a))) (k : Int) (v : Rat) (h : a.length < sizeLine) : putD (.ref l) (.int k) (fr v) st = some (st.set l (false, .dct (kv (put a k v)))) := by
  have h1 : lputD (.ref l) (.int k) (fr v) st = none := by
    unfold lputD
    simp [e]
  unfold putD
  rw [h1]
  simp only [dputD]
  rw [e]
  cases a with
  | nil => simp [kv, isK_i, put]
  | cons p a =>
    rw [← dput_kv]
    simp only [kv, List.map_cons, isK_i, Bool.and_self]
    rw [if_pos ⟨.inl trivial, by simpa using h⟩]
/-! ### the store's end -/
theorem at_end (S ex : Store) (c : Bool × Cell) : (S ++ c :: ex)[S.length]? = some c := by
  rw [List.getElem?_append_right (Nat.le_refl _), Nat.sub_self]; rfl
theorem set_end (S ex : Store) (c d : Bool × Cell) : (S ++ c :: ex).set S.length d = S ++ d :: ex := by
  rw [List.set_append_right _ _ (Nat.le_refl _), Nat.sub_self]; rfl
theorem add_end (S ex e2 : Store) (c : Bool × Cell) : S ++ c :: ex ++ e2 = S ++ c :: (ex ++ e2) := by simp
theorem Ext.end (S ex : Store) (c : Bool × Cell) : Ext S (S ++ c :: ex) := ⟨_, rfl⟩
/-! ### sorted -/
theorem optAll_some {α β : Type} (f : β → α) : ∀ l : List β, optAll (l.map fun x => some (f x)) = some (l.map f)
  | [] => rfl
  | x :: l => by
    show (optAll (l.map fun x => some (f x))).map _ = _
    rw [optAll_some f l]; rfl
theorem sorted_ints (st : Store) (ks : List Int) : sortedL st (ks.map D.int) = some ((ups ks).map D.int) := by
  have e : (ks.map D.int).map (rdP st) = ks.map fun x => some (PyData.int x) := by rw [List.map_map]; rfl
  have b : sortB (ks.map PyData.int) = true := by
    unfold sortB allAlike
    rw [Bool.and_eq_true]
    refine ⟨List.all_eq_true.mpr fun x hx => List.all_eq_true.mpr fun y hy => ?_, ?_⟩
    · obtain ⟨i, _, rfl⟩ := List.mem_map.mp hx
      obtain ⟨j, _, rfl⟩ := List.mem_map.mp hy
      simp [PySem.W.alike]
    · rw [Bool.or_eq_true]
      refine .inr (List.all_eq_true.mpr fun x hx => ?_)
      obtain ⟨i, _, rfl⟩ := List.mem_map.mp hx
      rfl
  unfold sortedL
  rw [e, optAll_some PyData.int]
  simp only
  rw [if_pos b]
  congr 1
  unfold ups
  refine (List.map_mergeSort fun i _ j _ => ?_).symm
  exact (congrFun (congrFun (PySem.W.dataLe_int (fun k : Int => k)) i) j).symm
theorem kv_keys (a : W) : (kv a).map (·.1) = (keys a).map D.int := by
  unfold kv keys
  rw [List.map_map, List.map_map]; rfl
theorem dctK_kv {st : Store} {l : Nat} {a : W} (e : st[l]? = some (false, .dct (kv a))) : dctK st (.ref l) = some (kv a) := by
  unfold dctK
  cases a with
  | nil => simp [kv] at e ⊢; simp [e]
  | cons p a => simp [kv] at e ⊢; simp [e, isK_i]
theorem sortedD_kv {st : Store} {l : Nat} {a : W} (e : st[l]? = some (false, .dct (kv a))) : sortedD [.ref l] st = some (.ref st.length, st ++ [(false, .lst ((ups (keys a)).map D.int))]) := by
  have h1 : lstD st (.ref l) = none := by unfold lstD; simp [e]
  unfold sortedD
  simp only [h1, dctK_kv e, kv_keys, sorted_ints, Option.bind_some, newL]
/-! ### walks over lists and tuples -/
/-- the value is walked as these items -/
def Walks (v : D) (S : Store) (ds : List D) : Prop := v = .tup false ds ∨ ∃ l lk, v = .ref l ∧ S[l]? = some (lk, .lst ds)
theorem Walks.src {v : D} {S : Store} {ds : List D} (h : Walks v S ds) {env : EnvD} {f : Ev D} (hf : ∀ s, f env s = .ok v s) : ∃ g, (∀ s, Ext S s → evSrc f env s = .ok g s) ∧ ∀ s i, Ext S s → g i s = some ds[i]? := by
  rcases h with rfl | ⟨l, lk, rfl, e⟩
  · exact ⟨srcS ds, fun s _ => by unfold evSrc; rw [hf]; rfl, fun _ _ _ => rfl⟩
  · refine ⟨srcL l, fun s x => ?_, fun s i x => ?_⟩
    · unfold evSrc
      rw [hf]
      simp only [Res.bind, srcD, x.get e]
      rfl
    · unfold srcL
      rw [x.get e]
theorem var_ok {env : EnvD} {i : Nat} {v : D} (h : env[i]? = some (some v)) (s : Store) : evVar i env s = .ok v s := by unfold evVar; rw [h]
/-! ### summed -/
/-- a term before it is brought to lowest terms -/
abbrev Raw := Int × Int × Int
abbrev rt (r : Raw) : D := .tup false [.int r.1, .int r.2.1, .int r.2.2]
abbrev rq (r : Raw) : Int × Rat := (r.1, Rat.divInt r.2.1 r.2.2)
theorem fr0 : D.tup false [.int 0, .int 1] = fr 0 := rfl
theorem one_le : 1 ≤ sizeLine := by decide
theorem two_le : 2 ≤ sizeLine := by decide
theorem three_le : 3 ≤ sizeLine := by decide
theorem cf_or (a : W) (k : Int) : (if k ∈ keys a then some (fr (cf a k)) else none).getD (fr 0) = fr (cf a k) := by
  split
  · rfl
  · rename_i h
    rw [cf_notin h]; rfl
theorem take_snoc {α : Type} (l : List α) (i : Nat) {x : α} (h : l[i]? = some x) : l.take (i + 1) = l.take i ++ [x] := by
  obtain ⟨hl, e⟩ := List.getElem?_eq_some_iff.mp h
  rw [List.take_succ_eq_append_getElem hl, e]
theorem Rpu.of_eq {α : Type} {r : Store → Res α} {st : Store} {a : α} (h : ∀ s, Ext st s → r s = .ok a s) : Rpu r st a := fun S x => ⟨[], by rw [h S x, List.append_nil]⟩
def pz (a : W) : D → Bool
  | .int k => decide (cf a k ≠ 0)
  | _ => false
def kz (a : W) : D → D
  | .int k => tm (k, cf a k)
  | d => d
theorem nsrt_map (a : W) : ((((ups (keys a)).map D.int).filter (pz a)).map (kz a)) = (nz (srt a)).map tm := by
  unfold nz srt
  rw [List.filter_map, List.filter_map, List.map_map, List.map_map]
  rfl
theorem num_dec (q : Rat) : decide (q.num ≠ 0) = decide (q ≠ 0) := by
  have := Rat.num_eq_zero (q := q)
  simp only [ne_eq, this]
/-- a dict as a worth: orders rising, noughts left out -/
theorem worth_out {v : D} {l : Nat} {e2 e3 e4 : Option D} {S1 : Store} {a : W} (h : S1[l]? = some (false, .dct (kv a))) (nd : (keys a).Nodup) (hz : a.length < sizeLine) :
    Pr (evL tupleD (evCons (evLc (evSrc (evL sortedD (evCons (evVar 1) evNil))) (tgN 2) [2] (evTB (ev2 neX (ev2 subscD (ev2 subscD (evVar 1) (evVar 2)) (evC (.int 0))) (evC (.int 0)))) (ev2 addD (evL mkTup (evCons (evVar 2) evNil)) (ev2 subscD (evVar 1) (evVar 2)))) evNil)) [some v, some (.ref l), e2, e3, e4] S1 (tms (nz (srt a))) := by
  refine pr_lcL ((ups (keys a)).map D.int) (pz a) (kz a) ?hz ?hs ?hb ?ho
  case hz => 
    rw [List.length_map, (ups_perm _).length_eq, List.length_map]
    exact hz
  case hs =>
    intro S x
    refine ⟨srcL S.length, [(false, .lst ((ups (keys a)).map D.int))], ?_, fun S' i x' => ?_⟩
    · unfold evSrc evL evCons evNil
      simp only [evVar, Res.bind, List.getElem?_cons_succ, List.getElem?_cons_zero, sortedD_kv (x.get h), Res.ofOpt, srcD, at_end]
      rfl
    · unfold srcL
      rw [x'.get (at_end S [] _)]
  case hb =>
    intro d hd
    obtain ⟨k, hk, rfl⟩ := List.mem_map.mp hd
    have hk' : k ∈ keys a := (ups_perm _).mem_iff.mp hk
    refine ⟨[some v, some (.ref l), some (.int k), e3, e4], rfl, Rpu.of_eq fun s x => ?_, fun _ => Rpu.of_eq fun s x => ?_⟩
    · have g := get_kv (x.get h) nd hk'
      unfold evTB ev2 evC
      simp only [evVar, Res.bind, List.getElem?_cons_succ, List.getElem?_cons_zero, g, Res.ofOpt, ix0, neX_ii, asB, Option.map_some, num_dec, pz]
    · have g := get_kv (x.get h) nd hk'
      unfold ev2 evL evCons evNil
      simp only [evVar, Res.bind, List.getElem?_cons_succ, List.getElem?_cons_zero, g, Res.ofOpt, mkTup, List.length_cons, List.length_nil, one_le, if_true, Nat.zero_add, Nat.reduceAdd, addD, three_le, List.cons_append, List.nil_append, kz, Bool.or_self]
  case ho =>
    intro S l' x e
    rw [nsrt_map] at e
    unfold tupleD
    simp only [e]
theorem worth_from {rs : List Raw} {v : D} {S : Store} (hw : Walks v S (rs.map rt)) (hn : rs.length < sizeLine) (hb : ∀ r ∈ rs, 0 < r.2.2 ∧ Bs 1990 r.2.2 ∧ Ok (rq r).2) (hc : ∀ i j, Ok (cf ((rs.map rq).take i) j)) :
    ∃ ex, g__law_worth_from [v] S = .ok (tms (nz (srt (sums [] (rs.map rq))))) (S ++ ex) := by
  have nd : ∀ i, (keys (sums [] ((rs.map rq).take i))).Nodup := fun i => nodup_sums _ (a := []) List.nodup_nil
  have cs : ∀ i j, cf (sums [] ((rs.map rq).take i)) j = cf ((rs.map rq).take i) j := fun i j => by rw [cf_sums _ (a := []) List.nodup_nil]; simp [cf, Rat.zero_add]
  obtain ⟨g, g1, g2⟩ := hw.src (env := [some v, some (.ref S.length), none, none, none]) (f := evVar 0) (fun s => rfl)
  obtain ⟨e, s, q, e2, e3, e4, ex, rfl, rfl⟩ := sFor_inv (src := evSrc (evVar 0)) (tg := tgT 3 (tgsCons (tgN 2) (tgsCons (tgN 3) (tgsCons (tgN 4) tgsNil)))) (body := (sSub putD (evVar 1) (evVar 2) (evCall g__law_added (evCons (evGet2 (evVar 1) (evVar 2) (evL mkTup (evCons (evC (.int 0)) (evCons (evC (.int 1)) evNil)))) (evCons (evCall g__law_fraction (evCons (evVar 3) (evCons (evVar 4) evNil))) evNil)))))
    (env := [some v, some (.ref S.length), none, none, none]) (st := S ++ [(false, .dct [])]) (st1 := S ++ [(false, .dct [])]) (g := g) (rs.map rt)
    (fun i env st => ∃ e2 e3 e4 ex, env = [some v, some (.ref S.length), e2, e3, e4] ∧ st = S ++ (false, .dct (kv (sums [] ((rs.map rq).take i)))) :: ex) (by simpa using hn) (g1 _ ⟨_, rfl⟩)
    ⟨none, none, none, [], rfl, by simp [sums, kv]⟩ (fun i env st h => by
      obtain ⟨_, _, _, ex, _, rfl⟩ := h
      exact g2 _ _ (Ext.end _ _ _)) (fun i d env st hd h => by
      obtain ⟨e2, e3, e4, ex, rfl, rfl⟩ := h
      rw [List.getElem?_map] at hd
      obtain ⟨r, hr, rfl⟩ := Option.map_eq_some_iff.mp hd
      have hr' : (rs.map rq)[i]? = some (rq r) := by rw [List.getElem?_map, hr]; rfl
      obtain ⟨b0, b1, b2⟩ := hb r (List.mem_of_getElem? hr)
      have lk := look_kv (at_end S ex (false, .dct (kv (sums [] ((rs.map rq).take i))))) (fun _ => rfl) (nd i) r.1
      have hl : (sums [] ((rs.map rq).take i)).length < sizeLine := by
        have := len_sums ((rs.map rq).take i) []
        simp only [List.length_nil, List.length_take, List.length_map] at this
        omega
      have o1 : Ok (cf (sums [] ((rs.map rq).take i)) r.1) := by rw [cs]; exact hc i r.1
      refine ⟨[some v, some (.ref S.length), some (.int r.1), some (.int r.2.1), some (.int r.2.2)], rfl, [some v, some (.ref S.length), some (.int r.1), some (.int r.2.1), some (.int r.2.2)], _, .inl ?_, some (.int r.1), some (.int r.2.1), some (.int r.2.2), ex, rfl, rfl⟩
      have pk := put_kv (at_end S ex (false, .dct (kv (sums [] ((rs.map rq).take i))))) r.1 (cf (sums [] ((rs.map rq).take i)) r.1 + (rq r).2) hl
      have isd : isDct (.ref S.length) (S ++ (false, Cell.dct (kv (sums [] ((rs.map rq).take i)))) :: ex) = true := by unfold isDct; simp only [at_end]
      have e0 : (if r.1 ∈ keys (sums [] ((rs.map rq).take i)) then some (fr (cf (sums [] ((rs.map rq).take i)) r.1)) else none).getD (D.tup false [.int 0, .int 1]) = fr (cf (sums [] ((rs.map rq).take i)) r.1) := cf_or _ _
      have fo := FB.law_fraction (t := r.2.1) b0 b1 (S ++ (false, Cell.dct (kv (sums [] ((rs.map rq).take i)))) :: ex)
      have ad := FB.law_added o1 b2 (S ++ (false, Cell.dct (kv (sums [] ((rs.map rq).take i)))) :: ex)
      have fin : sums [] ((rs.map rq).take (i + 1)) = put (sums [] ((rs.map rq).take i)) r.1 (cf (sums [] ((rs.map rq).take i)) r.1 + (rq r).2) := by
        rw [take_snoc _ _ hr', sums_app]; rfl
      rw [fin]
      unfold sSub evCall evGet2 evL evCons evNil evC
      simp only [evVar, Res.bind, ofE, List.getElem?_cons_succ, List.getElem?_cons_zero, isd, if_true, mkTup, List.length_cons, List.length_nil, two_le, Nat.zero_add, Nat.reduceAdd, Res.ofOpt, lk, e0, fo, ad, pk, set_end])
  rw [List.length_map, List.take_of_length_le (by simp)] at q
  have nd1 : (keys (sums [] (rs.map rq))).Nodup := nodup_sums _ (a := []) List.nodup_nil
  have hz1 : (sums [] (rs.map rq)).length < sizeLine := by
    have := len_sums (rs.map rq) []
    simp only [List.length_nil, List.length_map] at this
    omega
  generalize sums [] (rs.map rq) = a at q nd1 hz1 ⊢
  obtain ⟨ex2, h2⟩ := (worth_out (v := v) (e2 := e2) (e3 := e3) (e4 := e4) (S1 := S ++ (false, .dct (kv a)) :: ex) (at_end _ _ _) nd1 hz1).here
  refine ⟨(false, .dct (kv a)) :: ex ++ ex2, ?_⟩
  rw [← List.append_assoc]
  unfold g__law_worth_from b__law_worth_from runS startD
  simp only [sSeq, sSet, mkDct, ofE, List.map_cons, List.map_nil, List.length_cons, List.length_nil, Nat.zero_add, Nat.reduceSub, List.replicate_succ, List.replicate_zero, List.cons_append, List.nil_append, List.set_cons_succ, List.set_cons_zero, q, sRet, h2]
end FC
set_option Elab.async false
set_option linter.all false
set_option maxRecDepth 100000
set_option maxHeartbeats 1000000
/-! FD: the program's products, sums, negatives. -/
namespace FD
open PySem PySem.Spec PyProof.Rows L2 PP MA FB FC G07
variable [Tbl]
/-! ### two clauses, items that stand still -/
theorem lcIn_run {tg : Tgt} {env : EnvD} {te : Ev D} (S : Store) (ds : List D) (k : D → D) (hz : ∀ d ∈ ds, ∃ env1, tg d env = some env1 ∧ ∀ s, te env1 s = .ok (k d) s) :
    ∀ (n i : Nat) (acc : List D) (ex : Store), i + n = ds.length → acc.length + n < sizeLine → ∀ m, n < m → lcIn (srcS ds) tg env tyes te S.length m i (S ++ (false, .lst acc) :: ex) = some (S ++ (false, .lst (acc ++ (ds.drop i).map k)) :: ex)
  | 0, i, acc, ex, hi, ha, m, hm => by
    obtain ⟨m, rfl⟩ : ∃ j, m = j + 1 := ⟨m - 1, by omega⟩
    unfold lcIn srcS
    rw [List.getElem?_eq_none (by omega), List.drop_of_length_le (by omega)]
    simp
  | n + 1, i, acc, ex, hi, ha, m, hm => by
    obtain ⟨m, rfl⟩ : ∃ j, m = j + 1 := ⟨m - 1, by omega⟩
    have hl : i < ds.length := by omega
    obtain ⟨env1, e1, e2⟩ := hz ds[i] (List.getElem_mem hl)
    have drp : ds.drop i = ds[i] :: ds.drop (i + 1) := List.drop_eq_getElem_cons hl
    unfold lcIn
    simp only [srcS, List.getElem?_eq_getElem hl, e1, tyes, if_true, e2]
    rw [pushAt_mid _ _ _ _ (by omega)]
    simp only
    refine (lcIn_run S ds k hz n (i + 1) (acc ++ [k ds[i]]) ex (by omega) (by simp; omega) m (by omega)).trans ?_
    rw [drp, List.map_cons, List.append_assoc]
    rfl
theorem lcOut_run {tg tg1 : Tgt} {env : EnvD} {src1 : Ev Src} {vs1 : List Nat} {te : Ev D} (S : Store) (ds es : List D) (k : D → D → D) (he : es.length < sizeLine)
    (hz : ∀ d ∈ ds, ∃ env1, tg d env = some env1 ∧ (∀ s, src1 env1 s = .ok (srcS es) s) ∧ ∀ e ∈ es, ∃ env2, tg1 e (wipeD env1 vs1) = some env2 ∧ ∀ s, te env2 s = .ok (k d e) s) :
    ∀ (n i : Nat) (acc : List D) (ex : Store), i + n = ds.length → acc.length + n * es.length < sizeLine → ∀ m, n < m → lcOut (srcS ds) tg env tyes src1 tg1 vs1 tyes te S.length m i (S ++ (false, .lst acc) :: ex) = .ok (.ref S.length) (S ++ (false, .lst (acc ++ (ds.drop i).flatMap fun d => es.map (k d))) :: ex)
  | 0, i, acc, ex, hi, ha, m, hm => by
    obtain ⟨m, rfl⟩ : ∃ j, m = j + 1 := ⟨m - 1, by omega⟩
    unfold lcOut
    simp only [srcS]
    rw [List.getElem?_eq_none (by omega), List.drop_of_length_le (by omega)]
    simp
  | n + 1, i, acc, ex, hi, ha, m, hm => by
    obtain ⟨m, rfl⟩ : ∃ j, m = j + 1 := ⟨m - 1, by omega⟩
    have hl : i < ds.length := by omega
    obtain ⟨env1, e1, e2, e3⟩ := hz ds[i] (List.getElem_mem hl)
    have drp : ds.drop i = ds[i] :: ds.drop (i + 1) := List.drop_eq_getElem_cons hl
    have hm1 : (n + 1) * es.length = n * es.length + es.length := by rw [Nat.add_mul, Nat.one_mul]
    unfold lcOut
    simp only [srcS, List.getElem?_eq_getElem hl, e1, tyes, if_true, e2]
    have q := lcIn_run S es (k ds[i]) e3 es.length 0 acc ex (by omega) (by omega) fuelF (by
      have : sizeLine ≤ 16777216 := by decide
      unfold fuelF; omega)
    rw [q]
    simp only
    refine (lcOut_run S ds es k he hz n (i + 1) (acc ++ (es.drop 0).map (k ds[i])) ex (by omega) (by simp; omega) m (by omega)).trans ?_
    rw [drp, List.flatMap_cons, List.append_assoc, List.drop_zero]
/-! ### worths with sizes -/
/-- a common bottom and a bound of the tops, and room for what is done with them -/
structure Sz (n L B : Nat) (a : W) : Prop where
  len : a.length ≤ n
  lat : ∀ p ∈ a, Lat L B p.2
  pos : 0 < L
theorem Sz.ok {n L B : Nat} {a : W} (h : Sz n L B a) (hL : L < 2 ^ 900) (hB : B < 2 ^ 900) {p : Int × Rat} (hp : p ∈ a) : Ok p.2 := by
  obtain ⟨h1, h2⟩ := (h.lat p hp).num h.pos
  exact ⟨Nat.lt_of_le_of_lt h1 hB, Nat.lt_of_le_of_lt (by simpa using h2) hL⟩
theorem Lat.ok {L B : Nat} {q : Rat} (h : Lat L B q) (h0 : 0 < L) (hL : L < 2 ^ 900) (hB : B < 2 ^ 900) : Ok q := by
  obtain ⟨h1, h2⟩ := h.num h0
  exact ⟨Nat.lt_of_le_of_lt h1 hB, Nat.lt_of_le_of_lt (by simpa using h2) hL⟩
theorem Sz.cf {n L B : Nat} {a : W} (h : Sz n L B a) (j : Int) : Lat L (n * B) (cf a j) := (Lat.cf h.lat j).le (Nat.mul_le_mul_right _ h.len)
theorem Sz.take {n L B : Nat} {a : W} (h : Sz n L B a) (i : Nat) : Sz n L B (a.take i) := ⟨by have := h.len; simp; omega, fun p hp => h.lat p (List.mem_of_mem_take hp), h.pos⟩
theorem Sz.cross {n L B m M C : Nat} {a b : W} (h : Sz n L B a) (k : Sz m M C b) : Sz (n * m) (L * M) (B * C) (cross a b) := by
  refine ⟨by rw [len_cross]; exact Nat.mul_le_mul h.len k.len, fun p hp => ?_, Nat.mul_pos h.pos k.pos⟩
  obtain ⟨x, hx, y, hy, rfl⟩ := mem_cross hp
  exact (h.lat x hx).mul (k.lat y hy)
theorem Sz.up {n L B : Nat} {a : W} (h : Sz n L B a) {c : Nat} (hc : 0 < c) : Sz n (L * c) (B * c) a := ⟨h.len, fun p hp => (h.lat p hp).up c, Nat.mul_pos h.pos hc⟩
theorem Sz.app {n L B m C : Nat} {a b : W} (h : Sz n L B a) (k : Sz m L C b) : Sz (n + m) L (B + C) (a ++ b) := by
  refine ⟨by have := h.len; have := k.len; simp; omega, fun p hp => ?_, h.pos⟩
  rcases List.mem_append.mp hp with z | z
  · exact (h.lat p z).le (by omega)
  · exact (k.lat p z).le (by omega)
/-- what a sum of terms gives -/
abbrev tot (ts : W) : W := nz (srt (sums [] ts))
theorem nodup_tot (ts : W) : (keys (sums [] ts)).Nodup := nodup_sums ts (a := []) List.nodup_nil
theorem cf_tot (ts : W) (j : Int) : cf (tot ts) j = cf ts j := by
  rw [cf_nsrt (nodup_tot ts), cf_sums ts (a := []) List.nodup_nil]
  simp [cf, Rat.zero_add]
theorem good_tot (ts : W) : Good (tot ts) := good_srt (nodup_tot ts)
theorem mem_tot {ts : W} {p : Int × Rat} (h : p ∈ tot ts) : p.2 = cf ts p.1 ∧ p.1 ∈ keys ts := by
  refine ⟨by rw [← cf_tot, cf_mem (good_tot ts).nodup h], ?_⟩
  have h1 : p.1 ∈ keys (srt (sums [] ts)) := List.mem_map_of_mem (List.mem_filter.mp h).1
  rw [keys_srt, (ups_perm _).mem_iff] at h1
  rcases keys_sums ts [] h1 with z | z
  · cases z
  · exact z
theorem len_tot (ts : W) : (tot ts).length ≤ ts.length := by
  have h1 : (tot ts).length ≤ (srt (sums [] ts)).length := List.length_filter_le _ _
  have h2 : (srt (sums [] ts)).length = (sums [] ts).length := by unfold srt; rw [List.length_map, (ups_perm _).length_eq, List.length_map]
  have h3 := len_sums ts []
  simp only [List.length_nil, Nat.zero_add] at h3
  omega
theorem Sz.tot {n L B : Nat} {ts : W} (h : Sz n L B ts) : Sz n L (n * B) (tot ts) := ⟨Nat.le_trans (len_tot ts) h.len, fun p hp => by
  rw [(mem_tot hp).1]; exact h.cf p.1, h.pos⟩
/-! ### product_of -/
def raw (a b : W) : List Raw := a.flatMap fun p => b.map fun r => (p.1 + r.1, p.2.num * r.2.num, (p.2.den : Int) * (r.2.den : Int))
theorem raw_rq (a b : W) : (raw a b).map rq = cross a b := by
  unfold raw cross
  rw [List.map_flatMap]
  congr 1
  funext p
  rw [List.map_map]
  refine List.map_congr_left fun r _ => ?_
  simp only [Function.comp, rq, mul_parts]
theorem mem_raw {a b : W} {r : Raw} (h : r ∈ raw a b) : ∃ x ∈ a, ∃ y ∈ b, r = (x.1 + y.1, x.2.num * y.2.num, (x.2.den : Int) * (y.2.den : Int)) := by
  obtain ⟨x, hx, h1⟩ := List.mem_flatMap.mp h
  obtain ⟨y, hy, rfl⟩ := List.mem_map.mp h1
  exact ⟨x, hx, y, hy, rfl⟩
theorem len_raw (a b : W) : (raw a b).length = a.length * b.length := by rw [← len_cross, ← raw_rq, List.length_map]
/-- the rooms that one product wants -/
structure Room2 (n L B m M C : Nat) : Prop where
  l : L < 2 ^ 900
  b : B < 2 ^ 900
  m' : M < 2 ^ 900
  c : C < 2 ^ 900
  lm : L * M < 2 ^ 900
  bc : n * m * (B * C) < 2 ^ 900
  ln : n < 1000
  mn : m < 1000
theorem szl : 16777216 ≤ sizeLine := by decide
def kr : D → D → D
  | .tup _ [.int k, .int t, .int b], .tup _ [.int j, .int u, .int c] => .tup false [.int (k + j), .int (t * u), .int (b * c)]
  | d, _ => d
/-! ### sum_of, negative -/
theorem tm_rt (a : W) : a.map tm = (a.map fun p => ((p.1, p.2.num, (p.2.den : Int)) : Raw)).map rt := by rw [List.map_map]; rfl
theorem tm_rq (a : W) : (a.map fun p => ((p.1, p.2.num, (p.2.den : Int)) : Raw)).map rq = a := by
  rw [List.map_map]
  have : (rq ∘ fun p : Int × Rat => ((p.1, p.2.num, (p.2.den : Int)) : Raw)) = id := by
    funext p
    simp only [Function.comp, rq, Rat.num_divInt_den, id]
  rw [this, List.map_id]
def kn : D → D
  | .tup _ [.int k, .int t, .int b] => .tup false [.int k, .int (-t), .int b]
  | d => d
end FD
set_option Elab.async false
set_option linter.all false
set_option maxRecDepth 100000
set_option maxHeartbeats 1000000
/-! FE: what is a worth, what is a quotient. -/
namespace FE
open PySem PySem.Spec PyProof.Rows L2 PP MA FB FC FD G07
variable [Tbl]
theorem rps_ret {n : Nat} {e : Ev D} {ds : List D} {S : Store} {a : D} (h : Pr e (startD n ds) S a) : Rpu (runS n (sRet e) ds) S a := fun s x => by
  obtain ⟨ex, q⟩ := h s x
  exact ⟨ex, by unfold runS sRet ofE; simp only [q]⟩
theorem rps_if {n : Nat} {c : Ev Bool} {e1 e2 : Ev D} {ds : List D} {S : Store} {a : D} {b : Bool} (hc : Pr c (startD n ds) S b) (h1 : b = true → Pr e1 (startD n ds) S a) (h2 : b = false → Pr e2 (startD n ds) S a) : Rpu (runS n (sSeq (sIf c (sRet e1) sNext) (sRet e2)) ds) S a := fun s x => by
  obtain ⟨ex, q⟩ := hc s x
  cases b with
  | true =>
    obtain ⟨e2, q2⟩ := h1 rfl _ (x.app ex)
    exact ⟨ex ++ e2, by unfold runS sSeq sIf sRet ofE; simp only [q, if_true, q2, List.append_assoc]⟩
  | false =>
    obtain ⟨e2, q2⟩ := h2 rfl _ (x.app ex)
    exact ⟨ex ++ e2, by unfold runS sSeq sIf sRet sNext ofE; simp only [q, Bool.false_eq_true, if_false, q2, List.append_assoc]⟩
theorem pr_and_bl {f g : Ev D} {env : EnvD} {st : Store} {b b' : Bool} (h1 : Pr f env st (.bl b)) (h : b = true → Pr g env st (.bl b')) : Pr (evAnd f g) env st (.bl (b && b')) :=
  pr_and h1 (fun S _ => rfl) h (by cases b <;> rfl)
theorem pr_isi {f : Ev D} {env : EnvD} {st : Store} {d : D} {n : String} {b : Bool} (h : Pr f env st d) (e : ∀ s, Ext st s → isiD [d, .ty n] s = some (.bl b, s)) : Pr (evL isiD (evCons f (evCons (evC (.ty n)) evNil))) env st (.bl b) :=
  pr_L (pr_cons h (pr_cons pr_c pr_nil)) e
theorem po_bl (b : Bool) (st : Store) : Po (truD (.bl b)) st b := fun _ _ => rfl
/-! ### is_whole, is_count -/
theorem is_whole_i (i : Int) (S : Store) : Pg g_is_whole [.int i] S (.bl true) := rps_ret (pr_and_bl (b := true) (b' := true) (pr_isi (pr_var rfl) (fun _ _ => rfl)) (fun _ => pr_not (b := false) (pr_isi (pr_var rfl) (fun _ _ => rfl)) (po_bl _ _)))
theorem is_whole_b (i : Bool) (S : Store) : Pg g_is_whole [.bl i] S (.bl false) := rps_ret (pr_and_bl (b := true) (b' := false) (pr_isi (pr_var rfl) (fun _ _ => rfl)) (fun _ => pr_not (b := true) (pr_isi (pr_var rfl) (fun _ _ => rfl)) (po_bl _ _)))
theorem is_count_i (i : Int) (S : Store) : Pg g_is_count [.int i] S (.bl (!decide (i < 0))) := rps_ret (pr_and_bl (b := true) (pr_call (pr_cons (pr_var rfl) pr_nil) (is_whole_i i S)) (fun _ => pr_2 (pr_var rfl) pr_c (fun _ _ => geD_ii i 0 _)))
theorem is_count_b (i : Bool) (S : Store) : Pg g_is_count [.bl i] S (.bl false) := rps_ret (pr_and_bl (b := false) (b' := false) (pr_call (pr_cons (pr_var rfl) pr_nil) (is_whole_b i S)) (fun z => nomatch z))
/-! ### all(..) over a comprehension of truth values -/
theorem blsD_all {α : Type} (c : α → Bool) (l : List α) : blsD (l.map fun x => D.bl (c x)) = some (l.map c) := by
  have := blsD_map (l.map c)
  rw [List.map_map] at this
  exact this
theorem all_po {S : Store} {l : Nat} {bs : List Bool} (e : S[l]? = some (false, .lst (bs.map D.bl))) : allD [.ref l] S = some (.bl (bs.all id), S) := by
  unfold allD lstD
  simp only [e, Option.bind_some, blsD_map]
/-- all(c(d) for d in ds) where the source stands still -/
theorem pr_all {src : Ev Src} {tg : Tgt} {vs : List Nat} {te : Ev D} {env : EnvD} {st : Store} (ds : List D) (c : D → Bool) (hz : ds.length < sizeLine)
    (hs : ∀ S, Ext st S → ∃ g ex, src env S = .ok g (S ++ ex) ∧ ∀ S' i, Ext (S ++ ex) S' → g i S' = some ds[i]?)
    (hb : ∀ d ∈ ds, ∃ env1, tg d (wipeD env vs) = some env1 ∧ Pr te env1 st (.bl (c d))) : Pr (evL allD (evCons (evLc src tg vs tyes te) evNil)) env st (.bl (ds.all c)) := by
  refine pr_lcL ds (fun _ => true) (fun d => .bl (c d)) hz hs (fun d hd => ?_) (fun S l _ e => ?_)
  · obtain ⟨env1, h1, h2⟩ := hb d hd
    exact ⟨env1, h1, Rpu.ok, fun _ => h2⟩
  · have e1 : ((ds.filter fun _ => true).map fun d => D.bl (c d)) = (ds.map c).map D.bl := by rw [List.filter_eq_self.mpr (fun _ _ => rfl), List.map_map]; rfl
    rw [e1] at e
    rw [all_po e, List.all_map]
    rfl
/-! ### fractions and terms -/
theorem len_tup {b : Bool} {ds : List D} (S : Store) : lenD [.tup b ds] S = some (.int ds.length, S) := rfl
def isF (t b : Int) : Bool := !decide (b < 1) && decide (((Nat.gcd t.natAbs b.natAbs : Nat) : Int) = 1)
theorem is_fraction_ii (k : Bool) (t b : Int) (S : Store) : Pg g_is_fraction [.tup k [.int t, .int b]] S (.bl (isF t b)) := by
  refine rps_if (b := false) (pr_tor (b := false) (b' := false) (pr_tnot (b := true) (pr_T (pr_isi (b := true) (pr_var rfl) (fun _ _ => rfl)) (po_bl _ _))) (fun _ => pr_tor (b := false) (b' := false) (pr_TB (pr_2 (pr_L (pr_cons (pr_var rfl) pr_nil) (fun _ _ => rfl)) pr_c (fun _ _ => neX_ii _ _ _))) (fun _ => pr_tnot (b := true) (pr_T (pr_all (st := S) [.int t, .int b] (fun _ => true) (show 2 < sizeLine by decide) (src_tup (pr_var rfl)) (fun d hd => ?_)) (po_bl _ _))))) (fun z => nomatch z) (fun _ => ?_)
  · rcases List.mem_cons.mp hd with rfl | hd
    · exact ⟨_, rfl, pr_call (pr_cons (pr_var rfl) pr_nil) (is_whole_i t S)⟩
    · rw [List.mem_singleton.mp hd]
      exact ⟨_, rfl, pr_call (pr_cons (pr_var rfl) pr_nil) (is_whole_i b S)⟩
  · exact pr_and_bl (pr_2 (pr_2 (pr_var rfl) pr_c (fun _ _ => ix1 _ _ _ _ _)) pr_c (fun _ _ => geD_ii b 1 _)) (fun _ => pr_2 (pr_L (pr_cons (pr_2 (pr_var rfl) pr_c (fun _ _ => ix0 _ _ _ _)) (pr_cons (pr_2 (pr_var rfl) pr_c (fun _ _ => ix1 _ _ _ _ _)) pr_nil)) (fun _ _ => rfl)) pr_c (fun _ _ => eqX_ii _ _ _))
theorem isF_fr (q : Rat) : isF q.num q.den = true := by
  have h1 := q.den_pos
  have h2 : Nat.gcd q.num.natAbs q.den = 1 := q.reduced
  unfold isF
  rw [Bool.and_eq_true]
  refine ⟨by simp; omega, ?_⟩
  rw [Int.natAbs_natCast, h2]
  rfl
def isT (r : Raw) : Bool := !decide (r.1 < 0) && (isF r.2.1 r.2.2 && decide (r.2.1 ≠ 0))
theorem cut3 (x y z : D) : cutL [x, y, z] (some 1) none = [y, z] := rfl
theorem is_term_rt (r : Raw) (S : Store) : Pg g_is_term [rt r] S (.bl (isT r)) := by
  have hc := is_count_i r.1 S
  have hf := is_fraction_ii false r.2.1 r.2.2 S
  have c : Pr (tor (tnot (evT (evL isiD (evCons (evVar 0) (evCons (evC (.ty "tuple")) evNil))))) (tor (evTB (ev2 neX (evL lenD (evCons (evVar 0) evNil)) (evC (.int 3)))) (tnot (evT (evCall g_is_count (evCons (ev2 subscD (evVar 0) (evC (.int 0))) evNil)))))) (startD 1 [rt r]) S (!!decide (r.1 < 0)) :=
    pr_tor (b := false) (pr_tnot (b := true) (pr_T (pr_isi (b := true) (pr_var rfl) (fun _ _ => rfl)) (po_bl _ _))) (fun _ => pr_tor (b := false) (pr_TB (pr_2 (pr_L (pr_cons (pr_var rfl) pr_nil) (fun _ _ => rfl)) pr_c (fun _ _ => neX_ii _ _ _))) (fun _ => pr_tnot (pr_T (pr_call (pr_cons (pr_2 (pr_var rfl) pr_c (fun _ _ => ix0 _ _ _ _)) pr_nil) hc) (po_bl _ _))))
  refine rps_if c (fun z => ?_) (fun z => ?_)
  · have e : isT r = false := by unfold isT; simp only [Bool.not_not] at z; rw [z]; rfl
    rw [e]; exact pr_c
  · have e : isT r = (isF r.2.1 r.2.2 && decide (r.2.1 ≠ 0)) := by unfold isT; simp only [Bool.not_not] at z; rw [z]; rfl
    rw [e]
    exact pr_and_bl (pr_call (pr_cons (pr_sl (pr_var rfl) (pr_part1 pr_c) pr_part0 (fun _ _ => rfl)) pr_nil) hf) (fun _ => pr_2 (pr_2 (pr_var rfl) pr_c (fun _ _ => ix1 _ _ _ _ _)) pr_c (fun _ _ => neX_ii _ _ _))
theorem is_term_b (x : Bool) (t b : Int) (S : Store) : Pg g_is_term [.tup false [.bl x, .int t, .int b]] S (.bl false) :=
  rps_if (b := true) (pr_tor (b := false) (pr_tnot (b := true) (pr_T (pr_isi (b := true) (pr_var rfl) (fun _ _ => rfl)) (po_bl _ _))) (fun _ => pr_tor (b := false) (b' := true) (pr_TB (pr_2 (pr_L (pr_cons (pr_var rfl) pr_nil) (fun _ _ => rfl)) pr_c (fun _ _ => neX_ii _ _ _))) (fun _ => pr_tnot (b := false) (pr_T (pr_call (pr_cons (pr_2 (pr_var rfl) pr_c (fun _ _ => ix0 _ _ _ _)) pr_nil) (is_count_b x S)) (po_bl _ _))))) (fun _ => pr_c) (fun z => nomatch z)
/-! ### worths -/
theorem cut_one (ds : List D) : cutL ds (some 1) none = ds.tail := by
  cases ds with
  | nil => rfl
  | cons d r =>
    have e1 : HT.sIx (r.length + 1) 0 (some 1) = 1 := by
      unfold HT.sIx
      simp only
      rw [if_neg (by omega)]
      show min 1 (r.length + 1) = 1
      omega
    have e2 : HT.sIx (r.length + 1) (r.length + 1) none = r.length + 1 := rfl
    unfold cutL
    rw [List.length_cons, e1, e2]
    simp
def lt1 : D → D → Bool
  | .tup _ (.int a :: _), .tup _ (.int b :: _) => decide (a < b)
  | _, _ => false
def ltp : D → Bool
  | .tup _ [d, e] => lt1 d e
  | _ => false
/-- the orders rise -/
def inc (rs : List Raw) : Bool := (List.zipWith (fun x y : Raw => decide (x.1 < y.1)) rs rs.tail).all id
theorem is_worth_rt (rs : List Raw) (hz : rs.length < sizeLine) (S : Store) : Pg g_is_worth [.tup false (rs.map rt)] S (.bl (rs.all isT && inc rs)) := by
  have h1 : Pr (evL allD (evCons (evLc (evSrc (evVar 0)) (tgN 3) [3] tyes (evCall g_is_term (evCons (evVar 3) evNil))) evNil)) (startD 4 [.tup false (rs.map rt)]) S (.bl (rs.all isT)) := by
    have h := pr_all (st := S) (src := evSrc (evVar 0)) (tg := tgN 3) (vs := [3]) (te := evCall g_is_term (evCons (evVar 3) evNil)) (env := startD 4 [.tup false (rs.map rt)]) (rs.map rt) (fun d => match d with | .tup _ [.int k, .int t, .int b] => isT (k, t, b) | _ => false) (by simpa using hz) (src_tup (pr_var rfl)) (fun d hd => by
      obtain ⟨r, _, rfl⟩ := List.mem_map.mp hd
      exact ⟨_, rfl, pr_call (pr_cons (pr_var rfl) pr_nil) (is_term_rt r S)⟩)
    rw [List.all_map] at h
    exact h
  refine rps_if (pr_tor (b := false) (pr_tnot (b := true) (pr_T (pr_isi (b := true) (pr_var rfl) (fun _ _ => rfl)) (po_bl _ _))) (fun _ => pr_tnot (pr_T h1 (po_bl _ _)))) (fun z => ?_) (fun z => ?_)
  · have e : rs.all isT = false := by simpa using z
    rw [e]; exact pr_c
  · have e : rs.all isT = true := by simpa using z
    rw [e, Bool.true_and]
    have h := pr_all (st := S) (src := evZp (evCons (evVar 0) (evCons (evSl sliceD (evVar 0) (some (evC (.int 1))) none) evNil))) (tg := tgT 2 (tgsCons (tgN 1) (tgsCons (tgN 2) tgsNil))) (vs := [1, 2]) (te := ev2 ltD (ev2 subscD (evVar 1) (evC (.int 0))) (ev2 subscD (evVar 2) (evC (.int 0)))) (env := startD 4 [.tup false (rs.map rt)])
      (List.zipWith (fun d e => D.tup false [d, e]) (rs.map rt) (rs.map rt).tail) ltp (by
        rw [List.length_zipWith, List.length_map]; omega) (fun S' x => by
        refine src_zip (b := false) (c := false) (pr_var rfl) (pr_sl (l := some 1) (h := none) (pr_var rfl) (pr_part1 pr_c) pr_part0 (fun _ _ => ?_)) S' x
        unfold sliceD
        rw [← cut_one]) (fun d hd => by
        rw [← List.map_tail, List.zipWith_map] at hd
        obtain ⟨i, hi, rfl⟩ := List.mem_iff_getElem.mp hd
        rw [List.getElem_zipWith]
        exact ⟨_, rfl, pr_2 (pr_2 (pr_var rfl) pr_c (fun _ _ => ix0 _ _ _ _)) (pr_2 (pr_var rfl) pr_c (fun _ _ => ix0 _ _ _ _)) (fun _ _ => ltD_ii _ _ _)⟩)
    have e2 : (List.zipWith (fun d e => D.tup false [d, e]) (rs.map rt) (rs.map rt).tail).all ltp = inc rs := by
      unfold inc
      rw [← List.map_tail, List.zipWith_map]
      have hh : ∀ (a b : List Raw), (List.zipWith (fun x y : Raw => D.tup false [rt x, rt y]) a b).all ltp = (List.zipWith (fun x y : Raw => decide (x.1 < y.1)) a b).all id := by
        intro a
        induction a with
        | nil => intro b; rfl
        | cons x a ih =>
          intro b
          cases b with
          | nil => rfl
          | cons y b =>
            rw [List.zipWith_cons_cons, List.zipWith_cons_cons, List.all_cons, List.all_cons, ih b]
            rfl
      exact hh rs rs.tail
    rw [e2] at h
    exact h
abbrev rws (a : W) : List Raw := a.map fun p => ((p.1, p.2.num, (p.2.den : Int)) : Raw)
theorem inc_good : ∀ {a : W}, (keys a).Pairwise (· < ·) → inc (rws a) = true
  | [], _ => rfl
  | [p], _ => rfl
  | p :: q :: a, h => by
    have ih := inc_good (a := q :: a) (List.pairwise_cons.mp h).2
    have h1 : p.1 < q.1 := (List.pairwise_cons.mp h).1 q.1 (by simp)
    unfold inc rws at ih ⊢
    rw [List.map_cons, List.tail_cons, List.map_cons] at *
    rw [List.zipWith_cons_cons, List.all_cons, ih]
    simp [h1]
theorem all_good {a : W} (h : Good a) (k : ∀ p ∈ a, 0 ≤ p.1) : (rws a).all isT = true := by
  rw [List.all_eq_true]
  intro r hr
  obtain ⟨p, hp, rfl⟩ := List.mem_map.mp hr
  have h1 := k p hp
  have h2 : p.2.num ≠ 0 := fun z => h.nz p hp (Rat.num_eq_zero.mp z)
  unfold isT
  rw [isF_fr]
  simp [h1, h2]
theorem is_worth_good {a : W} (h : Good a) (k : ∀ p ∈ a, 0 ≤ p.1) (hz : a.length < sizeLine) (S : Store) : Pg g_is_worth [tms a] S (.bl true) := by
  have := is_worth_rt (rws a) (by simpa using hz) S
  rw [← tm_rt, all_good h k, inc_good h.up] at this
  exact this
theorem is_worth_no {d : D} {S : Store} (h : ∀ s, Ext S s → isiD [d, .ty "tuple"] s = some (.bl false, s)) : Pg g_is_worth [d] S (.bl false) :=
  rps_if (b := true) (pr_tor (b := true) (b' := true) (pr_tnot (b := false) (pr_T (pr_isi (b := false) (pr_var rfl) h) (po_bl _ _))) (fun z => nomatch z)) (fun _ => pr_c) (fun z => nomatch z)
theorem is_worth_b (x : Bool) (t b : Int) (S : Store) : Pg g_is_worth [.tup false [.tup false [.bl x, .int t, .int b]]] S (.bl false) := by
  have h := pr_all (st := S) (src := evSrc (evVar 0)) (tg := tgN 3) (vs := [3]) (te := evCall g_is_term (evCons (evVar 3) evNil)) (env := startD 4 [.tup false [.tup false [.bl x, .int t, .int b]]]) [.tup false [.bl x, .int t, .int b]] (fun _ => false) (show 1 < sizeLine by decide) (src_tup (pr_var rfl)) (fun d hd => by
    rw [List.mem_singleton.mp hd]
    exact ⟨_, rfl, pr_call (pr_cons (pr_var rfl) pr_nil) (is_term_b x t b S)⟩)
  exact rps_if (b := true) (pr_tor (b := false) (b' := true) (pr_tnot (b := true) (pr_T (pr_isi (b := true) (pr_var rfl) (fun _ _ => rfl)) (po_bl _ _))) (fun _ => pr_tnot (b := false) (pr_T h (po_bl _ _)))) (fun _ => pr_c) (fun z => nomatch z)
/-! ### the sign -/
abbrev rP (r : Raw) : PyData := .tuple [.int r.1, .int r.2.1, .int r.2.2]
theorem rd_rts (S : Store) (b : Bool) (rs : List Raw) : rdP S (.tup b (rs.map rt)) = some (.tuple (rs.map rP)) := by
  show (optAll ((rs.map rt).map (toP S 29))).map PyData.tuple = _
  have : (rs.map rt).map (toP S 29) = rs.map fun r => some (rP r) := by rw [List.map_map]; rfl
  rw [this, optAll_some rP]
  rfl
theorem eq_empty (S : Store) (b : Bool) (rs : List Raw) : eqX (.tup b (rs.map rt)) (.tup false []) S = some (.bl rs.isEmpty, S) := by
  unfold eqX eqD
  have e : rdP S (.tup false []) = some (.tuple []) := rfl
  rw [show empD S (.tup b (rs.map rt)) (.tup false []) = none from rfl, rd_rts, e]
  cases rs <;> simp [PyData.eqv, PyData.eqvAll]
theorem ne_empty (S : Store) (b : Bool) (rs : List Raw) : neX (.tup b (rs.map rt)) (.tup false []) S = some (.bl (!rs.isEmpty), S) := by
  unfold neX neD
  have e : rdP S (.tup false []) = some (.tuple []) := rfl
  rw [show empD S (.tup b (rs.map rt)) (.tup false []) = none from rfl, rd_rts, e]
  cases rs <;> simp [PyData.eqv, PyData.eqvAll]
def sgr : List Raw → Int
  | [] => 0
  | r :: _ => if 0 < r.2.1 then 1 else -1
theorem pr_mkT0 {env : EnvD} {st : Store} : Pr (evL mkTup evNil) env st (.tup false []) := pr_L pr_nil (fun _ _ => rfl)
theorem sign_of (rs : List Raw) (S : Store) : Pg g_sign_of [.tup false (rs.map rt)] S (.int (sgr rs)) := by
  refine rps_if (pr_TB (pr_2 (pr_var rfl) pr_mkT0 (fun _ _ => eq_empty _ _ _))) (fun z => ?_) (fun z => ?_)
  · cases rs with
    | nil => exact pr_c
    | cons r rs => cases z
  · cases rs with
    | nil => cases z
    | cons r rs =>
      refine pr_if (pr_TB (pr_2 (pr_2 (pr_2 (pr_var rfl) pr_c (fun _ _ => ix0 _ _ _ _)) pr_c (fun _ _ => ix1 _ _ _ _ _)) pr_c (fun _ _ => gtD_ii _ _ _))) ?_
      by_cases c : 0 < r.2.1
      · rw [if_pos (decide_eq_true c)]
        have : sgr (r :: rs) = 1 := if_pos c
        rw [this]; exact pr_c
      · rw [if_neg (by simpa using c)]
        have : sgr (r :: rs) = -1 := if_neg c
        rw [this]
        exact pr_1 pr_c (fun _ _ => rfl)
theorem num_pos (q : Rat) : (0 < q.num) ↔ 0 < q := by
  have h := Rat.num_nonneg (q := q)
  have h2 := Rat.num_eq_zero (q := q)
  constructor
  · intro k
    have : 0 ≤ q := h.mp (by omega)
    have : q ≠ 0 := fun z => by rw [z] at k; exact absurd k (by decide)
    grind
  · intro k
    have a1 : 0 ≤ q.num := h.mpr (by grind)
    have a2 : q.num ≠ 0 := fun z => by have := h2.mp z; grind
    omega
theorem sgr_sgn (a : W) : sgr (rws a) = sgn a := by
  cases a with
  | nil => rfl
  | cons p a =>
    show (if 0 < p.2.num then (1 : Int) else -1) = if 0 < p.2 then 1 else -1
    simp only [num_pos]
theorem sign_of_tms (a : W) (S : Store) : Pg g_sign_of [tms a] S (.int (sgn a)) := by
  have := sign_of (rws a) S
  rw [← tm_rt, sgr_sgn] at this
  exact this
end FE
set_option Elab.async false
set_option linter.all false
set_option maxRecDepth 100000
set_option maxHeartbeats 1000000
/-! FF: any value judged: whole, fraction, term, worth. -/
namespace FF
open PySem PySem.Spec PyProof.Rows L2 PP MA FB FC FD FE G07
variable [Tbl]
/-- a value whose kind is known to this depth -/
def Kd (S : Store) : Nat → D → Prop
  | 0, _ => True
  | n + 1, .tup k ds => k = false ∧ ∀ x ∈ ds, Kd S n x
  | _ + 1, .ref l => ∃ b ds, S[l]? = some (b, .lst ds)
  | _ + 1, .fn _ => False
  | _ + 1, .ty _ => False
  | _ + 1, _ => True
theorem Kd.ext {S S' : Store} (x : Ext S S') : ∀ (n : Nat) (d : D), Kd S n d → Kd S' n d
  | 0, _, _ => True.intro
  | n + 1, .tup k ds, h => ⟨h.1, fun y hy => Kd.ext x n y (h.2 y hy)⟩
  | n + 1, .ref l, ⟨b, ds, h⟩ => ⟨b, ds, x.get h⟩
  | n + 1, .non, _ => True.intro
  | n + 1, .bl _, _ => True.intro
  | n + 1, .int _, _ => True.intro
  | n + 1, .str _, _ => True.intro
def tn : D → String
  | .non => "NoneType"
  | .bl _ => "bool"
  | .int _ => "int"
  | .str _ => "str"
  | .tup _ _ => "tuple"
  | _ => "list"
theorem Kd.ty {S : Store} {n : Nat} : ∀ {d : D}, Kd S (n + 1) d → ∀ s, Ext S s → tyD s d = some (tn d)
  | .tup _ _, _, _, _ => rfl
  | .ref l, ⟨b, ds, h⟩, s, x => by unfold tyD; simp only [x.get h]; rfl
  | .non, _, _, _ => rfl
  | .bl _, _, _, _ => rfl
  | .int _, _, _, _ => rfl
  | .str _, _, _, _ => rfl
  | .fn _, h, _, _ => h.elim
  | .ty _, h, _, _ => h.elim
theorem isi_of {S : Store} {n : Nat} {d : D} {t : String} {b : Bool} (h : Kd S (n + 1) d) (hb : kitB (tn d) t = some b) : ∀ s, Ext S s → isiD [d, .ty t] s = some (.bl b, s) := fun s x => by
  unfold isiD
  simp only [h.ty s x, Option.bind_some, hb, Option.map_some]
def isW : D → Bool
  | .int _ => true
  | _ => false
theorem isW_int {d : D} (h : isW d = true) : ∃ i, d = .int i := by
  cases d with
  | int i => exact ⟨i, rfl⟩
  | _ => cases h
theorem is_whole_d {S : Store} {n : Nat} {d : D} (h : Kd S (n + 1) d) : Pg g_is_whole [d] S (.bl (isW d)) := by
  cases d with
  | int i => exact is_whole_i i S
  | bl b => exact is_whole_b b S
  | fn x => exact h.elim
  | ty x => exact h.elim
  | non => exact rps_ret (pr_and_bl (b := false) (b' := false) (pr_isi (pr_var rfl) (isi_of h rfl)) (fun z => nomatch z))
  | str x => exact rps_ret (pr_and_bl (b := false) (b' := false) (pr_isi (pr_var rfl) (isi_of h rfl)) (fun z => nomatch z))
  | tup k ds => exact rps_ret (pr_and_bl (b := false) (b' := false) (pr_isi (pr_var rfl) (isi_of h rfl)) (fun z => nomatch z))
  | ref l => exact rps_ret (pr_and_bl (b := false) (b' := false) (pr_isi (pr_var rfl) (isi_of h rfl)) (fun z => nomatch z))
def isC : D → Bool
  | .int i => !decide (i < 0)
  | _ => false
theorem is_count_d {S : Store} {n : Nat} {d : D} (h : Kd S (n + 1) d) : Pg g_is_count [d] S (.bl (isC d)) := by
  have hw := is_whole_d h
  cases d with
  | int i => exact is_count_i i S
  | fn x => exact h.elim
  | ty x => exact h.elim
  | _ => exact rps_ret (pr_and_bl (b := false) (b' := false) (pr_call (pr_cons (pr_var rfl) pr_nil) hw) (fun z => nomatch z))
def isFD : D → Bool
  | .tup false [.int t, .int b] => isF t b
  | _ => false
theorem tup_kit (k : Bool) (ds : List D) : kitB (tn (.tup k ds)) "tuple" = some true := rfl
theorem isFD_two {x y : D} (h : ¬ (isW x && isW y) = true) : isFD (.tup false [x, y]) = false := by
  cases x <;> first | rfl | skip
  cases y <;> first | rfl | skip
  exact absurd rfl h
theorem isFD_len {ds : List D} (h : ds.length ≠ 2) : isFD (.tup false ds) = false := by
  match ds, h with
  | [], _ => rfl
  | [x], _ => cases x <;> rfl
  | [x, y], h => exact absurd rfl h
  | x :: y :: z :: r, _ => cases x <;> cases y <;> rfl
theorem is_fraction_d {S : Store} {n : Nat} {d : D} (h : Kd S (n + 2) d) : Pg g_is_fraction [d] S (.bl (isFD d)) := by
  have no : ∀ {d : D}, Kd S (n + 2) d → kitB (tn d) "tuple" = some false → Pg g_is_fraction [d] S (.bl false) := fun {d} h hk => by
    refine rps_if (b := true) (pr_tor (b := true) (b' := true) (pr_tnot (b := false) (pr_T (pr_isi (pr_var rfl) (isi_of h hk)) (po_bl _ _))) (fun z => nomatch z)) (fun _ => pr_c) (fun z => nomatch z)
  cases d with
  | int i => exact no h rfl
  | bl b => exact no h rfl
  | non => exact no h rfl
  | str x => exact no h rfl
  | ref l => exact no h rfl
  | fn x => exact h.elim
  | ty x => exact h.elim
  | tup k ds =>
    obtain ⟨rfl, hk⟩ := h
    by_cases hl : ds.length = 2
    · match ds, hl, hk with
      | [x, y], _, hk =>
        have kx := hk x (by simp)
        have ky := hk y (by simp)
        by_cases w : (isW x && isW y) = true
        · obtain ⟨wx, wy⟩ := Bool.and_eq_true_iff.mp w
          obtain ⟨i, rfl⟩ := isW_int wx
          obtain ⟨j, rfl⟩ := isW_int wy
          exact is_fraction_ii false i j S
        · rw [isFD_two w]
          refine rps_if (b := true) (pr_tor (b := false) (b' := true) (pr_tnot (b := true) (pr_T (pr_isi (b := true) (pr_var rfl) (fun _ _ => rfl)) (po_bl _ _))) (fun _ => pr_tor (b := false) (b' := true) (pr_TB (pr_2 (pr_L (pr_cons (pr_var rfl) pr_nil) (fun _ _ => rfl)) pr_c (fun _ _ => neX_ii _ _ _))) (fun _ => pr_tnot (b := false) (pr_T (b := false) ?_ (po_bl _ _))))) (fun _ => pr_c) (fun z => nomatch z)
          have q := pr_all (st := S) (src := evSrc (evVar 0)) (tg := tgN 1) (vs := [1]) (te := evCall g_is_whole (evCons (evVar 1) evNil)) (env := startD 2 [.tup false [x, y]]) [x, y] isW (show 2 < sizeLine by decide) (src_tup (pr_var rfl)) (fun d hd => by
            have kd : Kd S (n + 1) d := hk d hd
            exact ⟨_, rfl, pr_call (pr_cons (pr_var rfl) pr_nil) (is_whole_d kd)⟩)
          have e : [x, y].all isW = false := by simpa using w
          rw [e] at q
          exact q
    · rw [isFD_len hl]
      have h' : ((ds.length : Nat) : Int) ≠ 2 := by omega
      exact rps_if (b := true) (pr_tor (b := false) (b' := true) (pr_tnot (b := true) (pr_T (pr_isi (b := true) (pr_var rfl) (fun _ _ => rfl)) (po_bl _ _))) (fun _ => pr_tor (b := true) (b' := true) (pr_TB (pr_2 (pr_L (pr_cons (pr_var rfl) pr_nil) (fun _ _ => rfl)) pr_c (fun _ _ => by rw [neX_ii]; simp [h']))) (fun z => nomatch z))) (fun _ => pr_c) (fun z => nomatch z)
def isTD : D → Bool
  | .tup false [.int k, .int t, .int b] => isT (k, t, b)
  | _ => false
theorem isTD_len {ds : List D} (h : ds.length ≠ 3) : isTD (.tup false ds) = false := by
  match ds, h with
  | [], _ => rfl
  | [x], _ => cases x <;> rfl
  | [x, y], _ => cases x <;> cases y <;> rfl
  | [x, y, z], h => exact absurd rfl h
  | x :: y :: z :: w :: r, _ => cases x <;> cases y <;> cases z <;> rfl
theorem isTD_c {x y z : D} (h : isC x = false) : isTD (.tup false [x, y, z]) = false := by
  cases x <;> first | rfl | skip
  cases y <;> first | rfl | skip
  cases z <;> first | rfl | skip
  rename_i i j k
  have h : (!decide (i < 0)) = false := h
  show (!decide (i < 0) && _) = false
  rw [h]; rfl
theorem isTD_f {x y z : D} (h : isFD (.tup false [y, z]) = false) : isTD (.tup false [x, y, z]) = false := by
  cases x <;> first | rfl | skip
  cases y <;> first | rfl | skip
  cases z <;> first | rfl | skip
  rename_i i j k
  have h : isF j k = false := h
  show (_ && (isF j k && _)) = false
  rw [h]; simp
theorem is_term_d {S : Store} {n : Nat} {d : D} (h : Kd S (n + 3) d) : Pg g_is_term [d] S (.bl (isTD d)) := by
  have no : ∀ {d : D}, Kd S (n + 3) d → kitB (tn d) "tuple" = some false → Pg g_is_term [d] S (.bl false) := fun {d} h hk => by
    refine rps_if (b := true) (pr_tor (b := true) (b' := true) (pr_tnot (b := false) (pr_T (pr_isi (pr_var rfl) (isi_of h hk)) (po_bl _ _))) (fun z => nomatch z)) (fun _ => pr_c) (fun z => nomatch z)
  cases d with
  | int i => exact no h rfl
  | bl b => exact no h rfl
  | non => exact no h rfl
  | str x => exact no h rfl
  | ref l => exact no h rfl
  | fn x => exact h.elim
  | ty x => exact h.elim
  | tup k ds =>
    obtain ⟨rfl, hk⟩ := h
    by_cases hl : ds.length = 3
    · match ds, hl, hk with
      | [x, y, z], _, hk =>
        have kx : Kd S (n + 2) x := hk x (by simp)
        have ky : Kd S (n + 2) y := hk y (by simp)
        have kz : Kd S (n + 2) z := hk z (by simp)
        have hc := is_count_d kx
        cases c : isC x with
        | false =>
          rw [isTD_c c]
          rw [c] at hc
          exact rps_if (b := true) (pr_tor (b := false) (b' := true) (pr_tnot (b := true) (pr_T (pr_isi (b := true) (pr_var rfl) (fun _ _ => rfl)) (po_bl _ _))) (fun _ => pr_tor (b := false) (b' := true) (pr_TB (pr_2 (pr_L (pr_cons (pr_var rfl) pr_nil) (fun _ _ => rfl)) pr_c (fun _ _ => neX_ii _ _ _))) (fun _ => pr_tnot (b := false) (pr_T (pr_call (pr_cons (pr_2 (pr_var rfl) pr_c (fun _ _ => ix0 _ _ _ _)) pr_nil) hc) (po_bl _ _))))) (fun _ => pr_c) (fun z => nomatch z)
        | true =>
          rw [c] at hc
          obtain ⟨i, rfl⟩ : ∃ i, x = .int i := by
            cases x with
            | int i => exact ⟨i, rfl⟩
            | _ => cases c
          have kf : Kd S (n + 1 + 2) (.tup false [y, z]) := ⟨rfl, fun w hw => by
            rcases List.mem_cons.mp hw with rfl | hw
            · exact ky
            · rw [List.mem_singleton.mp hw]; exact kz⟩
          have hf := is_fraction_d kf
          cases f : isFD (.tup false [y, z]) with
          | true =>
            have w : (isW y && isW z) = true := by
              cases w : (isW y && isW z) with
              | true => rfl
              | false =>
                rw [isFD_two (by rw [w]; simp)] at f
                cases f
            obtain ⟨wx, wy⟩ := Bool.and_eq_true_iff.mp w
            obtain ⟨j, rfl⟩ := isW_int wx
            obtain ⟨k, rfl⟩ := isW_int wy
            exact is_term_rt (i, j, k) S
          | false =>
            rw [isTD_f f]
            rw [f] at hf
            exact rps_if (b := false) (pr_tor (b := false) (b' := false) (pr_tnot (b := true) (pr_T (pr_isi (b := true) (pr_var rfl) (fun _ _ => rfl)) (po_bl _ _))) (fun _ => pr_tor (b := false) (b' := false) (pr_TB (pr_2 (pr_L (pr_cons (pr_var rfl) pr_nil) (fun _ _ => rfl)) pr_c (fun _ _ => neX_ii _ _ _))) (fun _ => pr_tnot (b := true) (pr_T (pr_call (pr_cons (pr_2 (pr_var rfl) pr_c (fun _ _ => ix0 _ _ _ _)) pr_nil) hc) (po_bl _ _))))) (fun z => nomatch z)
              (fun _ => pr_and_bl (b := false) (b' := false) (pr_call (pr_cons (pr_sl (pr_var rfl) (pr_part1 pr_c) pr_part0 (fun _ _ => rfl)) pr_nil) hf) (fun z => nomatch z))
    · rw [isTD_len hl]
      have h' : ((ds.length : Nat) : Int) ≠ 3 := by omega
      exact rps_if (b := true) (pr_tor (b := false) (b' := true) (pr_tnot (b := true) (pr_T (pr_isi (b := true) (pr_var rfl) (fun _ _ => rfl)) (po_bl _ _))) (fun _ => pr_tor (b := true) (b' := true) (pr_TB (pr_2 (pr_L (pr_cons (pr_var rfl) pr_nil) (fun _ _ => rfl)) pr_c (fun _ _ => by rw [neX_ii]; simp [h']))) (fun z => nomatch z))) (fun _ => pr_c) (fun z => nomatch z)
def toR : D → Raw
  | .tup false [.int k, .int t, .int b] => (k, t, b)
  | _ => (0, 0, 0)
theorem toR_rt {d : D} (h : isTD d = true) : d = rt (toR d) ∧ isT (toR d) = true := by
  unfold isTD at h
  split at h
  · exact ⟨rfl, h⟩
  · cases h
def isWD : D → Bool
  | .tup false ds => ds.all isTD && inc (ds.map toR)
  | _ => false
theorem is_worth_d {S : Store} {n : Nat} {d : D} (h : Kd S (n + 4) d) (hz : ∀ k ds, d = .tup k ds → ds.length < sizeLine) : Pg g_is_worth [d] S (.bl (isWD d)) := by
  cases d with
  | int i => exact is_worth_no (isi_of h rfl)
  | bl b => exact is_worth_no (isi_of h rfl)
  | non => exact is_worth_no (isi_of h rfl)
  | str x => exact is_worth_no (isi_of h rfl)
  | ref l => exact is_worth_no (isi_of h rfl)
  | fn x => exact h.elim
  | ty x => exact h.elim
  | tup k ds =>
    obtain ⟨rfl, hk⟩ := h
    have hl := hz _ _ rfl
    cases a : ds.all isTD with
    | true =>
      have e : ds = (ds.map toR).map rt := by
        rw [List.map_map]
        have : ds.map id = ds.map (rt ∘ toR) := List.map_congr_left fun x hx => (toR_rt (List.all_eq_true.mp a x hx)).1
        rw [List.map_id] at this
        exact this
      have q := is_worth_rt (ds.map toR) (by simpa using hl) S
      have e2 : (ds.map toR).all isT = true := by
        rw [List.all_map]
        exact List.all_eq_true.mpr fun x hx => (toR_rt (List.all_eq_true.mp a x hx)).2
      rw [← e, e2] at q
      have : isWD (.tup false ds) = (true && inc (ds.map toR)) := by
        show (ds.all isTD && _) = _
        rw [a]
      rw [this]
      exact q
    | false =>
      have : isWD (.tup false ds) = false := by
        show (ds.all isTD && _) = _
        rw [a]; rfl
      rw [this]
      have q := pr_all (st := S) (src := evSrc (evVar 0)) (tg := tgN 3) (vs := [3]) (te := evCall g_is_term (evCons (evVar 3) evNil)) (env := startD 4 [.tup false ds]) ds isTD hl (src_tup (pr_var rfl)) (fun d hd => by
        have kd : Kd S (n + 3) d := hk d hd
        exact ⟨_, rfl, pr_call (pr_cons (pr_var rfl) pr_nil) (is_term_d kd)⟩)
      rw [a] at q
      exact rps_if (b := true) (pr_tor (b := false) (b' := true) (pr_tnot (b := true) (pr_T (pr_isi (b := true) (pr_var rfl) (fun _ _ => rfl)) (po_bl _ _))) (fun _ => pr_tnot (b := false) (pr_T q (po_bl _ _)))) (fun _ => pr_c) (fun z => nomatch z)
end FF
set_option Elab.async false
set_option linter.all false
set_option maxRecDepth 100000
set_option maxHeartbeats 1000000
/-! FI: the pen: draws. -/
namespace FG
open PySem PySem.Spec PyProof.Rows L2 PP MA FB FC FD FE FF G07
variable [Tbl]
theorem lt_of_at {S : Store} {l : Nat} {c : Bool × Cell} (e : S[l]? = some c) : l < S.length := (List.getElem?_eq_some_iff.mp e).1
theorem app_at {S : Store} {l : Nat} {c : Bool × Cell} (e : S[l]? = some c) (r : Store) : (S ++ r)[l]? = some c := by
  rw [List.getElem?_append_left (lt_of_at e)]; exact e
abbrev pkv (lc : Nat) (a d c f : Int) : List (D × D) := [(.str "cells", .ref lc), (.str "at", .int a), (.str "digits", .int d), (.str "count", .int c), (.str "fold", .int f)]
abbrev pn (S : Store) (lp lc : Nat) (a d c f : Int) : Store := S.set lp (false, .dct (pkv lc a d c f))
section
variable {S : Store} {lp lc : Nat} {a d c f : Int}
theorem pn_at (h : lp < S.length) : (pn S lp lc a d c f)[lp]? = some (false, .dct (pkv lc a d c f)) := by
  rw [List.getElem?_set, if_pos rfl, if_pos h]
theorem pn_ne {l : Nat} (h : l ≠ lp) : (pn S lp lc a d c f)[l]? = S[l]? := by
  rw [List.getElem?_set, if_neg (fun z => h z.symm)]
theorem pn_rd (h : lp < S.length) (k : Str) (v : D) (e : dget (pkv lc a d c f) (.str k) = some v) : subscD (.ref lp) (.str k) (pn S lp lc a d c f) = some (v, pn S lp lc a d c f) := by
  unfold subscD
  rw [ixD_dct (pn_at h)]
  simp only [dgetD, lookD, pn_at h]
  rw [show (isK (D.str "cells") && isK (D.str k)) = true from rfl]
  simp only [true_or, if_true, e]
theorem rd_cells (h : lp < S.length) : subscD (.ref lp) (.str "cells") (pn S lp lc a d c f) = some (.ref lc, pn S lp lc a d c f) := pn_rd h _ _ rfl
theorem rd_at (h : lp < S.length) : subscD (.ref lp) (.str "at") (pn S lp lc a d c f) = some (.int a, pn S lp lc a d c f) := pn_rd h _ _ rfl
theorem rd_digits (h : lp < S.length) : subscD (.ref lp) (.str "digits") (pn S lp lc a d c f) = some (.int d, pn S lp lc a d c f) := pn_rd h _ _ rfl
theorem rd_count (h : lp < S.length) : subscD (.ref lp) (.str "count") (pn S lp lc a d c f) = some (.int c, pn S lp lc a d c f) := pn_rd h _ _ rfl
theorem rd_fold (h : lp < S.length) : subscD (.ref lp) (.str "fold") (pn S lp lc a d c f) = some (.int f, pn S lp lc a d c f) := pn_rd h _ _ rfl
theorem pn_wr (h : lp < S.length) (k : Str) (v : D) (kvs : List (D × D)) (e : dput (pkv lc a d c f) (.str k) v = kvs) : putD (.ref lp) (.str k) v (pn S lp lc a d c f) = some (S.set lp (false, .dct kvs)) := by
  have h1 : lputD (.ref lp) (.str k) v (pn S lp lc a d c f) = none := by unfold lputD; rfl
  unfold putD
  rw [h1]
  simp only [dputD, pn_at h]
  rw [show (isK (D.str "cells") && isK (D.str k)) = true from rfl]
  have : (pkv lc a d c f).length < sizeLine := (show 5 < sizeLine by decide)
  simp only [true_or, true_and, this, if_true, e]
  rw [List.set_set]
theorem wr_at (h : lp < S.length) (x : Int) : putD (.ref lp) (.str "at") (.int x) (pn S lp lc a d c f) = some (pn S lp lc x d c f) := pn_wr h _ _ _ rfl
theorem wr_digits (h : lp < S.length) (x : Int) : putD (.ref lp) (.str "digits") (.int x) (pn S lp lc a d c f) = some (pn S lp lc a x c f) := pn_wr h _ _ _ rfl
theorem wr_count (h : lp < S.length) (x : Int) : putD (.ref lp) (.str "count") (.int x) (pn S lp lc a d c f) = some (pn S lp lc a d x f) := pn_wr h _ _ _ rfl
theorem wr_fold (h : lp < S.length) (x : Int) : putD (.ref lp) (.str "fold") (.int x) (pn S lp lc a d c f) = some (pn S lp lc a d c x) := pn_wr h _ _ _ rfl
end
/-- the pen stands, and that many draws are left -/
def Pen (n : Nat) (S : Store) (lp : Nat) : Prop := ∃ (lc : Nat) (cells : List Int) (a d c f : Int), S[lp]? = some (false, .dct (pkv lc a d c f)) ∧ S[lc]? = some (false, .lst (cells.map D.int)) ∧ lc = lp + 1 ∧ 0 ≤ a ∧ 0 ≤ d ∧ 0 ≤ c ∧ c + n ≤ 1000000 ∧ 0 ≤ f ∧ f < 2147483549
/-- all but the pen stays -/
structure Kp (lp : Nat) (S S' : Store) : Prop where
  len : S.length ≤ S'.length
  at_ : ∀ l, l < S.length → l ≠ lp → S'[l]? = S[l]?
theorem Kp.refl (lp : Nat) (S : Store) : Kp lp S S := ⟨Nat.le_refl _, fun _ _ _ => rfl⟩
theorem Kp.trans {lp : Nat} {A B C : Store} (h : Kp lp A B) (k : Kp lp B C) : Kp lp A C := ⟨Nat.le_trans h.len k.len, fun l hl hn => by rw [k.at_ l (Nat.lt_of_lt_of_le hl h.len) hn, h.at_ l hl hn]⟩
theorem Kp.app (lp : Nat) (S ex : Store) : Kp lp S (S ++ ex) := ⟨by simp, fun l hl _ => List.getElem?_append_left hl⟩
theorem Kp.get {lp : Nat} {S S' : Store} (h : Kp lp S S') {l : Nat} {c : Bool × Cell} (e : S[l]? = some c) (hn : l ≠ lp) : S'[l]? = some c := by rw [h.at_ l (lt_of_at e) hn]; exact e
theorem Pen.lt {n : Nat} {S : Store} {lp : Nat} (h : Pen n S lp) : lp < S.length := by
  obtain ⟨lc, cells, a, d, c, f, h1, _⟩ := h
  exact lt_of_at h1
theorem Pen.app {n : Nat} {S : Store} {lp : Nat} (h : Pen n S lp) (ex : Store) : Pen n (S ++ ex) lp := by
  obtain ⟨lc, cells, a, d, c, f, h1, h2, r⟩ := h
  exact ⟨lc, cells, a, d, c, f, app_at h1 ex, app_at h2 ex, r⟩
theorem Pen.mono {n m : Nat} {S : Store} {lp : Nat} (h : Pen n S lp) (k : m ≤ n) : Pen m S lp := by
  obtain ⟨lc, cells, a, d, c, f, h1, h2, h3, h4, h5, h6, h7, r⟩ := h
  exact ⟨lc, cells, a, d, c, f, h1, h2, h3, h4, h5, h6, by omega, r⟩
theorem fmod_lt (x : Int) {m : Int} (h : 0 < m) : 0 ≤ x.fmod m ∧ x.fmod m < m := ⟨Int.fmod_nonneg_of_pos x h, Int.fmod_lt_of_pos x h⟩
theorem bs_of {i : Int} (h0 : 0 ≤ i) (h : i < 2 ^ 64) : Bs 9000 i := by
  have : Bs 64 i := by unfold Bs; omega
  exact this.mono (by omega)
theorem pow18 (st : Store) : powD (.int 10) (.int 18) st = some (.int 1000000000000000000, st) := rfl
/-- a next cell is taken, or not -/
theorem draw_cell {S : Store} {lp lc : Nat} {cells : List Int} {a d c f : Int} (hl : lp < S.length) (hc : S[lc]? = some (false, .lst (cells.map D.int))) (hn : lc ≠ lp) (a0 : 0 ≤ a) (d0 : 0 ≤ d) (f0 : 0 ≤ f) (f1 : f < 2147483549) (v1 v2 v3 v4 : Option D) :
    ∃ v3' a' d' f', 0 ≤ a' ∧ 0 ≤ d' ∧ 0 ≤ f' ∧ f' < 2147483549 ∧
    (sIf (tand (evTB (ev2 eqX (ev2 subscD (evVar 0) (evC (.str "digits"))) (evC (.int 0)))) (evTB (ev2 ltD (ev2 subscD (evVar 0) (evC (.str "at"))) (evL lenD (evCons (ev2 subscD (evVar 0) (evC (.str "cells"))) evNil)))))
     (sSeq (sSet 3 (ev2 subscD (ev2 subscD (evVar 0) (evC (.str "cells"))) (ev2 subscD (evVar 0) (evC (.str "at")))))
     (sSeq (sSub putD (evVar 0) (evC (.str "at")) (ev2 addD (ev2 subscD (evVar 0) (evC (.str "at"))) (evC (.int 1))))
     (sIf (evTB (ev2 geD (evVar 3) (ev2 powD (evC (.int 10)) (evC (.int 18)))))
     (sSub putD (evVar 0) (evC (.str "digits")) (ev2 subD (evVar 3) (ev2 powD (evC (.int 10)) (evC (.int 18)))))
     (sSub putD (evVar 0) (evC (.str "fold")) (ev2 modD (evL intD (evCons (ev2 addD (ev2 mulD (ev2 subscD (evVar 0) (evC (.str "fold"))) (evC (.int 71993))) (evVar 3)) evNil)) (evC (.int 2147483549)))))))
     sNext) [some (.ref lp), v1, v2, v3, v4] (pn S lp lc a d c f) = .fl (.nx [some (.ref lp), v1, v2, v3', v4]) (pn S lp lc a' d' c f') := by
  have hcp : ∀ a d c f, (pn S lp lc a d c f)[lc]? = some (false, .lst (cells.map D.int)) := fun a d c f => by rw [pn_ne hn]; exact hc
  have hlen : lenD [.ref lc] (pn S lp lc a d c f) = some (.int cells.length, pn S lp lc a d c f) := by
    unfold lenD seqD
    simp only [hcp, List.length_map]
  have cond : tand (evTB (ev2 eqX (ev2 subscD (evVar 0) (evC (.str "digits"))) (evC (.int 0)))) (evTB (ev2 ltD (ev2 subscD (evVar 0) (evC (.str "at"))) (evL lenD (evCons (ev2 subscD (evVar 0) (evC (.str "cells"))) evNil)))) [some (.ref lp), v1, v2, v3, v4] (pn S lp lc a d c f) = .ok (decide (d = 0) && decide (a < (cells.length : Int))) (pn S lp lc a d c f) := by
    unfold tand evTB ev2 evL evCons evNil evC
    simp only [evVar, Res.bind, List.getElem?_cons_zero, rd_digits hl, Res.ofOpt, eqX_ii, asB, Option.map_some, rd_at hl, rd_cells hl, hlen, ltD_ii]
    by_cases z : d = 0 <;> simp [z]
  unfold sIf ofE
  rw [cond]
  by_cases z : d = 0 ∧ a < (cells.length : Int)
  · obtain ⟨z1, z2⟩ := z
    rw [decide_eq_true z1, decide_eq_true z2]
    simp only [Bool.and_self, if_true]
    obtain ⟨k, rfl⟩ := Int.eq_ofNat_of_zero_le a0
    have hk : k < cells.length := by omega
    have ga : subscD (.ref lc) (.int (k : Int)) (pn S lp lc k d c f) = some (.int cells[k], pn S lp lc k d c f) := by
      unfold subscD ixD
      simp only [hcp, L2.atI, L2.ixN, List.length_map]
      rw [if_pos a0, if_pos (by omega)]
      simp only [Option.bind_some, Int.toNat_natCast, List.getElem?_map, List.getElem?_eq_getElem hk, Option.map_some]
    by_cases y : cells[k] < 1000000000000000000
    · refine ⟨some (.int cells[k]), k + 1, d, (f * 71993 + cells[k]).fmod 2147483549, by omega, d0, (fmod_lt _ (by omega)).1, (fmod_lt _ (by omega)).2, ?_⟩
      have m1 := mulD_ii (a := f) (b := 71993) (bs_of f0 (by omega)) (bs_of (by omega) (by omega)) (pn S lp lc (k + 1) d c f)
      have m2 := modD_ii (a := f * 71993 + cells[k]) (b := 2147483549) (by omega) (pn S lp lc (k + 1) d c f)
      unfold sSeq sSet sSub ofE evTB ev2 evL evCons evNil evC
      simp only [evVar, Res.bind, List.getElem?_cons_zero, List.getElem?_cons_succ, rd_cells hl, rd_at hl, ga, Res.ofOpt, List.set_cons_succ, List.set_cons_zero, addD_ii, wr_at hl, pow18, geD_ii, decide_eq_true y, Bool.not_true, asB, Option.map_some, Bool.false_eq_true, if_false, rd_fold hl, m1, PP.intD, m2, wr_fold hl, sSeq, sSet, sSub, ofE, sIf, evTB]
    · refine ⟨some (.int cells[k]), k + 1, cells[k] - 1000000000000000000, f, by omega, by omega, f0, f1, ?_⟩
      unfold sSeq sSet sSub ofE evTB ev2 evL evCons evNil evC
      simp only [evVar, Res.bind, List.getElem?_cons_zero, List.getElem?_cons_succ, rd_cells hl, rd_at hl, ga, Res.ofOpt, List.set_cons_succ, List.set_cons_zero, addD_ii, wr_at hl, pow18, geD_ii, decide_eq_false y, Bool.not_false, asB, Option.map_some, if_true, subD_ii, wr_digits hl, sSeq, sSet, sSub, ofE, sIf, evTB]
  · have : (decide (d = 0) && decide (a < (cells.length : Int))) = false := by
      by_cases y : d = 0
      · have : ¬ a < (cells.length : Int) := fun x => z ⟨y, x⟩
        simp [this]
      · simp [y]
    rw [this]
    exact ⟨v3, a, d, f, a0, d0, f0, f1, rfl⟩
theorem draw {n : Nat} {S : Store} {lp : Nat} {many : Int} (h : Pen (n + 1) S lp) (m0 : 0 < many) (m1 : many < 2 ^ 64) : ∃ d S', g__law_draw [.ref lp, .int many] S = .ok (.int d) S' ∧ 0 ≤ d ∧ d < many ∧ Pen n S' lp ∧ Kp lp S S' := by
  obtain ⟨lc, cells, a, d, c, f, h1, h2, h3, a0, d0, c0, c1, f0, f1⟩ := h
  have hl := lt_of_at h1
  have hS : S = pn S lp lc a d c f := by
    obtain ⟨g1, g2⟩ := List.getElem?_eq_some_iff.mp h1
    unfold pn
    rw [← g2]
    exact (List.set_getElem_self g1).symm
  obtain ⟨v3, a', d', f', a0', d0', f0', f1', q⟩ := draw_cell (c := c + 1) hl h2 (by omega) a0 d0 f0 f1 (some (.int many)) none none none
  have kp : ∀ a d c f, Kp lp S (pn S lp lc a d c f) := fun a d c f => ⟨by simp, fun l _ hn => pn_ne hn⟩
  have pen : ∀ a d f : Int, 0 ≤ a → 0 ≤ d → 0 ≤ f → f < 2147483549 → Pen n (pn S lp lc a d (c + 1) f) lp := fun a d f x y z w =>
    ⟨lc, cells, a, d, c + 1, f, pn_at hl, by rw [pn_ne (by omega)]; exact h2, h3, x, y, by omega, by omega, z, w⟩
  have st1 : sSub putD (evVar 0) (evC (.str "count")) (ev2 addD (ev2 subscD (evVar 0) (evC (.str "count"))) (evC (.int 1))) [some (.ref lp), some (.int many), none, none, none] (pn S lp lc a d c f) = .fl (.nx [some (.ref lp), some (.int many), none, none, none]) (pn S lp lc a d (c + 1) f) := by
    unfold sSub ofE ev2 evC
    simp only [evVar, Res.bind, List.getElem?_cons_zero, rd_count hl, Res.ofOpt, addD_ii, wr_count hl]
  have hm : many ≠ 0 := by omega
  have bm : Bs 9000 many := bs_of (by omega) m1
  by_cases z : 0 < d'
  · refine ⟨d'.fmod many, pn S lp lc a' (d'.fdiv many) (c + 1) f', ?_, (fmod_lt _ m0).1, (fmod_lt _ m0).2, pen _ _ _ a0' (Int.fdiv_nonneg d0' (by omega)) f0' f1', kp _ _ _ _⟩
    conv => lhs; rw [hS]
    have md := modD_ii (a := d') hm (pn S lp lc a' d' (c + 1) f')
    have fd := floorD_ii (a := d') hm bm (pn S lp lc a' d' (c + 1) f')
    unfold g__law_draw b__law_draw runS startD
    simp only [List.map_cons, List.map_nil, List.length_cons, List.length_nil, Nat.zero_add, Nat.reduceAdd, Nat.reduceSub, List.replicate_succ, List.replicate_zero, List.cons_append, List.nil_append]
    rw [show ∀ (f g : Ss) (env : EnvD) (st : Store), sSeq f g env st = match f env st with | .fl (.nx e) s => g e s | r => r from fun _ _ _ _ => rfl, st1]
    simp only
    rw [show ∀ (f g : Ss) (env : EnvD) (st : Store), sSeq f g env st = match f env st with | .fl (.nx e) s => g e s | r => r from fun _ _ _ _ => rfl, q]
    unfold sSeq sIf ofE evTB sSet sRet sSub ev2 evL evCons evNil evC
    simp only [evVar, Res.bind, List.getElem?_cons_zero, List.getElem?_cons_succ, rd_digits hl, Res.ofOpt, gtD_ii, decide_eq_true z, asB, Option.map_some, if_true, PP.intD, md, List.set_cons_succ, List.set_cons_zero, fd, wr_digits hl, sSeq, sSub, sRet, ofE, evTB, sIf]
  · have b0 : 0 ≤ f' + (c + 1) * 8117 + 71 := by omega
    have b1 : f' + (c + 1) * 8117 + 71 < 2 ^ 60 := by omega
    refine ⟨((((f' + (c + 1) * 8117 + 71) ^ 19).fmod 2305843009213693951).fdiv 128).fmod many, pn S lp lc a' d' (c + 1) f', ?_, (fmod_lt _ m0).1, (fmod_lt _ m0).2, pen _ _ _ a0' d0' f0' f1', kp _ _ _ _⟩
    conv => lhs; rw [hS]
    have mu := mulD_ii (a := c + 1) (b := 8117) (bs_of (by omega) (by omega)) (bs_of (by omega) (by omega)) (pn S lp lc a' d' (c + 1) f')
    have pw : powD (.int (f' + (c + 1) * 8117 + 71)) (.int 19) (pn S lp lc a' d' (c + 1) f') = some (.int ((f' + (c + 1) * 8117 + 71) ^ 19), pn S lp lc a' d' (c + 1) f') := by
      unfold powD
      simp only
      rw [if_pos ⟨by omega, by omega, by omega⟩]
      rfl
    have md := modD_ii (a := (f' + (c + 1) * 8117 + 71) ^ 19) (b := 2305843009213693951) (by omega) (pn S lp lc a' d' (c + 1) f')
    have fd := floorD_ii (a := ((f' + (c + 1) * 8117 + 71) ^ 19).fmod 2305843009213693951) (b := 128) (by omega) (bs_of (by omega) (by omega)) (pn S lp lc a' d' (c + 1) f')
    have md2 := modD_ii (a := (((f' + (c + 1) * 8117 + 71) ^ 19).fmod 2305843009213693951).fdiv 128) hm (pn S lp lc a' d' (c + 1) f')
    unfold g__law_draw b__law_draw runS startD
    simp only [List.map_cons, List.map_nil, List.length_cons, List.length_nil, Nat.zero_add, Nat.reduceAdd, Nat.reduceSub, List.replicate_succ, List.replicate_zero, List.cons_append, List.nil_append]
    rw [show ∀ (f g : Ss) (env : EnvD) (st : Store), sSeq f g env st = match f env st with | .fl (.nx e) s => g e s | r => r from fun _ _ _ _ => rfl, st1]
    simp only
    rw [show ∀ (f g : Ss) (env : EnvD) (st : Store), sSeq f g env st = match f env st with | .fl (.nx e) s => g e s | r => r from fun _ _ _ _ => rfl, q]
    unfold sSeq sIf ofE evTB sSet sRet sSub ev2 evL evCons evNil evC
    simp only [evVar, Res.bind, List.getElem?_cons_zero, List.getElem?_cons_succ, rd_digits hl, rd_fold hl, rd_count hl, Res.ofOpt, gtD_ii, decide_eq_false z, asB, Option.map_some, Bool.false_eq_true, if_false, sNext, addD_ii, mu, List.set_cons_succ, List.set_cons_zero, pw, md, PP.intD, fd, md2, sSet, sSeq, sRet, ofE]
theorem law_pick {n : Nat} {S : Store} {lp l : Nat} {ds : List D} (h : Pen (n + 1) S lp) (e : S[l]? = some (false, .lst ds)) (hl : l ≠ lp) (h0 : ds ≠ []) (h1 : ds.length < 2 ^ 64) : ∃ d S', g__law_pick [.ref lp, .ref l] S = .ok d S' ∧ d ∈ ds ∧ Pen n S' lp ∧ Kp lp S S' := by
  have hpos : 0 < ds.length := List.length_pos_iff.mpr h0
  obtain ⟨k, S', q, k0, k1, p, kp⟩ := draw (many := ds.length) h (by omega) (by omega)
  obtain ⟨k, rfl⟩ := Int.eq_ofNat_of_zero_le k0
  have hk : k < ds.length := by omega
  refine ⟨ds[k], S', ?_, List.getElem_mem hk, p, kp⟩
  have hlen : lenD [.ref l] S = some (.int ds.length, S) := by
    unfold lenD seqD
    simp only [e]
  have ga : subscD (.ref l) (.int (k : Int)) S' = some (ds[k], S') := by
    unfold subscD ixD
    simp only [kp.get e hl, L2.atI, L2.ixN]
    rw [if_pos k0, if_pos (by omega)]
    simp only [Option.bind_some, Int.toNat_natCast, List.getElem?_eq_getElem hk, Option.map_some]
  unfold g__law_pick b__law_pick runS startD sRet ofE evCall ev2 evL evCons evNil
  simp only [List.map_cons, List.map_nil, List.length_cons, List.length_nil, Nat.zero_add, Nat.sub_self, List.replicate_zero, List.append_nil, evVar, Res.bind, List.getElem?_cons_zero, List.getElem?_cons_succ, hlen, Res.ofOpt, q, ga]
theorem seq_eq (f g : Ss) (env : EnvD) (st : Store) : sSeq f g env st = match f env st with | .fl (.nx e) s => g e s | r => r := rfl
theorem law_pen (ns : List Int) (hn : ns.length ≤ 63) : ∃ lp S', g__law_pen [.ref 0] [(true, .lst (ns.map D.int))] = .ok (.ref lp) S' ∧ Pen 1000000 S' lp := by
  obtain ⟨e, s, q, f, e2, rfl, rfl, f0, f1⟩ := sFor_inv (src := evSrc (evVar 0)) (tg := tgN 2) (body := (sSet 1 (ev2 modD (evL PP.intD (evCons (ev2 addD (ev2 mulD (evVar 1) (evC (.int 67))) (evVar 2)) evNil)) (evC (.int 1000000021)))))
    (env := [some (.ref 0), some (.int 0), none]) (st := [(true, .lst (ns.map D.int))]) (st1 := [(true, .lst (ns.map D.int))]) (g := srcL 0) (ns.map D.int)
    (fun i env st => ∃ f e2, env = [some (.ref 0), some (.int f), e2] ∧ st = [(true, .lst (ns.map D.int))] ∧ 0 ≤ f ∧ f < 2147483549) (by
      have := szl
      simp; omega) rfl ⟨0, none, rfl, rfl, by omega, by omega⟩ (fun i env st h => by
      obtain ⟨f, e2, _, rfl, _⟩ := h
      rfl) (fun i d env st hd h => by
      obtain ⟨f, e2, rfl, rfl, f0, f1⟩ := h
      rw [List.getElem?_map] at hd
      obtain ⟨k, hk, rfl⟩ := Option.map_eq_some_iff.mp hd
      refine ⟨_, rfl, _, _, .inl (?_ : _ = ResS.fl (.nx [some (.ref 0), some (.int ((f * 67 + k).fmod 1000000021)), some (.int k)]) [(true, .lst (ns.map D.int))]), _, _, rfl, rfl, (fmod_lt _ (by omega)).1, by have := (fmod_lt (f * 67 + k) (m := 1000000021) (by omega)).2; omega⟩
      have m1 := mulD_ii (a := f) (b := 67) (bs_of f0 (by omega)) (bs_of (by omega) (by omega)) [(true, .lst (ns.map D.int))]
      have m2 := modD_ii (a := f * 67 + k) (b := 1000000021) (by omega) [(true, .lst (ns.map D.int))]
      unfold sSet ofE ev2 evL evCons evNil evC
      simp only [evVar, Res.bind, List.getElem?_cons_zero, List.getElem?_cons_succ, List.set_cons_succ, List.set_cons_zero, m1, Res.ofOpt, addD_ii, PP.intD, m2])
  refine ⟨1, [(true, .lst (ns.map D.int)), (false, .dct (pkv 2 0 0 0 f)), (false, .lst (ns.map D.int))], ?_, 2, ns, 0, 0, 0, f, rfl, rfl, by omega, by omega, by omega, by omega, by omega, f0, f1⟩
  unfold g__law_pen b__law_pen runS startD
  simp only [List.map_cons, List.map_nil, List.length_cons, List.length_nil, Nat.zero_add, Nat.reduceAdd, Nat.reduceSub, List.replicate_succ, List.replicate_zero, List.cons_append, List.nil_append]
  rw [seq_eq, show sSet 1 (evC (.int 0)) [some (.ref 0), none, none] [(true, .lst (ns.map D.int))] = .fl (.nx [some (.ref 0), some (.int 0), none]) [(true, .lst (ns.map D.int))] from rfl]
  simp only
  rw [seq_eq, q]
  rfl
theorem lat_div {t b : Int} (hb : 0 < b) : Lat b.toNat t.natAbs (Rat.divInt t b) := by
  refine ⟨t, ?_, Nat.le_refl _⟩
  have e : ((b.toNat : Nat) : Int) = b := by omega
  rw [e, Rat.divInt_eq_div]
  have := cast_ne (b := b) (by omega)
  grind
theorem div_ne {t b : Int} (hb : 0 < b) (ht : t ≠ 0) : Rat.divInt t b ≠ 0 := by
  rw [Rat.divInt_eq_div]
  have h1 := cast_ne (b := b) (by omega)
  have h2 := cast_ne ht
  intro z
  apply h2
  grind
theorem small_lt {j : Int} (h0 : 0 ≤ j) (h : j < 1000) : small62 j = true := by
  unfold small62
  exact decide_eq_true ⟨by omega, by omega⟩
theorem rg1 {j : Int} (h : small62 j = true) {f : Ev (List D)} {env : EnvD} {st st1 : Store} (e : f env st = .ok [.int j] st1) : evRg1 f env st = .ok (srcS (rangeL 0 j.toNat)) st1 := by
  unfold evRg1
  rw [e]
  simp only [Res.bind, srcRg, h, if_true, Option.map_some, Res.ofOpt]
theorem pen_upd {n : Nat} {S : Store} {lp r : Nat} {c : Bool × Cell} (h : Pen n S lp) (h1 : r ≠ lp) (h2 : r ≠ lp + 1) : Pen n (S.set r c) lp := by
  obtain ⟨lc, cells, a, d, cc, f, k1, k2, k3, k4⟩ := h
  exact ⟨lc, cells, a, d, cc, f, by rw [List.getElem?_set, if_neg h1]; exact k1, by rw [List.getElem?_set, if_neg (by omega)]; exact k2, k3, k4⟩
theorem Pen.lt1 {n : Nat} {S : Store} {lp : Nat} (h : Pen n S lp) : lp + 1 < S.length := by
  obtain ⟨lc, cells, a, d, c, f, h1, h2, h3, _⟩ := h
  have := lt_of_at h2
  omega
/-- all but the pen and the place r stays -/
theorem st_upd {r : Nat} {S : Store} {c : Bool × Cell} {l : Nat} (hr : l ≠ r) : (S.set r c)[l]? = S[l]? := by
  rw [List.getElem?_set, if_neg (fun z => hr z.symm)]
end FG
set_option Elab.async false
set_option linter.all false
set_option maxRecDepth 100000
set_option maxHeartbeats 1000000
/-! FK: what is shown of a value; values that are no quotient. -/
namespace FH
open PySem PySem.Spec PyProof.Rows L2 PP MA FB FC FD FE FF FG G07
variable [Tbl]
/-! ### shown -/
/-- every sign is one -/
def TOk (z : Str) : Prop := ∀ c ∈ z.cps.toList, c < 1114112
theorem TOk.str {z : Str} (h : TOk z) : PyData.strOk z = true := by
  unfold PyData.strOk
  rw [← Array.all_toList, List.all_eq_true]
  exact fun c hc => decide_eq_true (h c hc)
theorem tok_of (s : String) : TOk (Str.ofString s) := fun c hc => by
  rw [signs_ofString] at hc
  obtain ⟨x, _, rfl⟩ := List.mem_map.mp hc
  show x.val.toNat < 1114112
  rcases x.valid with h | ⟨_, h⟩
  · have : x.val.toNat < 55296 := h
    omega
  · exact h
theorem TOk.app {a b : Str} (h : TOk a) (k : TOk b) : TOk (a ++ b) := fun c hc => by
  have e : (a ++ b).cps = a.cps ++ b.cps := rfl
  rw [e, Array.toList_append] at hc
  rcases List.mem_append.mp hc with z | z
  · exact h c z
  · exact k c z
theorem tok_join {s : Str} (hs : TOk s) : ∀ {ts : List Str}, (∀ t ∈ ts, TOk t) → TOk (s.join ts)
  | [], _ => fun c hc => (by cases hc)
  | [x], h => h x List.mem_cons_self
  | x :: y :: r, h => by
    have ih := tok_join hs (ts := y :: r) (fun t ht => h t (List.mem_cons_of_mem _ ht))
    exact ((h x List.mem_cons_self).app hs).app ih
structure Sh (p : PyData) (N : Nat) : Prop where
  ok : p.showable = true
  len : p.shown.length ≤ N
  txt : TOk p.shown
theorem Sh.mono {p : PyData} {N M : Nat} (h : Sh p N) (k : N ≤ M) : Sh p M := ⟨h.ok, Nat.le_trans h.len k, h.txt⟩
theorem sh_int {i : Int} (h : Bs 900 i) : Sh (.int i) 1921 := by
  have hl := h.log (by omega)
  refine ⟨by simp only [PyData.showable]; exact decide_eq_true (by omega), ?_, ?_⟩
  · simp only [PyData.shown]
    exact int_text_len_1921 (by omega)
  · simp only [PyData.shown]
    exact tok_of _
theorem sh_bool (b : Bool) : Sh (.bool b) 1921 := ⟨by simp only [PyData.showable], by
  simp only [PyData.shown]
  cases b <;> decide, by
  simp only [PyData.shown]
  split <;> exact tok_of _⟩
theorem sh_none : Sh .none 1921 := ⟨by simp only [PyData.showable], by
  simp only [PyData.shown]
  decide, by
  simp only [PyData.shown]
  exact tok_of _⟩
theorem sh_all : ∀ {ps : List PyData} {B : Nat}, (∀ p ∈ ps, Sh p B) → PyData.showableAll ps = true ∧ ((PyData.shownAll ps).map (·.length)).sum ≤ ps.length * B ∧ (PyData.shownAll ps).length = ps.length
  | [], B, _ => ⟨by simp only [PyData.showableAll], by simp [PyData.shownAll], by simp [PyData.shownAll]⟩
  | p :: ps, B, h => by
    obtain ⟨h1, h2, h3⟩ := sh_all (fun q hq => h q (List.mem_cons_of_mem _ hq)) (ps := ps) (B := B)
    have hp := h p List.mem_cons_self
    refine ⟨by simp only [PyData.showableAll, hp.ok, h1, Bool.and_self], ?_, by simp only [PyData.shownAll, List.length_cons, h3]⟩
    simp only [PyData.shownAll, List.map_cons, List.sum_cons, List.length_cons]
    have := hp.len
    rw [Nat.add_mul, Nat.one_mul]
    omega
theorem tok_all : ∀ {ps : List PyData} {B : Nat}, (∀ p ∈ ps, Sh p B) → ∀ t ∈ PyData.shownAll ps, TOk t
  | [], _, _, t, ht => by simp [PyData.shownAll] at ht
  | p :: ps, B, h, t, ht => by
    simp only [PyData.shownAll] at ht
    rcases List.mem_cons.mp ht with rfl | z
    · exact (h p List.mem_cons_self).txt
    · exact tok_all (fun q hq => h q (List.mem_cons_of_mem _ hq)) t z
theorem sh_tup {ps : List PyData} {B : Nat} (h : ∀ p ∈ ps, Sh p B) : Sh (.tuple ps) (ps.length * (B + 2) + 3) := by
  obtain ⟨h1, h2, h3⟩ := sh_all h
  refine ⟨by simp only [PyData.showable, h1], ?_, ?_⟩
  · simp only [PyData.shown]
    have := tupleText_len_le (PyData.shownAll ps)
    rw [h3] at this
    rw [Nat.mul_add]
    omega
  · simp only [PyData.shown]
    exact ((tok_of "(").app (tok_join (tok_of ", ") (tok_all h))).app (tok_of _)
theorem sh_list {ps : List PyData} {B : Nat} (h : ∀ p ∈ ps, Sh p B) : Sh (.list ps) (ps.length * (B + 2) + 3) := by
  obtain ⟨h1, h2, h3⟩ := sh_all h
  refine ⟨by simp only [PyData.showable, h1], ?_, ?_⟩
  · simp only [PyData.shown]
    have := listText_len_le (PyData.shownAll ps)
    rw [h3] at this
    rw [Nat.mul_add]
    omega
  · simp only [PyData.shown]
    rw [listText_eq_join]
    exact ((tok_of "[").app (tok_join (tok_of ", ") (tok_all h))).app (tok_of "]")
/-- reads as something that can be shown -/
def Shows (S : Store) (d : D) (k N : Nat) : Prop := ∃ p, toP S k d = some p ∧ Sh p N
theorem Shows.mono {S : Store} {d : D} {k N M : Nat} (h : Shows S d k N) (l : N ≤ M) : Shows S d k M := by
  obtain ⟨p, e, s⟩ := h
  exact ⟨p, e, s.mono l⟩
theorem optAll_of {α β : Type} {f : β → Option α} {Q : α → Prop} : ∀ {l : List β}, (∀ x ∈ l, ∃ a, f x = some a ∧ Q a) → ∃ as, optAll (l.map f) = some as ∧ as.length = l.length ∧ ∀ a ∈ as, Q a
  | [], _ => ⟨[], rfl, rfl, fun a h => (by cases h)⟩
  | x :: l, h => by
    obtain ⟨a, e, q⟩ := h x List.mem_cons_self
    obtain ⟨as, e2, l2, q2⟩ := optAll_of (fun y hy => h y (List.mem_cons_of_mem _ hy)) (l := l)
    refine ⟨a :: as, ?_, by simp [l2], fun b hb => ?_⟩
    · rw [List.map_cons, e]
      show (optAll (l.map f)).map _ = _
      rw [e2]; rfl
    · rcases List.mem_cons.mp hb with rfl | hb
      · exact q
      · exact q2 b hb
theorem shows_tup {S : Store} {b : Bool} {ds : List D} {k B : Nat} (h : ∀ d ∈ ds, Shows S d k B) : Shows S (.tup b ds) (k + 1) (ds.length * (B + 2) + 3) := by
  obtain ⟨ps, e, l, q⟩ := optAll_of h
  refine ⟨.tuple ps, ?_, by rw [← l]; exact sh_tup q⟩
  show (optAll (ds.map (toP S k))).map PyData.tuple = _
  rw [e]; rfl
theorem shows_lst {S : Store} {l : Nat} {lk : Bool} {ds : List D} {k B : Nat} (e0 : S[l]? = some (lk, .lst ds)) (h : ∀ d ∈ ds, Shows S d k B) : Shows S (.ref l) (k + 1) (ds.length * (B + 2) + 3) := by
  obtain ⟨ps, e, l', q⟩ := optAll_of h
  refine ⟨.list ps, ?_, by rw [← l']; exact sh_list q⟩
  unfold toP
  simp only [e0, e, Option.map_some]
theorem shows_int {S : Store} {i : Int} {k : Nat} (h : Bs 900 i) : Shows S (.int i) (k + 1) 1921 := ⟨.int i, rfl, sh_int h⟩
theorem shows_bl (S : Store) (b : Bool) (k : Nat) : Shows S (.bl b) (k + 1) 1921 := ⟨.bool b, rfl, sh_bool b⟩
theorem shows_non (S : Store) (k : Nat) : Shows S .non (k + 1) 1921 := ⟨.none, rfl, sh_none⟩
theorem shows_trip {S : Store} {x y z : D} {k : Nat} (h1 : Shows S x k 1921) (h2 : Shows S y k 1921) (h3 : Shows S z k 1921) : Shows S (.tup false [x, y, z]) (k + 1) 5772 := by
  refine (shows_tup (B := 1921) (fun d hd => ?_)).mono (by simp)
  rcases List.mem_cons.mp hd with rfl | hd
  · exact h1
  · rcases List.mem_cons.mp hd with rfl | hd
    · exact h2
    · rw [List.mem_singleton.mp hd]; exact h3
/-- what a term's numbers must be to be shown -/
def Rok (r : Raw) : Prop := Bs 900 r.1 ∧ Bs 900 r.2.1 ∧ Bs 900 r.2.2
theorem shows_rt {S : Store} {r : Raw} {k : Nat} (h : Rok r) : Shows S (rt r) (k + 2) 5772 := shows_trip (shows_int h.1) (shows_int h.2.1) (shows_int h.2.2)
theorem shows_rts {S : Store} {rs : List Raw} {k : Nat} (h : ∀ r ∈ rs, Rok r) (hl : rs.length ≤ 40) : Shows S (.tup false (rs.map rt)) (k + 3) 240000 :=
  (shows_tup (B := 5772) (fun d hd => by
    obtain ⟨r, hr, rfl⟩ := List.mem_map.mp hd
    exact shows_rt (h r hr))).mono (by rw [List.length_map]; omega)
theorem shows_pair {S : Store} {x y : D} {k : Nat} (h1 : Shows S x k 240000) (h2 : Shows S y k 240000) : Shows S (.tup false [x, y]) (k + 1) 1000000 := by
  refine (shows_tup (B := 240000) (fun d hd => ?_)).mono (by simp)
  rcases List.mem_cons.mp hd with rfl | hd
  · exact h1
  · rw [List.mem_singleton.mp hd]; exact h2
theorem repr_of {S : Store} {d : D} {p : PyData} (h : rdP S d = some p) (k : Sh p 1000000) : reprD [d] S = some (.str p.shown, S) := by
  unfold reprD
  simp only [h]
  rw [if_pos ⟨k.ok, by have := k.len; have := szl; omega⟩]
/-- what was a list stays that list -/
def Lk (S S' : Store) : Prop := ∀ (l : Nat) (b : Bool) (ds : List D), S[l]? = some (b, Cell.lst ds) → S'[l]? = some (b, Cell.lst ds)
theorem Lk.ext {S S' : Store} (h : Ext S S') : Lk S S' := fun l b ds e => h.get e
theorem Lk.kp {S S' : Store} {lp : Nat} (h : Kp lp S S') (e : ∃ b kvs, S[lp]? = some (b, .dct kvs)) : Lk S S' := fun l b ds el => by
  refine h.get el fun z => ?_
  obtain ⟨b', kvs, e⟩ := e
  rw [z, e] at el
  cases el
theorem Lk.trans {A B C : Store} (h : Lk A B) (k : Lk B C) : Lk A C := fun l b ds e => k l b ds (h l b ds e)
theorem toP_keep {S S' : Store} (h : Lk S S') : ∀ (k : Nat) (d : D) (p : PyData), toP S k d = some p → toP S' k d = some p
  | 0, _, _, e => by cases e
  | k + 1, d, p, e => by
    have all : ∀ (ds : List D) (ps : List PyData), optAll (ds.map (toP S k)) = some ps → optAll (ds.map (toP S' k)) = some ps := fun ds => by
      induction ds with
      | nil => intro ps e; exact e
      | cons d ds ih =>
        intro ps e
        obtain ⟨a, l', e1, e2, rfl⟩ := optAll_cons e
        rw [List.map_cons, toP_keep h k d a e1]
        show (optAll (ds.map (toP S' k))).map _ = _
        rw [ih l' e2]; rfl
    cases d with
    | tup b ds =>
      have e' : (optAll (ds.map (toP S k))).map PyData.tuple = some p := e
      show (optAll (ds.map (toP S' k))).map PyData.tuple = some p
      cases q : optAll (ds.map (toP S k)) with
      | none => rw [q] at e'; cases e'
      | some ps => rw [q] at e'; rw [all ds ps q]; exact e'
    | ref l =>
      unfold toP at e ⊢
      simp only at e ⊢
      split at e
      · rename_i b ds el
        rw [h l b ds el]
        simp only
        cases q : optAll (ds.map (toP S k)) with
        | none => rw [q] at e; cases e
        | some ps => rw [q] at e; rw [all ds ps q]; exact e
      · cases e
    | non => exact e
    | bl b => exact e
    | int i => exact e
    | str s => exact e
    | fn x => exact e
    | ty x => exact e
end FH
set_option Elab.async false
set_option linter.all false
set_option maxRecDepth 100000
set_option maxHeartbeats 1000000
/-! FI: errors let out; what is needed of values; worths at numbers. -/
namespace FI
open PySem PySem.Spec PyProof.Rows L2 PP MA EV FB FC FD FE FF FG FH G07
variable [Tbl]
/-- an exception is let out, things are only laid -/
def Rer {α : Type} (r : Store → Res α) (st : Store) (c : Str) (fs : List (Str × D)) : Prop := ∀ S, Ext st S → ∃ ex, r S = .err c fs (S ++ ex)
theorem Rer.mono {α : Type} {r : Store → Res α} {st st' : Store} {c : Str} {fs : List (Str × D)} (h : Rer r st c fs) (e : Ext st st') : Rer r st' c fs := fun S x => h S (e.trans x)
theorem rer_bind {α β : Type} {r : Store → Res α} {k : α → Store → Res β} {st : Store} {c : Str} {fs : List (Str × D)} (h : Rer r st c fs) : Rer (fun S => (r S).bind k) st c fs := fun S x => by
  obtain ⟨ex, e⟩ := h S x
  exact ⟨ex, by show (r S).bind k = _; rw [e]; rfl⟩
theorem rer_bind2 {α β : Type} {r : Store → Res α} {k : α → Store → Res β} {st : Store} {a : α} {c : Str} {fs : List (Str × D)} (h : Rpu r st a) (h2 : Rer (k a) st c fs) : Rer (fun S => (r S).bind k) st c fs := fun S x => by
  obtain ⟨ex, e⟩ := h S x
  obtain ⟨ex2, e2⟩ := h2 (S ++ ex) (x.app ex)
  exact ⟨ex ++ ex2, by show (r S).bind k = _; rw [e]; show k a (S ++ ex) = _; rw [e2, List.append_assoc]⟩
theorem rer_call {g : Fn} {fl : Ev (List D)} {env : EnvD} {st : Store} {ds : List D} {c : Str} {fs : List (Str × D)} (h1 : Pr fl env st ds) (h : Rer (g ds) st c fs) : Rer (evCall g fl env) st c fs := rer_bind2 h1 h
/-! ### statements that only lay things, ended by a result or an exception -/
/-- what a body does: it gives a value, or lets out an exception -/
inductive Ot where
  | val (d : D)
  | exc (c : Str) (fs : List (Str × D))
  | nx (e : EnvD)
/-- a statement's end, things only laid -/
def Bd (f : Ss) (env : EnvD) (S : Store) : Ot → Prop
  | .val d => ∀ s, Ext S s → ∃ ex, f env s = .fl (.rt d) (s ++ ex)
  | .exc c fs => ∀ s, Ext S s → ∃ ex e, f env s = .er c fs e (s ++ ex)
  | .nx e => ∀ s, Ext S s → ∃ ex, f env s = .fl (.nx e) (s ++ ex)
theorem Bd.mono {f : Ss} {env : EnvD} {S S' : Store} {o : Ot} (h : Bd f env S o) (x : Ext S S') : Bd f env S' o := by
  cases o <;> exact fun s y => h s (x.trans y)
theorem bd_seq {f g : Ss} {env e1 : EnvD} {S : Store} {o : Ot} (h : Bd f env S (.nx e1)) (k : Bd g e1 S o) : Bd (sSeq f g) env S o := by
  cases o with
  | val d =>
    intro s x
    obtain ⟨x1, q1⟩ := h s x
    obtain ⟨x2, q2⟩ := k _ (x.app x1)
    exact ⟨x1 ++ x2, by rw [seq_eq, q1]; simp only; rw [q2, List.append_assoc]⟩
  | exc c fs =>
    intro s x
    obtain ⟨x1, q1⟩ := h s x
    obtain ⟨x2, e, q2⟩ := k _ (x.app x1)
    exact ⟨x1 ++ x2, e, by rw [seq_eq, q1]; simp only; rw [q2, List.append_assoc]⟩
  | nx e =>
    intro s x
    obtain ⟨x1, q1⟩ := h s x
    obtain ⟨x2, q2⟩ := k _ (x.app x1)
    exact ⟨x1 ++ x2, by rw [seq_eq, q1]; simp only; rw [q2, List.append_assoc]⟩
theorem bd_seq1 {f g : Ss} {env : EnvD} {S : Store} {d : D} (h : Bd f env S (.val d)) : Bd (sSeq f g) env S (.val d) := fun s x => by
  obtain ⟨x1, q1⟩ := h s x
  exact ⟨x1, by rw [seq_eq, q1]⟩
theorem bd_seqE {f g : Ss} {env : EnvD} {S : Store} {c : Str} {fs : List (Str × D)} (h : Bd f env S (.exc c fs)) : Bd (sSeq f g) env S (.exc c fs) := fun s x => by
  obtain ⟨x1, e, q1⟩ := h s x
  exact ⟨x1, e, by rw [seq_eq, q1]⟩
theorem bd_set {i : Nat} {f : Ev D} {env : EnvD} {S : Store} {d : D} (h : Pr f env S d) : Bd (sSet i f) env S (.nx (env.set i (some d))) := fun s x => by
  obtain ⟨x1, q1⟩ := h s x
  exact ⟨x1, by unfold sSet ofE; rw [q1]⟩
theorem bd_expr {f : Ev D} {env : EnvD} {S : Store} {d : D} (h : Pr f env S d) : Bd (sExpr f) env S (.nx env) := fun s x => by
  obtain ⟨x1, q1⟩ := h s x
  exact ⟨x1, by unfold sExpr ofE; rw [q1]⟩
theorem bd_exprE {f : Ev D} {env : EnvD} {S : Store} {c : Str} {fs : List (Str × D)} (h : Rer (f env) S c fs) : Bd (sExpr f) env S (.exc c fs) := fun s x => by
  obtain ⟨x1, q1⟩ := h s x
  exact ⟨x1, env, by unfold sExpr ofE; rw [q1]⟩
theorem bd_ret {f : Ev D} {env : EnvD} {S : Store} {d : D} (h : Pr f env S d) : Bd (sRet f) env S (.val d) := fun s x => by
  obtain ⟨x1, q1⟩ := h s x
  exact ⟨x1, by unfold sRet ofE; rw [q1]⟩
theorem bd_retE {f : Ev D} {env : EnvD} {S : Store} {c : Str} {fs : List (Str × D)} (h : Rer (f env) S c fs) : Bd (sRet f) env S (.exc c fs) := fun s x => by
  obtain ⟨x1, q1⟩ := h s x
  exact ⟨x1, env, by unfold sRet ofE; rw [q1]⟩
theorem bd_next {env : EnvD} {S : Store} : Bd sNext env S (.nx env) := fun s _ => ⟨[], by unfold sNext; rw [List.append_nil]⟩
theorem bd_if {c : Ev Bool} {f g : Ss} {env : EnvD} {S : Store} {b : Bool} {o : Ot} (h : Pr c env S b) (k : Bd (if b = true then f else g) env S o) : Bd (sIf c f g) env S o := by
  have e : ∀ s ex, c env s = .ok b (s ++ ex) → sIf c f g env s = (if b = true then f else g) env (s ++ ex) := fun s ex q => by
    unfold sIf ofE
    rw [q]
    cases b <;> rfl
  cases o with
  | val d =>
    intro s x
    obtain ⟨x1, q1⟩ := h s x
    obtain ⟨x2, q2⟩ := k _ (x.app x1)
    exact ⟨x1 ++ x2, by rw [e _ _ q1, q2, List.append_assoc]⟩
  | exc c fs =>
    intro s x
    obtain ⟨x1, q1⟩ := h s x
    obtain ⟨x2, e', q2⟩ := k _ (x.app x1)
    exact ⟨x1 ++ x2, e', by rw [e _ _ q1, q2, List.append_assoc]⟩
  | nx e2 =>
    intro s x
    obtain ⟨x1, q1⟩ := h s x
    obtain ⟨x2, q2⟩ := k _ (x.app x1)
    exact ⟨x1 ++ x2, by rw [e _ _ q1, q2, List.append_assoc]⟩
theorem bd_raise {c : Str} {ns : List Str} {f : Ev (List D)} {env : EnvD} {S : Store} {ds : List D} {fs : List (Str × D)} (h : Pr f env S ds) (k : fldsOf ns ds [] = some fs) : Bd (sRaise c ns f) env S (.exc c fs) := fun s x => by
  obtain ⟨x1, q1⟩ := h s x
  exact ⟨x1, env, by unfold sRaise ofE; rw [q1]; simp only [k]⟩
theorem pg_val {n : Nat} {f : Ss} {ds : List D} {S : Store} {d : D} (h : Bd f (startD n ds) S (.val d)) : Pg (runS n f) ds S d := fun s x => by
  obtain ⟨x1, q1⟩ := h s x
  exact ⟨x1, by unfold runS; rw [q1]⟩
theorem pg_nx {n : Nat} {f : Ss} {ds : List D} {S : Store} {e : EnvD} (h : Bd f (startD n ds) S (.nx e)) : Pg (runS n f) ds S .non := fun s x => by
  obtain ⟨x1, q1⟩ := h s x
  exact ⟨x1, by unfold runS; rw [q1]⟩
theorem pg_exc {n : Nat} {f : Ss} {ds : List D} {S : Store} {c : Str} {fs : List (Str × D)} (h : Bd f (startD n ds) S (.exc c fs)) : Rer (runS n f ds) S c fs := fun s x => by
  obtain ⟨x1, e, q1⟩ := h s x
  exact ⟨x1, by unfold runS; rw [q1]⟩
theorem pg_of {g : Fn} {ds : List D} {S : Store} {d : D} (h : ∀ s, Ext S s → ∃ ex, g ds s = .ok d (s ++ ex)) : Pg g ds S d := h
theorem pr1 {f : Ev D} {env : EnvD} {S : Store} {x : D} (h : Pr f env S x) : Pr (evCons f evNil) env S [x] := pr_cons h pr_nil
theorem pr2 {f g : Ev D} {env : EnvD} {S : Store} {x y : D} (h : Pr f env S x) (k : Pr g env S y) : Pr (evCons f (evCons g evNil)) env S [x, y] := pr_cons h (pr_cons k pr_nil)
theorem pr3 {f g i : Ev D} {env : EnvD} {S : Store} {x y z : D} (h : Pr f env S x) (k : Pr g env S y) (l : Pr i env S z) : Pr (evCons f (evCons g (evCons i evNil))) env S [x, y, z] := pr_cons h (pr_cons k (pr_cons l pr_nil))
theorem pr_nT {f : Ev D} {env : EnvD} {S : Store} {b : Bool} (h : Pr f env S (.bl b)) : Pr (tnot (evT f)) env S (!b) := pr_tnot (pr_T h (po_bl _ _))
/-! ### need_.. -/
/-! ### powers -/
theorem bs_pow {c : Nat} {n : Int} (h : Bs c n) (h1 : 0 < c) : ∀ k : Nat, Bs (c * k + 1) (n ^ k)
  | 0 => by
    rw [Int.pow_zero]
    show (1 : Int).natAbs < 2 ^ (c * 0 + 1)
    rw [Nat.mul_zero]
    decide
  | k + 1 => by
    rw [Int.pow_succ]
    have := (bs_pow h h1 k).mul h
    exact this.mono (by rw [Nat.mul_add]; omega)
theorem rg_range (k : Nat) (hk : k < 1000) {f : Ev (List D)} {env : EnvD} {st st1 : Store} (e : f env st = .ok [.int k] st1) : evRg1 f env st = .ok (srcS (rangeL 0 k)) st1 := by
  generalize hj : (k : Int) = j at e
  have := rg1 (j := j) (small_lt (by omega) (by omega)) e
  rw [this]
  have : j.toNat = k := by omega
  rw [this]
theorem len_range (k : Nat) : (rangeL 0 k).length = k := by unfold rangeL; simp
theorem run_rt {n : Nat} {f : Ss} {ds : List D} {S S' : Store} {d : D} (h : f (startD n ds) S = .fl (.rt d) S') : runS n f ds S = .ok d S' := by unfold runS; rw [h]
theorem ret_two (i j : Nat) (x y : D) (env : EnvD) (S : Store) (h1 : env[i]? = some (some x)) (h2 : env[j]? = some (some y)) : sRet (evL mkTup (evCons (evVar i) (evCons (evVar j) evNil))) env S = .fl (.rt (.tup false [x, y])) S := by
  simp only [sSeq, sSet, sPar, sRet, sIf, sExpr, sNext, ofE, evCall, evL, evCons, evNil, ev1, ev2, evC, evVar, evIf, evTB, evT, evNot, tand, tor, tnot, Res.bind, Res.ofOpt, asB, List.getElem?_cons_zero, List.getElem?_cons_succ, List.set_cons_zero, List.set_cons_succ, Option.map_some, h1, h2, mkTup, List.length_cons, List.length_nil, two_le, Nat.zero_add, Nat.reduceAdd, if_true]
theorem power_loop {q : Rat} {c k : Nat} (hn : Bs c q.num) (hd : Bs c (q.den : Int)) (c0 : 0 < c) (hc : c * k + c + 1 ≤ 9000) (hk : k < 1000) (S : Store) : ∃ e2, sFor (evRg1 (evCons (evVar 1) evNil)) (tgN 2) (sPar 3 4 (evCons (ev2 mulD (evVar 3) (ev2 subscD (evVar 0) (evC (.int 0)))) (evCons (ev2 mulD (evVar 4) (ev2 subscD (evVar 0) (evC (.int 1)))) evNil))) [some (fr q), some (.int k), none, some (.int 1), some (.int 1)] S
    = .fl (.nx [some (fr q), some (.int k), e2, some (.int (q.num ^ k)), some (.int ((q.den : Int) ^ k))]) S := by
  obtain ⟨e, s, r, h⟩ := sFor_inv (src := evRg1 (evCons (evVar 1) evNil)) (tg := tgN 2) (body := sPar 3 4 (evCons (ev2 mulD (evVar 3) (ev2 subscD (evVar 0) (evC (.int 0)))) (evCons (ev2 mulD (evVar 4) (ev2 subscD (evVar 0) (evC (.int 1)))) evNil)))
    (env := [some (fr q), some (.int k), none, some (.int 1), some (.int 1)]) (st := S) (st1 := S) (g := srcS (rangeL 0 k)) (rangeL 0 k)
    (fun i env st => i ≤ k ∧ S = st ∧ ∃ e2, env = [some (fr q), some (.int k), e2, some (.int (q.num ^ i)), some (.int ((q.den : Int) ^ i))]) (by
      rw [len_range]
      have := szl
      omega) (rg_range k hk rfl) ⟨by omega, rfl, none, by simp⟩ (fun _ _ _ _ => rfl) (fun i d env st hd' h => by
      obtain ⟨hi, rfl, e2, rfl⟩ := h
      have hi' : i < k := by
        have := (List.getElem?_eq_some_iff.mp hd').1
        rw [len_range] at this
        exact this
      have ci : c * i ≤ c * k := Nat.mul_le_mul_left _ hi
      have m1 := mulD_ii ((bs_pow hn c0 i).mono (by omega)) (hn.mono (by omega)) S
      have m2 := mulD_ii ((bs_pow hd c0 i).mono (by omega)) (hd.mono (by omega)) S
      refine ⟨_, rfl, [some (fr q), some (.int k), some d, some (.int (q.num ^ (i + 1))), some (.int ((q.den : Int) ^ (i + 1)))], S, .inl ?_, by omega, rfl, some d, rfl⟩
      simp only [sSeq, sSet, sPar, sRet, sIf, sExpr, sNext, ofE, evCall, evL, evCons, evNil, ev1, ev2, evC, evVar, evIf, evTB, evT, evNot, tand, tor, tnot, Res.bind, Res.ofOpt, asB, List.getElem?_cons_zero, List.getElem?_cons_succ, List.set_cons_zero, List.set_cons_succ, Option.map_some, ix0, ix1, m1, m2, Int.pow_succ])
  obtain ⟨_, rfl, e2, rfl⟩ := h
  rw [len_range] at r
  exact ⟨e2, r⟩
theorem one_one (S : Store) (x y : D) : sTg (tgT 2 (tgsCons (tgN 3) (tgsCons (tgN 4) tgsNil))) (evL mkTup (evCons (evC (.int 1)) (evCons (evC (.int 1)) evNil))) [some x, some y, none, none, none] S = .fl (.nx [some x, some y, none, some (.int 1), some (.int 1)]) S := rfl
theorem power {q : Rat} {c k : Nat} (hn : Bs c q.num) (hd : Bs c (q.den : Int)) (c0 : 0 < c) (hc : c * k + c + 1 ≤ 9000) (hk : k < 1000) (S : Store) : g_power [fr q, .int k] S = .ok (.tup false [.int (q.num ^ k), .int ((q.den : Int) ^ k)]) S := by
  obtain ⟨e2, r⟩ := power_loop hn hd c0 hc hk S
  refine run_rt (n := 5) ?_
  show b_power [some (fr q), some (.int k), none, none, none] S = _
  unfold b_power
  rw [seq_eq, one_one]
  simp only
  rw [seq_eq, r]
  simp only
  exact ret_two _ _ _ _ _ _ rfl rfl
theorem multiplied_raw {a b c d : Int} (hb : b ≠ 0) (hd : d ≠ 0) (ha : Bs 4000 a) (hb2 : Bs 4000 b) (hc : Bs 4000 c) (hd2 : Bs 4000 d) (S : Store) : g_multiplied [.tup false [.int a, .int b], .tup false [.int c, .int d]] S = .ok (fr (Rat.divInt (a * c) (b * d))) S := by
  have k : ∀ {i}, Bs 4000 i → Bs 9000 i := fun h => h.mono (by omega)
  unfold g_multiplied b_multiplied runS startD
  simp only [List.map_cons, List.map_nil, List.length_cons, List.length_nil, Nat.zero_add, Nat.reduceAdd, Nat.reduceSub, List.replicate_succ, List.replicate_zero, List.cons_append, List.nil_append, sSeq, sSet, sPar, sRet, sIf, sExpr, sNext, ofE, evCall, evL, evCons, evNil, ev1, ev2, evC, evVar, evIf, evTB, evT, evNot, tand, tor, tnot, Res.bind, Res.ofOpt, asB, List.getElem?_cons_zero, List.getElem?_cons_succ, List.set_cons_zero, List.set_cons_succ, Option.map_some, ix0, ix1, mulD_ii (k ha) (k hc), mulD_ii (k hb2) (k hd2), FB.fraction_of (Int.mul_ne_zero hb hd) ((hb2.mul hd2).mono (by omega))]
theorem ev_take (a : W) (q : Rat) (i : Nat) {p : Int × Rat} (h : a[i]? = some p) : ev (a.take (i + 1)) q = ev (a.take i) q + p.2 * pw q p.1.toNat := by
  rw [take_snoc _ _ h, ev_app]
  simp only [ev, Rat.add_zero]
/-- what is asked of a worth and a number -/
structure At (a : W) (q : Rat) : Prop where
  nn : Bs 8 q.num
  nd : Bs 8 (q.den : Int)
  k0 : ∀ p ∈ a, 0 ≤ p.1 ∧ p.1 < 70
  ok : ∀ p ∈ a, Ok p.2
  tk : ∀ i, Ok (ev (a.take i) q)
  tm : ∀ p ∈ a, Ok (p.2 * pw q p.1.toNat)
  len : a.length < 1000
theorem den_pow_ne (q : Rat) (k : Nat) : ((q.den : Int)) ^ k ≠ 0 := Int.pow_ne_zero (den_ne q)
theorem den_pow_pos (q : Rat) (k : Nat) : 0 < ((q.den : Int)) ^ k := Int.pow_pos (by have := q.den_pos; omega)
theorem value_at {a : W} {q : Rat} (h : At a q) (S : Store) : g_value_at [tms a, fr q] S = .ok (fr (ev a q)) S := by
  obtain ⟨e, s, r, hh⟩ := sFor_inv (src := evSrc (evVar 0)) (tg := tgT 3 (tgsCons (tgN 3) (tgsCons (tgN 4) (tgsCons (tgN 5) tgsNil)))) (body := sSet 2 (evCall g_added (evCons (evVar 2) (evCons (evCall g_multiplied (evCons (evL mkTup (evCons (evVar 4) (evCons (evVar 5) evNil))) (evCons (evCall g_power (evCons (evVar 1) (evCons (evVar 3) evNil))) evNil))) evNil))))
    (env := [some (tms a), some (fr q), some (fr 0), none, none, none]) (st := S) (st1 := S) (g := srcS (a.map tm)) (a.map tm)
    (fun i env st => S = st ∧ ∃ e3 e4 e5, env = [some (tms a), some (fr q), some (fr (ev (a.take i) q)), e3, e4, e5]) (by
      have := szl
      have := h.len
      simp; omega) rfl ⟨rfl, none, none, none, rfl⟩ (fun _ _ _ _ => rfl) (fun i d env st hd hh => by
      obtain ⟨rfl, e3, e4, e5, rfl⟩ := hh
      rw [List.getElem?_map] at hd
      obtain ⟨p, hp, rfl⟩ := Option.map_eq_some_iff.mp hd
      have hm := List.mem_of_getElem? hp
      obtain ⟨k0, k1⟩ := h.k0 p hm
      obtain ⟨k, hk⟩ : ∃ k : Nat, p.1 = (k : Int) := ⟨p.1.toNat, by omega⟩
      have o := h.ok p hm
      have pk := FI.power (k := k) h.nn h.nd (by omega) (by omega) (by omega) S
      have mr := multiplied_raw (a := p.2.num) (b := p.2.den) (c := q.num ^ k) (d := (q.den : Int) ^ k) (den_ne _) (den_pow_ne q k) (o.num.mono (by omega)) (o.den.mono (by omega)) ((bs_pow h.nn (by omega) k).mono (by omega)) ((bs_pow h.nd (by omega) k).mono (by omega)) S
      have e1 : Rat.divInt (p.2.num * q.num ^ k) ((p.2.den : Int) * (q.den : Int) ^ k) = p.2 * pw q p.1.toNat := by
        rw [← Rat.divInt_mul_divInt, Rat.num_divInt_den, pw_div, hk]
        rfl
      rw [e1] at mr
      have ad := FB.added (h.tk i) (h.tm p hm) S
      refine ⟨[some (tms a), some (fr q), some (fr (ev (a.take i) q)), some (.int p.1), some (.int p.2.num), some (.int p.2.den)], rfl, [some (tms a), some (fr q), some (fr (ev (a.take (i + 1)) q)), some (.int p.1), some (.int p.2.num), some (.int p.2.den)], S, .inl ?_, rfl, _, _, _, rfl⟩
      rw [ev_take _ _ _ hp]
      simp only [sSeq, sSet, sPar, sRet, sIf, sExpr, sNext, ofE, evCall, evL, evCons, evNil, ev1, ev2, evC, evVar, evIf, evTB, evT, evNot, tand, tor, tnot, Res.bind, Res.ofOpt, asB, List.getElem?_cons_zero, List.getElem?_cons_succ, List.set_cons_zero, List.set_cons_succ, Option.map_some, mkTup, List.length_cons, List.length_nil, two_le, Nat.zero_add, Nat.reduceAdd, if_true, hk, pk]
      rw [hk] at ad mr
      simp only [mr, ad])
  obtain ⟨rfl, e3, e4, e5, rfl⟩ := hh
  rw [List.length_map, List.take_of_length_le (Nat.le_refl _)] at r
  unfold g_value_at b_value_at runS startD
  simp only [List.map_cons, List.map_nil, List.length_cons, List.length_nil, Nat.zero_add, Nat.reduceAdd, Nat.reduceSub, List.replicate_succ, List.replicate_zero, List.cons_append, List.nil_append]
  rw [seq_eq, show sSet 2 (evL mkTup (evCons (evC (.int 0)) (evCons (evC (.int 1)) evNil))) [some (tms a), some (fr q), none, none, none, none] S = .fl (.nx [some (tms a), some (fr q), some (fr 0), none, none, none]) S from rfl]
  simp only
  rw [seq_eq, r]
  simp only [sSeq, sSet, sPar, sRet, sIf, sExpr, sNext, ofE, evCall, evL, evCons, evNil, ev1, ev2, evC, evVar, evIf, evTB, evT, evNot, tand, tor, tnot, Res.bind, Res.ofOpt, asB, List.getElem?_cons_zero, List.getElem?_cons_succ, List.set_cons_zero, List.set_cons_succ, Option.map_some]
theorem law_at {a : W} {q : Rat} (h : At a q) (S : Store) : g__law_at [tms a, fr q] S = .ok (fr (ev a q)) S := by
  have inner : ∀ (x : D) (t b : Int) (k : Nat) (e2 e3 e6 : Option D), Bs 900 t → Bs 900 b → k < 70 → ∃ e6', sFor (evRg1 (evCons (evVar 3) evNil)) (tgN 6) (sPar 4 5 (evCons (ev2 mulD (evVar 4) (ev2 subscD (evVar 1) (evC (.int 0)))) (evCons (ev2 mulD (evVar 5) (ev2 subscD (evVar 1) (evC (.int 1)))) evNil))) [some x, some (fr q), e2, some (.int k), some (.int t), some (.int b), e6] S
      = .fl (.nx [some x, some (fr q), e2, some (.int k), some (.int (t * q.num ^ k)), some (.int (b * (q.den : Int) ^ k)), e6']) S := fun x t b k e2 e3 e6 ht hb hk => by
    obtain ⟨e, s, r, hh⟩ := sFor_inv (src := evRg1 (evCons (evVar 3) evNil)) (tg := tgN 6) (body := sPar 4 5 (evCons (ev2 mulD (evVar 4) (ev2 subscD (evVar 1) (evC (.int 0)))) (evCons (ev2 mulD (evVar 5) (ev2 subscD (evVar 1) (evC (.int 1)))) evNil)))
      (env := [some x, some (fr q), e2, some (.int k), some (.int t), some (.int b), e6]) (st := S) (st1 := S) (g := srcS (rangeL 0 k)) (rangeL 0 k)
      (fun i env st => i ≤ k ∧ S = st ∧ ∃ e6, env = [some x, some (fr q), e2, some (.int k), some (.int (t * q.num ^ i)), some (.int (b * (q.den : Int) ^ i)), e6]) (by
        rw [len_range]
        have := szl
        omega) (rg_range k (by omega) rfl) ⟨by omega, rfl, e6, by simp⟩ (fun _ _ _ _ => rfl) (fun i d env st hd' hh => by
        obtain ⟨hi, rfl, e6, rfl⟩ := hh
        have hi' : i < k := by
          have := (List.getElem?_eq_some_iff.mp hd').1
          rw [len_range] at this
          exact this
        have m1 := mulD_ii (a := t * q.num ^ i) (b := q.num) ((ht.mul (bs_pow h.nn (by omega) i)).mono (by omega)) (h.nn.mono (by omega)) S
        have m2 := mulD_ii (a := b * (q.den : Int) ^ i) (b := q.den) ((hb.mul (bs_pow h.nd (by omega) i)).mono (by omega)) (h.nd.mono (by omega)) S
        refine ⟨_, rfl, [some x, some (fr q), e2, some (.int k), some (.int (t * q.num ^ (i + 1))), some (.int (b * (q.den : Int) ^ (i + 1))), some d], S, .inl ?_, by omega, rfl, some d, rfl⟩
        simp only [sSeq, sSet, sPar, sRet, sIf, sExpr, sNext, ofE, evCall, evL, evCons, evNil, ev1, ev2, evC, evVar, evIf, evTB, evT, evNot, tand, tor, tnot, Res.bind, Res.ofOpt, asB, List.getElem?_cons_zero, List.getElem?_cons_succ, List.set_cons_zero, List.set_cons_succ, Option.map_some, ix0, ix1, m1, m2, Int.pow_succ, Int.mul_assoc])
    obtain ⟨_, rfl, e6', rfl⟩ := hh
    rw [len_range] at r
    exact ⟨e6', r⟩
  obtain ⟨e, s, r, hh⟩ := sFor_inv (src := evSrc (evVar 0)) (tg := tgT 3 (tgsCons (tgN 3) (tgsCons (tgN 4) (tgsCons (tgN 5) tgsNil)))) (body := sSeq (sFor (evRg1 (evCons (evVar 3) evNil)) (tgN 6) (sPar 4 5 (evCons (ev2 mulD (evVar 4) (ev2 subscD (evVar 1) (evC (.int 0)))) (evCons (ev2 mulD (evVar 5) (ev2 subscD (evVar 1) (evC (.int 1)))) evNil)))) (sSet 2 (evCall g__law_added (evCons (evVar 2) (evCons (evCall g__law_fraction (evCons (evVar 4) (evCons (evVar 5) evNil))) evNil)))))
    (env := [some (tms a), some (fr q), some (fr 0), none, none, none, none]) (st := S) (st1 := S) (g := srcS (a.map tm)) (a.map tm)
    (fun i env st => S = st ∧ ∃ e3 e4 e5 e6, env = [some (tms a), some (fr q), some (fr (ev (a.take i) q)), e3, e4, e5, e6]) (by
      have := szl
      have := h.len
      simp; omega) rfl ⟨rfl, none, none, none, none, rfl⟩ (fun _ _ _ _ => rfl) (fun i d env st hd hh => by
      obtain ⟨rfl, e3, e4, e5, e6, rfl⟩ := hh
      rw [List.getElem?_map] at hd
      obtain ⟨p, hp, rfl⟩ := Option.map_eq_some_iff.mp hd
      have hm := List.mem_of_getElem? hp
      obtain ⟨k0, k1⟩ := h.k0 p hm
      obtain ⟨k, hk⟩ : ∃ k : Nat, p.1 = (k : Int) := ⟨p.1.toNat, by omega⟩
      have o := h.ok p hm
      obtain ⟨e6', it⟩ := inner (tms a) p.2.num p.2.den k (some (fr (ev (a.take i) q))) none e6 o.num o.den (by omega)
      have fo := FB.law_fraction (t := p.2.num * q.num ^ k) (b := (p.2.den : Int) * (q.den : Int) ^ k) (Int.mul_pos (by have := p.2.den_pos; omega) (den_pow_pos q k)) ((o.den.mul (bs_pow h.nd (by omega) k)).mono (by omega)) S
      have e1 : Rat.divInt (p.2.num * q.num ^ k) ((p.2.den : Int) * (q.den : Int) ^ k) = p.2 * pw q p.1.toNat := by
        rw [← Rat.divInt_mul_divInt, Rat.num_divInt_den, pw_div, hk]
        rfl
      rw [e1] at fo
      have ad := FB.law_added (h.tk i) (h.tm p hm) S
      refine ⟨[some (tms a), some (fr q), some (fr (ev (a.take i) q)), some (.int p.1), some (.int p.2.num), some (.int p.2.den), e6], rfl, [some (tms a), some (fr q), some (fr (ev (a.take (i + 1)) q)), some (.int p.1), some (.int (p.2.num * q.num ^ k)), some (.int ((p.2.den : Int) * (q.den : Int) ^ k)), e6'], S, .inl ?_, rfl, _, _, _, _, rfl⟩
      rw [ev_take _ _ _ hp, hk]
      rw [hk] at ad fo
      rw [seq_eq, it]
      simp only [sSeq, sSet, sPar, sRet, sIf, sExpr, sNext, ofE, evCall, evL, evCons, evNil, ev1, ev2, evC, evVar, evIf, evTB, evT, evNot, tand, tor, tnot, Res.bind, Res.ofOpt, asB, List.getElem?_cons_zero, List.getElem?_cons_succ, List.set_cons_zero, List.set_cons_succ, Option.map_some, fo, ad])
  obtain ⟨rfl, e3, e4, e5, e6, rfl⟩ := hh
  rw [List.length_map, List.take_of_length_le (Nat.le_refl _)] at r
  unfold g__law_at b__law_at runS startD
  simp only [List.map_cons, List.map_nil, List.length_cons, List.length_nil, Nat.zero_add, Nat.reduceAdd, Nat.reduceSub, List.replicate_succ, List.replicate_zero, List.cons_append, List.nil_append]
  rw [seq_eq, show sSet 2 (evL mkTup (evCons (evC (.int 0)) (evCons (evC (.int 1)) evNil))) [some (tms a), some (fr q), none, none, none, none, none] S = .fl (.nx [some (tms a), some (fr q), some (fr 0), none, none, none, none]) S from rfl]
  simp only
  rw [seq_eq, r]
  simp only [sSeq, sSet, sPar, sRet, sIf, sExpr, sNext, ofE, evCall, evL, evCons, evNil, ev1, ev2, evC, evVar, evIf, evTB, evT, evNot, tand, tor, tnot, Res.bind, Res.ofOpt, asB, List.getElem?_cons_zero, List.getElem?_cons_succ, List.set_cons_zero, List.set_cons_succ, Option.map_some]
end FI
set_option Elab.async false
set_option linter.all false
set_option maxRecDepth 100000
set_option maxHeartbeats 1000000
/-! FJ: drawn terms and worths. -/
namespace FJ
open PySem PySem.Spec PyProof.Rows L2 PP MA EV FB FC FD FE FF FG FH FI G07
variable [Tbl]
/-- drawn terms: small orders, tops to a million, five bottoms -/
structure Rw (o : Int) (r : Raw) : Prop where
  o0 : 0 ≤ r.1
  o1 : r.1 < o
  t : r.2.1.natAbs ≤ 1000000
  b : r.2.2 = 1 ∨ r.2.2 = 2 ∨ r.2.2 = 3 ∨ r.2.2 = 12 ∨ r.2.2 = 35
theorem Rw.mono {o p : Int} {r : Raw} (h : Rw o r) (k : o ≤ p) : Rw p r := ⟨h.o0, by have := h.o1; omega, h.t, h.b⟩
theorem Rw.pos {o : Int} {r : Raw} (h : Rw o r) : 0 < r.2.2 := by rcases h.b with z | z | z | z | z <;> omega
theorem Rw.lat {o : Int} {r : Raw} (h : Rw o r) : Lat 420 420000000 (rq r).2 := by
  have p := h.pos
  have l := lat_div (t := r.2.1) (b := r.2.2) p
  obtain ⟨c, hc, h0, h1⟩ : ∃ c : Nat, r.2.2.toNat * c = 420 ∧ 0 < c ∧ c ≤ 420 := by
    rcases h.b with z | z | z | z | z <;> rw [z]
    · exact ⟨420, rfl, by omega, by omega⟩
    · exact ⟨210, rfl, by omega, by omega⟩
    · exact ⟨140, rfl, by omega, by omega⟩
    · exact ⟨35, rfl, by omega, by omega⟩
    · exact ⟨12, rfl, by omega, by omega⟩
  have u := l.up c
  rw [hc] at u
  refine u.le ?_
  have t := h.t
  calc r.2.1.natAbs * c ≤ 1000000 * 420 := Nat.mul_le_mul t h1
    _ = 420000000 := rfl
theorem rw_sz {o : Int} {rs : List Raw} (h : ∀ r ∈ rs, Rw o r) {m : Nat} (hl : rs.length ≤ m) : Sz m 420 420000000 (rs.map rq) := by
  refine ⟨by simpa using hl, fun p hp => ?_, by omega⟩
  obtain ⟨r, hr, rfl⟩ := List.mem_map.mp hp
  exact (h r hr).lat
theorem small {x i j : Nat} (h : x < 2 ^ i) (k : i ≤ j) : x < 2 ^ j := Nat.lt_of_lt_of_le h (Nat.pow_le_pow_right (by omega) k)
theorem b420 : 420000000 < 2 ^ 29 := by decide
/-- worths of such terms -/
structure Wo (m : Nat) (o : Int) (a : W) : Prop where
  g : Good a
  k0 : ∀ p ∈ a, 0 ≤ p.1
  k1 : ∀ p ∈ a, p.1 < o
  sz : Sz m 420 (m * 420000000) a
theorem wo_of {o : Int} {rs : List Raw} {m : Nat} (h : ∀ r ∈ rs, Rw o r) (hl : rs.length ≤ m) : Wo m o (tot (rs.map rq)) := by
  have key : ∀ p ∈ tot (rs.map rq), ∃ r ∈ rs, r.1 = p.1 := fun p hp => by
    obtain ⟨x, hx, e⟩ := List.mem_map.mp (mem_tot hp).2
    obtain ⟨r, hr, rfl⟩ := List.mem_map.mp hx
    exact ⟨r, hr, e⟩
  refine ⟨good_tot _, fun p hp => ?_, fun p hp => ?_, (rw_sz h hl).tot⟩
  · obtain ⟨r, hr, e⟩ := key p hp
    rw [← e]; exact (h r hr).o0
  · obtain ⟨r, hr, e⟩ := key p hp
    rw [← e]; exact (h r hr).o1
theorem Wo.len {m : Nat} {o : Int} {a : W} (h : Wo m o a) : a.length ≤ m := h.sz.len
/-- the law's worth of drawn terms -/
theorem from_terms {o : Int} {rs : List Raw} {v : D} {S : Store} (hw : Walks v S (rs.map rt)) (h : ∀ r ∈ rs, Rw o r) (hl : rs.length ≤ 100) : ∃ ex, g__law_worth_from [v] S = .ok (tms (tot (rs.map rq))) (S ++ ex) := by
  have s := rw_sz h hl
  have hs := szl
  refine worth_from hw (by omega) (fun r hr => ⟨(h r hr).pos, ?_, ?_⟩) (fun i j => ?_)
  · have p := (h r hr).b
    have : Bs 6 r.2.2 := by
      unfold Bs
      rcases p with z | z | z | z | z <;> rw [z] <;> decide
    exact this.mono (by omega)
  · exact Lat.ok (h r hr).lat (by omega) (small (show 420 < 2 ^ 9 by decide) (by omega)) (small b420 (by omega))
  · exact Lat.ok ((s.take i).cf j) (by omega) (small (show 420 < 2 ^ 9 by decide) (by omega)) (small (show 100 * 420000000 < 2 ^ 36 by decide) (by omega))
/-! ### draws -/
theorem pow6 (st : Store) : powD (.int 10) (.int 6) st = some (.int 1000000, st) := rfl
theorem mkLst_new {ds : List D} {S : Store} (h : ds.length ≤ 1000) : mkLst ds S = some (.ref S.length, S ++ [(false, .lst ds)]) := by
  unfold mkLst
  rw [if_pos (by have := szl; omega)]
  rfl
theorem mkTup_ok {ds : List D} {S : Store} (h : ds.length ≤ 1000) : mkTup ds S = some (.tup false ds, S) := by
  unfold mkTup
  rw [if_pos (by have := szl; omega)]
/-- one of a new list -/
theorem pick_new {n : Nat} {S : Store} {lp : Nat} {ds : List D} (hp : Pen (n + 1) S lp) (h0 : ds ≠ []) (h1 : ds.length ≤ 1000) :
    ∃ d S', g__law_pick [.ref lp, .ref S.length] (S ++ [(false, .lst ds)]) = .ok d S' ∧ d ∈ ds ∧ Pen n S' lp ∧ Kp lp S S' := by
  have hl := hp.lt
  obtain ⟨d, S', q, m, p, k⟩ := law_pick (hp.app [(false, .lst ds)]) (at_end S [] _) (by omega) h0 (by omega)
  exact ⟨d, S', q, m, p, (Kp.app lp S _).trans k⟩
theorem law_number {n : Nat} {S : Store} {lp : Nat} (hp : Pen (n + 2) S lp) : ∃ x S', g__law_number [.ref lp] S = .ok (.int x) S' ∧ 1 ≤ x ∧ x ≤ 1000000 ∧ Pen n S' lp ∧ Kp lp S S' := by
  obtain ⟨d, S1, q1, m1, p1, k1⟩ := pick_new (n := n + 1) (ds := [.int 3, .int 9, .int 9, .int 40, .int 1000000]) hp (by simp) (by simp)
  obtain ⟨m, rfl, m0, m1'⟩ : ∃ m : Int, d = .int m ∧ 0 < m ∧ m ≤ 1000000 := by
    simp only [List.mem_cons, List.not_mem_nil, or_false] at m1
    rcases m1 with rfl | rfl | rfl | rfl | rfl <;> exact ⟨_, rfl, by omega, by omega⟩
  obtain ⟨x, S2, q2, x0, x1, p2, k2⟩ := draw (n := n) (many := m) p1 m0 (by omega)
  refine ⟨1 + x, S2, ?_, by omega, by omega, p2, k1.trans k2⟩
  have ml := mkLst_new (ds := [.int 3, .int 9, .int 9, .int 40, .int 1000000]) (S := S) (by simp)
  refine run_rt (n := 1) ?_
  show b__law_number [some (.ref lp)] S = _
  unfold b__law_number
  simp only [sSeq, sSet, sPar, sRet, sIf, sExpr, sNext, ofE, evCall, evL, evCons, evNil, ev1, ev2, evC, evVar, evIf, evTB, evT, evNot, tand, tor, tnot, Res.bind, Res.ofOpt, asB, List.getElem?_cons_zero, List.getElem?_cons_succ, List.set_cons_zero, List.set_cons_succ, Option.map_some, pow6, ml, q1, q2, addD_ii]
theorem isLst_at {S : Store} {l : Nat} {xs : List D} (e : S[l]? = some (false, .lst xs)) : isLst (.ref l) S = true := by
  unfold isLst lstD
  simp only [e]
  rfl
theorem append_at {S : Store} {l : Nat} {xs : List D} {v : D} (e : S[l]? = some (false, .lst xs)) (h : xs.length < 1000) : appendM (.ref l) [v] S = some (.non, S.set l (false, .lst (xs ++ [v]))) := by
  unfold appendM
  simp only [e]
  rw [if_pos (by have := szl; omega)]
theorem addD_l {S : Store} {l k : Nat} {xs ys : List D} (e1 : S[l]? = some (false, .lst xs)) (e2 : S[k]? = some (false, .lst ys)) (h : xs.length + ys.length ≤ 10000000) : addD (.ref l) (.ref k) S = some (.ref S.length, S ++ [(false, .lst (xs ++ ys))]) := by
  unfold addD
  simp only [e1, e2]
  rw [if_pos (by have := szl; omega)]
/-- a growing list beside the pen -/
structure Gr (n : Nat) (S0 S : Store) (lp r : Nat) (xs : List D) : Prop where
  pen : Pen n S lp
  at_ : S[r]? = some (false, .lst xs)
  new : S0.length ≤ r
  len : S0.length ≤ S.length
  old : ∀ l, l < S0.length → l ≠ lp → S[l]? = S0[l]?
  lp1 : lp + 1 < S0.length
theorem Gr.kp {n : Nat} {S0 S : Store} {lp r : Nat} {xs : List D} (g : Gr n S0 S lp r xs) : Kp lp S0 S := ⟨g.len, g.old⟩
theorem Gr.step {n m : Nat} {S0 S S' : Store} {lp r : Nat} {xs : List D} (g : Gr n S0 S lp r xs) (p : Pen m S' lp) (k : Kp lp S S') : Gr m S0 S' lp r xs := by
  have h1 := g.lp1
  have h2 := g.new
  exact ⟨p, k.get g.at_ (by omega), g.new, Nat.le_trans g.len k.len, fun l hl hn => by rw [k.at_ l (Nat.lt_of_lt_of_le hl g.len) hn]; exact g.old l hl hn, g.lp1⟩
theorem Gr.set {n : Nat} {S0 S : Store} {lp r : Nat} {xs : List D} (g : Gr n S0 S lp r xs) (ys : List D) : Gr n S0 (S.set r (false, .lst ys)) lp r ys := by
  have h1 := g.lp1
  have h2 := g.new
  have hl := lt_of_at g.at_
  exact ⟨pen_upd g.pen (by omega) (by omega), by rw [List.getElem?_set, if_pos rfl, if_pos hl], g.new, by rw [List.length_set]; exact g.len, fun l hl hn => by rw [st_upd (by omega)]; exact g.old l hl hn, g.lp1⟩
end FJ
set_option Elab.async false
set_option linter.all false
set_option maxRecDepth 100000
set_option maxHeartbeats 1000000
/-! FJ2: drawn terms and worths. -/
namespace FJ2
open PySem PySem.Spec PyProof.Rows L2 PP MA EV FB FC FD FE FF FG FH FI FJ G07
variable [Tbl]
end FJ2
set_option Elab.async false
set_option linter.all false
set_option maxRecDepth 100000
set_option maxHeartbeats 1000000
/-! FK: sums, differences, products of worths, by the package and by the law; loops over what stands still. -/
namespace FK
open PySem PySem.Spec PyProof.Rows L2 PP MA EV FB FC FD FE FF FG FH FI FJ FJ2 G07
variable [Tbl]
/-! ### for, things only laid -/
theorem for_bd {g : Src} {tg : Tgt} {body : Ss} {S : Store} (ds : List D) (E : Nat → EnvD) (hg : ∀ s i, Ext S s → g i s = some ds[i]?) (hs : ∀ i d, ds[i]? = some d → ∃ e1, tg d (E i) = some e1 ∧ Bd body e1 S (.nx (E (i + 1)))) :
    ∀ (n i : Nat), i + n = ds.length → ∀ m, n < m → ∀ s, Ext S s → ∃ ex, forE g tg body m i (E i) s = .fl (.nx (E ds.length)) (s ++ ex)
  | 0, i, hi, m, hm, s, x => by
    obtain ⟨m, rfl⟩ : ∃ j, m = j + 1 := ⟨m - 1, by omega⟩
    unfold forE
    rw [hg s i x, List.getElem?_eq_none (by omega)]
    have : i = ds.length := by omega
    subst this
    exact ⟨[], by simp⟩
  | n + 1, i, hi, m, hm, s, x => by
    obtain ⟨m, rfl⟩ : ∃ j, m = j + 1 := ⟨m - 1, by omega⟩
    have hl : i < ds.length := by omega
    obtain ⟨e1, t1, b1⟩ := hs i ds[i] (List.getElem?_eq_getElem hl)
    obtain ⟨x1, q1⟩ := b1 s x
    obtain ⟨x2, q2⟩ := for_bd ds E hg hs n (i + 1) (by omega) m (by omega) _ (x.app x1)
    refine ⟨x1 ++ x2, ?_⟩
    unfold forE
    rw [hg s i x, List.getElem?_eq_getElem hl]
    simp only [t1, q1]
    rw [q2, List.append_assoc]
theorem for_bdE {g : Src} {tg : Tgt} {body : Ss} {S : Store} {c : Str} {fs : List (Str × D)} (ds : List D) (E : Nat → EnvD) (k : Nat) (hg : ∀ s i, Ext S s → g i s = some ds[i]?) (hs : ∀ i d, i < k → ds[i]? = some d → ∃ e1, tg d (E i) = some e1 ∧ Bd body e1 S (.nx (E (i + 1))))
    (hk : ∃ d e1, ds[k]? = some d ∧ tg d (E k) = some e1 ∧ Bd body e1 S (.exc c fs)) :
    ∀ (n i : Nat), i + n = k → ∀ m, n < m → ∀ s, Ext S s → ∃ ex e, forE g tg body m i (E i) s = .er c fs e (s ++ ex)
  | 0, i, hi, m, hm, s, x => by
    obtain ⟨m, rfl⟩ : ∃ j, m = j + 1 := ⟨m - 1, by omega⟩
    obtain ⟨d, e1, h1, h2, h3⟩ := hk
    have : i = k := by omega
    subst this
    obtain ⟨ex, e, q⟩ := h3 s x
    refine ⟨ex, e, ?_⟩
    unfold forE
    rw [hg s i x, h1]
    simp only [h2, q]
  | n + 1, i, hi, m, hm, s, x => by
    obtain ⟨m, rfl⟩ : ∃ j, m = j + 1 := ⟨m - 1, by omega⟩
    have hkl : k < ds.length := by
      obtain ⟨d, e1, h1, _⟩ := hk
      exact (List.getElem?_eq_some_iff.mp h1).1
    have hl : i < ds.length := by omega
    obtain ⟨e1, t1, b1⟩ := hs i ds[i] (by omega) (List.getElem?_eq_getElem hl)
    obtain ⟨x1, q1⟩ := b1 s x
    obtain ⟨x2, e, q2⟩ := for_bdE ds E k hg hs hk n (i + 1) (by omega) m (by omega) _ (x.app x1)
    refine ⟨x1 ++ x2, e, ?_⟩
    unfold forE
    rw [hg s i x, List.getElem?_eq_getElem hl]
    simp only [t1, q1]
    rw [q2, List.append_assoc]
/-- what is walked stands still -/
def Sd (src : Ev Src) (env : EnvD) (S : Store) (ds : List D) : Prop := ∀ s, Ext S s → ∃ g ex, src env s = .ok g (s ++ ex) ∧ ∀ s' i, Ext (s ++ ex) s' → g i s' = some ds[i]?
theorem bd_for {src : Ev Src} {tg : Tgt} {body : Ss} {S : Store} {ds : List D} (E : Nat → EnvD) (hz : ds.length < sizeLine) (h1 : Sd src (E 0) S ds) (hs : ∀ i d, ds[i]? = some d → ∃ e1, tg d (E i) = some e1 ∧ Bd body e1 S (.nx (E (i + 1)))) :
    Bd (sFor src tg body) (E 0) S (.nx (E ds.length)) := fun s x => by
  obtain ⟨g, ex, q, hg⟩ := h1 s x
  have y : Ext S (s ++ ex) := x.app ex
  obtain ⟨x2, q2⟩ := for_bd (S := s ++ ex) ds E hg (fun i d hd => by
    obtain ⟨e1, t1, b1⟩ := hs i d hd
    exact ⟨e1, t1, b1.mono y⟩) ds.length 0 (by omega) fuelF (by
      have : sizeLine ≤ 16777216 := by decide
      unfold fuelF; omega) _ (Ext.refl _)
  refine ⟨ex ++ x2, ?_⟩
  unfold sFor ofE
  rw [q]
  simp only
  rw [q2, List.append_assoc]
theorem bd_forE {src : Ev Src} {tg : Tgt} {body : Ss} {S : Store} {ds : List D} {c : Str} {fs : List (Str × D)} (E : Nat → EnvD) (k : Nat) (hz : ds.length < sizeLine) (h1 : Sd src (E 0) S ds) (hs : ∀ i d, i < k → ds[i]? = some d → ∃ e1, tg d (E i) = some e1 ∧ Bd body e1 S (.nx (E (i + 1))))
    (hk : ∃ d e1, ds[k]? = some d ∧ tg d (E k) = some e1 ∧ Bd body e1 S (.exc c fs)) : Bd (sFor src tg body) (E 0) S (.exc c fs) := fun s x => by
  obtain ⟨g, ex, q, hg⟩ := h1 s x
  have y : Ext S (s ++ ex) := x.app ex
  obtain ⟨d, e1, h2, h3, h4⟩ := hk
  have hkl := (List.getElem?_eq_some_iff.mp h2).1
  obtain ⟨x2, e, q2⟩ := for_bdE (S := s ++ ex) ds E k hg (fun i d hi hd => by
    obtain ⟨e1, t1, b1⟩ := hs i d hi hd
    exact ⟨e1, t1, b1.mono y⟩) ⟨d, e1, h2, h3, h4.mono y⟩ k 0 (by omega) fuelF (by
      have : sizeLine ≤ 16777216 := by decide
      unfold fuelF; omega) _ (Ext.refl _)
  refine ⟨ex ++ x2, e, ?_⟩
  unfold sFor ofE
  rw [q]
  simp only
  rw [q2, List.append_assoc]
theorem sd_tup {f : Ev D} {env : EnvD} {S : Store} {b : Bool} {ds : List D} (h : Pr f env S (.tup b ds)) : Sd (evSrc f) env S ds := fun s x => src_tup h s x
theorem sd_lst {f : Ev D} {env : EnvD} {S : Store} {l : Nat} {lk : Bool} {ds : List D} (h : Pr f env S (.ref l)) (e : S[l]? = some (lk, .lst ds)) : Sd (evSrc f) env S ds := fun s x => src_lst h e s x
/-! ### worths of other worths -/
abbrev neg (a : W) : W := a.map fun p => (p.1, -p.2)
theorem sz_neg {n L B : Nat} {a : W} (h : Sz n L B a) : Sz n L B (neg a) := ⟨by simpa using h.len, fun p hp => by
  obtain ⟨x, hx, rfl⟩ := List.mem_map.mp hp
  exact (h.lat x hx).neg, h.pos⟩
theorem sz_mono {n m L B C : Nat} {a : W} (h : Sz n L B a) (k : n ≤ m) (l : B ≤ C) : Sz m L C a := ⟨Nat.le_trans h.len k, fun p hp => (h.lat p hp).le l, h.pos⟩
theorem from_w {n L B : Nat} {a : W} {v : D} {S : Store} (hw : Walks v S (a.map tm)) (h : Sz n L B a) (hL : L < 2 ^ 900) (hB : B < 2 ^ 900) (hn : n * B < 2 ^ 900) (hn2 : n < 1000000) : ∃ ex, g__law_worth_from [v] S = .ok (tms (tot a)) (S ++ ex) := by
  have hs := szl
  have hlen := h.len
  obtain ⟨ex, q⟩ := worth_from (rs := rws a) (v := v) (S := S) (by rw [← tm_rt]; exact hw) (by rw [List.length_map]; omega) (fun r hr => by
    obtain ⟨p, hp, rfl⟩ := List.mem_map.mp hr
    have o := h.ok hL hB hp
    refine ⟨by have := p.2.den_pos; show 0 < (p.2.den : Int); omega, o.den.mono (by omega), ?_⟩
    have : (rq (p.1, p.2.num, (p.2.den : Int))).2 = p.2 := Rat.num_divInt_den _
    rw [this]; exact o) (fun i j => by
    rw [tm_rq]
    exact Lat.ok ((h.take i).cf j) h.pos hL hn)
  rw [tm_rq] at q
  exact ⟨ex, q⟩
/-! ### the package's own -/
theorem pg_ex {g : Fn} {ds : List D} {d : D} (h : ∀ S, ∃ ex, g ds S = .ok d (S ++ ex)) (S : Store) : Pg g ds S d := fun s _ => h s
end FK
set_option Elab.async false
set_option linter.all false
set_option maxRecDepth 100000
set_option maxHeartbeats 1000000
/-! N1: what is shown; values compared with themselves; tried calls. -/
namespace N1
open PySem PySem.Spec PyProof.Rows L2 PP MA EV FB FC FD FE FF FG FH FI FJ FJ2 FK G07
variable [Tbl]
/-! ### compared with itself -/
mutual
def ndP : PyData → Bool
  | .dict _ => false
  | .list xs => ndL xs
  | .tuple xs => ndL xs
  | _ => true
def ndL : List PyData → Bool
  | [] => true
  | x :: xs => ndP x && ndL xs
end
mutual
theorem eqv_self : ∀ p : PyData, ndP p = true → PyData.eqv p p = true
  | .none, _ => by simp [PyData.eqv]
  | .bool b, _ => by simp [PyData.eqv]
  | .int i, _ => by simp [PyData.eqv]
  | .str s, _ => by simp [PyData.eqv]
  | .list xs, h => by rw [PyData.eqv]; exact eqvL_self xs (by simpa [ndP] using h)
  | .tuple xs, h => by rw [PyData.eqv]; exact eqvL_self xs (by simpa [ndP] using h)
  | .dict _, h => by simp [ndP] at h
theorem eqvL_self : ∀ xs : List PyData, ndL xs = true → PyData.eqvAll xs xs = true
  | [], _ => by simp [PyData.eqvAll]
  | x :: xs, h => by
    rw [ndL, Bool.and_eq_true] at h
    rw [PyData.eqvAll, eqv_self x h.1, eqvL_self xs h.2]
    rfl
end
theorem optAll_nd {f : D → Option PyData} (h : ∀ d p, f d = some p → ndP p = true) : ∀ {ds : List D} {ps : List PyData}, optAll (ds.map f) = some ps → ndL ps = true
  | [], ps, e => by cases e; rfl
  | d :: ds, ps, e => by
    obtain ⟨a, l', e1, e2, rfl⟩ := optAll_cons e
    rw [ndL, h d a e1, optAll_nd h e2]
    rfl
theorem toP_nd (S : Store) : ∀ (k : Nat) (d : D) (p : PyData), toP S k d = some p → ndP p = true
  | 0, _, _, e => by cases e
  | k + 1, d, p, e => by
    cases d with
    | tup b ds =>
      have e' : (optAll (ds.map (toP S k))).map PyData.tuple = some p := e
      cases q : optAll (ds.map (toP S k)) with
      | none => rw [q] at e'; cases e'
      | some ps =>
        rw [q] at e'
        cases e'
        rw [ndP]
        exact optAll_nd (toP_nd S k) q
    | ref l =>
      unfold toP at e
      simp only at e
      split at e
      · cases q : optAll (_ : List (Option PyData)) with
        | none => rw [q] at e; cases e
        | some ps =>
          rw [q] at e
          cases e
          rw [ndP]
          exact optAll_nd (toP_nd S k) q
      · cases e
    | non => cases e; rfl
    | bl b => cases e; rfl
    | int i => cases e; rfl
    | str s =>
      unfold toP at e
      simp only at e
      split at e
      · cases e; rfl
      · cases e
    | fn x => cases e
    | ty x => cases e
theorem rd_str {s : Str} (h : TOk s) (S : Store) : rdP S (.str s) = some (.str s) := by
  show (if PyData.strOk s = true then some (PyData.str s) else none) = _
  rw [if_pos h.str]
theorem neX_same {S : Store} {d e : D} {p : PyData} (h : rdP S d = some p) (k : rdP S e = some p) (hn : empD S d e = none) : neX d e S = some (.bl false, S) := by
  unfold neX neD
  rw [hn]
  simp only [h, k]
  rw [eqv_self p (toP_nd S _ d p h)]
  rfl
theorem neX_str {s : Str} (h : TOk s) (S : Store) : neX (.str s) (.str s) S = some (.bl false, S) := neX_same (rd_str h S) (rd_str h S) rfl
theorem neX_tup {S : Store} {b c : Bool} {ds : List D} {p : PyData} (h : rdP S (.tup b ds) = some p) (k : rdP S (.tup c ds) = some p) : neX (.tup b ds) (.tup c ds) S = some (.bl false, S) := neX_same h k rfl
theorem rd_fr (S : Store) (q : Rat) : rdP S (fr q) = some (.tuple [.int q.num, .int (q.den : Int)]) := rfl
theorem neX_fr (S : Store) (q : Rat) : neX (fr q) (fr q) S = some (.bl false, S) := neX_same (rd_fr S q) (rd_fr S q) rfl
/-! ### shown -/
theorem repr_big {S : Store} {d : D} {p : PyData} (h : rdP S d = some p) (k : Sh p 10000000) : reprD [d] S = some (.str p.shown, S) := by
  unfold reprD
  simp only [h]
  rw [if_pos ⟨k.ok, by have := k.len; have := szl; omega⟩]
theorem shows_ws {S : Store} {a : W} {k : Nat} (h : ∀ r ∈ rws a, Rok r) (hl : a.length ≤ 100) : Shows S (tms a) (k + 3) 600000 := by
  have := shows_tup (S := S) (b := false) (ds := a.map tm) (k := k + 2) (B := 5772) (fun d hd => by
    rw [tm_rt] at hd
    obtain ⟨r, hr, rfl⟩ := List.mem_map.mp hd
    exact shows_rt (h r hr))
  exact this.mono (by rw [List.length_map]; omega)
/-- what is shown of a value, whatever is laid behind -/
theorem shows_at {S s : Store} {d : D} {N : Nat} (x : Ext S s) (h : Shows S d 30 N) (hN : N ≤ 10000000) : ∃ p, rdP S d = some p ∧ Sh p N ∧ reprD [d] s = some (.str p.shown, s) := by
  obtain ⟨p, e, sh⟩ := h
  exact ⟨p, e, sh, repr_big (toP_keep (Lk.ext x) _ _ _ e) (sh.mono hN)⟩
theorem pr_repr {f : Ev D} {env : EnvD} {S : Store} {d : D} {p : PyData} (h : Pr f env S d) (e : rdP S d = some p) (k : Sh p 10000000) : Pr (evL reprD (evCons f evNil)) env S (.str p.shown) :=
  pr_L (pr1 h) (fun s x => repr_big (toP_keep (Lk.ext x) _ _ _ e) k)
/-! ### sizes of numbers that are shown -/
theorem rok_of {n L B : Nat} {a : W} (h : Sz n L B a) (hL : L < 2 ^ 900) (hB : B < 2 ^ 900) (k0 : ∀ p ∈ a, 0 ≤ p.1) (k1 : ∀ p ∈ a, p.1 < 1000000) : ∀ r ∈ rws a, Rok r := fun r hr => by
  obtain ⟨p, hp, rfl⟩ := List.mem_map.mp hr
  have o := h.ok hL hB hp
  have h0 := k0 p hp
  have h1 := k1 p hp
  refine ⟨?_, o.num, o.den⟩
  have : Bs 20 p.1 := by
    unfold Bs
    have : p.1.natAbs < 1000000 := by omega
    omega
  exact this.mono (by omega)
/-! ### lists that grow -/
theorem st_add {env : EnvD} {S x0 : Store} {i l : Nat} {xs ys : List D} {L : Ev (List D)} (h2 : env[i]? = some (some (.ref l))) (e : S[l]? = some (false, .lst xs)) (hL : L env S = .ok ys (S ++ x0)) (hz : xs.length + ys.length ≤ 1000) :
    ∃ l' ex, sSet i (ev2 addD (evVar i) (evL mkLst L)) env S = .fl (.nx (env.set i (some (.ref l')))) (S ++ x0 ++ ex) ∧ (S ++ x0 ++ ex)[l']? = some (false, .lst (xs ++ ys)) ∧ S.length ≤ l' := by
  refine ⟨(S ++ x0 ++ [(false, Cell.lst ys)]).length, [(false, .lst ys)] ++ [(false, .lst (xs ++ ys))], ?_, ?_, ?_⟩
  · have ml := mkLst_new (ds := ys) (S := S ++ x0) (by omega)
    have ad := addD_l (S := S ++ x0 ++ [(false, .lst ys)]) (l := l) (k := (S ++ x0).length) (app_at (app_at e x0) _) (at_end (S ++ x0) [] _) (by omega)
    unfold sSet ofE ev2 evL evVar
    simp only [h2, Res.bind, hL, ml, Res.ofOpt, ad]
    rw [List.append_assoc (S ++ x0)]
  · rw [← List.append_assoc]
    exact at_end _ [] _
  · simp only [List.length_append]
    omega
end N1
set_option Elab.async false
set_option linter.all false
set_option maxRecDepth 100000
set_option maxHeartbeats 1000000
/-! N2: values that are no worths. -/
namespace N2
open PySem PySem.Spec PyProof.Rows L2 PP MA EV FB FC FD FE FF FG FH FI FJ FJ2 FK N1 G07
variable [Tbl]
theorem inc_cons2 (y z : Raw) (w : List Raw) : inc (y :: z :: w) = (decide (y.1 < z.1) && inc (z :: w)) := rfl
theorem inc_twice (x : Raw) : ∀ xs : List Raw, inc (xs ++ [x, x]) = false
  | [] => by
    show inc [x, x] = false
    rw [inc_cons2]
    simp
  | [y] => by
    show inc (y :: x :: [x]) = false
    rw [inc_cons2]
    have : inc (x :: [x]) = false := inc_twice x []
    rw [this, Bool.and_false]
  | y :: z :: xs => by
    show inc (y :: z :: (xs ++ [x, x])) = false
    rw [inc_cons2]
    have : inc (z :: (xs ++ [x, x])) = false := inc_twice x (z :: xs)
    rw [this, Bool.and_false]
theorem last_drop : ∀ (r : W) (p : Int × Rat), ∃ i q, (p :: r) = i ++ [q] ∧ (p :: r).drop r.length = [q]
  | [], p => ⟨[], p, rfl, rfl⟩
  | s :: r, p => by
    obtain ⟨i, q, e1, e2⟩ := last_drop r s
    exact ⟨p :: i, q, by rw [e1]; rfl, e2⟩
theorem cut_last (p : Int × Rat) (r : W) (S : Store) : sliceD (tms (p :: r)) (some (-1)) none S = some (.tup false (((p :: r).map tm).drop r.length), S) := by
  show some (D.tup false (cutL ((p :: r).map tm) (some (-1)) none), S) = _
  have e1 : HT.sIx ((p :: r).map tm).length 0 (some (-1)) = r.length := by
    unfold HT.sIx
    simp only
    rw [if_pos (by omega), List.length_map, List.length_cons]
    omega
  have e2 : HT.sIx ((p :: r).map tm).length ((p :: r).map tm).length none = ((p :: r).map tm).length := rfl
  unfold cutL
  rw [e1, e2, List.take_of_length_le (by simp)]
abbrev t3 (x y z : Int) : D := .tup false [.int x, .int y, .int z]
def odd1 (a : W) (la : Nat) : List D := [.non, .int 0, .str "0", .ref la, .tup false (a.map tm ++ [t3 0 0 1]), .tup false (a.map tm ++ [.non]), .tup false [t3 0 2 4], .tup false [t3 0 1 (-1)]]
def odd2 (lb : Nat) : List D := [.tup false [.tup false [.int 0, .int 1]], .tup false [.tup false [.bl true, .int 1, .int 1]], .tup false [.tup false [.int 0, .bl true, .int 1]], .tup false [.tup false [.int 0, .int 1, .bl true]], .tup false [.ref lb], t3 0 1 1]
def odd3 : List D := [.tup false [t3 (-1) 1 1], .tup false [.tup false [.int 0, .int 1, .int 1, .int 1]]]
def odd4 : List D := [.tup false [t3 1 1 1, t3 0 1 1], .tup false [t3 1 1 1, t3 1 2 1], .tup false [.tup false [.str "0", .int 1, .int 1]], .tup false [t3 0 1 0]]
def odd5 : W → List D
  | [] => []
  | p :: r => [.tup false ((p :: r).map tm ++ ((p :: r).map tm).drop r.length), .tup false [tms (p :: r)]]
def odds (a : W) (la lb : Nat) : List D := odd1 a la ++ odd2 lb ++ odd3 ++ odd4 ++ odd5 a
theorem all_last {xs : List D} {x : D} (h : isTD x = false) : (xs ++ [x]).all isTD = false := by
  rw [List.all_append]
  simp [h]
theorem isTD_tup {x : D} {ys : List D} (h : ∀ i, x ≠ .int i) : isTD (.tup false (x :: ys)) = false := by
  unfold isTD
  split
  · rename_i e
    cases e
    exact absurd rfl (h _)
  · rfl
theorem odd_no {a : W} {la lb : Nat} {d : D} (hd : d ∈ odds a la lb) : isWD d = false := by
  unfold odds at hd
  rcases List.mem_append.mp hd with hd | hd
  · rcases List.mem_append.mp hd with hd | hd
    · rcases List.mem_append.mp hd with hd | hd
      · rcases List.mem_append.mp hd with hd | hd
        · simp only [odd1, List.mem_cons, List.not_mem_nil, or_false] at hd
          rcases hd with rfl | rfl | rfl | rfl | rfl | rfl | rfl | rfl
          · rfl
          · rfl
          · rfl
          · rfl
          · show ((a.map tm ++ [t3 0 0 1]).all isTD && _) = false
            rw [all_last (by decide)]; rfl
          · show ((a.map tm ++ [D.non]).all isTD && _) = false
            rw [all_last (by rfl)]; rfl
          · decide
          · decide
        · simp only [odd2, List.mem_cons, List.not_mem_nil, or_false] at hd
          rcases hd with rfl | rfl | rfl | rfl | rfl | rfl <;> rfl
      · simp only [odd3, List.mem_cons, List.not_mem_nil, or_false] at hd
        rcases hd with rfl | rfl <;> decide
    · simp only [odd4, List.mem_cons, List.not_mem_nil, or_false] at hd
      rcases hd with rfl | rfl | rfl | rfl
      · decide
      · decide
      · rfl
      · decide
  · cases a with
    | nil => cases hd
    | cons p r =>
      simp only [odd5, List.mem_cons, List.not_mem_nil, or_false] at hd
      rcases hd with rfl | rfl
      · obtain ⟨i, q, e1, e2⟩ := last_drop r p
        rw [← List.map_drop, e2, e1]
        show ((((i ++ [q]).map tm ++ [q].map tm).all isTD) && inc (((i ++ [q]).map tm ++ [q].map tm).map toR)) = false
        have : ((i ++ [q]).map tm ++ [q].map tm).map toR = (i.map tm).map toR ++ [toR (tm q), toR (tm q)] := by simp
        rw [this, inc_twice, Bool.and_false]
      · show (([tms (p :: r)].all isTD) && inc ([tms (p :: r)].map toR)) = false
        have : isTD (tms (p :: r)) = false := isTD_tup (fun i z => by cases z)
        simp [this]
theorem kd_tm (S : Store) (n : Nat) (p : Int × Rat) : Kd S n (tm p) := by
  cases n with
  | zero => exact True.intro
  | succ n =>
    refine ⟨rfl, fun x hx => ?_⟩
    simp only [List.mem_cons, List.not_mem_nil, or_false] at hx
    cases n <;> rcases hx with rfl | rfl | rfl <;> exact True.intro
theorem kd_t3 (S : Store) (n : Nat) (x y z : Int) : Kd S n (t3 x y z) := by
  cases n with
  | zero => exact True.intro
  | succ n =>
    refine ⟨rfl, fun x hx => ?_⟩
    simp only [List.mem_cons, List.not_mem_nil, or_false] at hx
    cases n <;> rcases hx with rfl | rfl | rfl <;> exact True.intro
theorem kd_tup {S : Store} {n : Nat} {ds : List D} (h : ∀ x ∈ ds, Kd S n x) : Kd S (n + 1) (.tup false ds) := ⟨rfl, h⟩
theorem kd_one {S : Store} {n : Nat} {x : D} (h : Kd S n x) : Kd S (n + 1) (.tup false [x]) := kd_tup fun y hy => by rw [List.mem_singleton.mp hy]; exact h
theorem kd_tms (S : Store) (n : Nat) (a : W) : Kd S n (tms a) := by
  cases n with
  | zero => exact True.intro
  | succ n =>
    refine kd_tup fun x hx => ?_
    obtain ⟨p, _, rfl⟩ := List.mem_map.mp hx
    exact kd_tm S n p
theorem odd_kd {a : W} {la lb : Nat} {d : D} {S : Store} {x y : List D} (ea : S[la]? = some (false, .lst x)) (eb : S[lb]? = some (false, .lst y)) (hd : d ∈ odds a la lb) : Kd S 4 d := by
  have tt : ∀ {n : Nat} {ds : List D}, (∀ x ∈ ds, Kd S n x) → Kd S (n + 1) (.tup false ds) := kd_tup
  unfold odds at hd
  rcases List.mem_append.mp hd with hd | hd
  · rcases List.mem_append.mp hd with hd | hd
    · rcases List.mem_append.mp hd with hd | hd
      · rcases List.mem_append.mp hd with hd | hd
        · simp only [odd1, List.mem_cons, List.not_mem_nil, or_false] at hd
          rcases hd with rfl | rfl | rfl | rfl | rfl | rfl | rfl | rfl
          · exact True.intro
          · exact True.intro
          · exact True.intro
          · exact ⟨_, _, ea⟩
          · refine tt fun x hx => ?_
            rcases List.mem_append.mp hx with hx | hx
            · obtain ⟨p, _, rfl⟩ := List.mem_map.mp hx
              exact kd_tm S 3 p
            · rw [List.mem_singleton.mp hx]; exact kd_t3 _ _ _ _ _
          · refine tt fun x hx => ?_
            rcases List.mem_append.mp hx with hx | hx
            · obtain ⟨p, _, rfl⟩ := List.mem_map.mp hx
              exact kd_tm S 3 p
            · rw [List.mem_singleton.mp hx]; exact True.intro
          · exact kd_one (kd_t3 _ _ _ _ _)
          · exact kd_one (kd_t3 _ _ _ _ _)
        · simp only [odd2, List.mem_cons, List.not_mem_nil, or_false] at hd
          rcases hd with rfl | rfl | rfl | rfl | rfl | rfl
          · exact kd_one (tt fun x hx => by simp only [List.mem_cons, List.not_mem_nil, or_false] at hx; rcases hx with rfl | rfl <;> exact True.intro)
          · exact kd_one (tt fun x hx => by simp only [List.mem_cons, List.not_mem_nil, or_false] at hx; rcases hx with rfl | rfl | rfl <;> exact True.intro)
          · exact kd_one (tt fun x hx => by simp only [List.mem_cons, List.not_mem_nil, or_false] at hx; rcases hx with rfl | rfl | rfl <;> exact True.intro)
          · exact kd_one (tt fun x hx => by simp only [List.mem_cons, List.not_mem_nil, or_false] at hx; rcases hx with rfl | rfl | rfl <;> exact True.intro)
          · exact kd_one (⟨_, _, eb⟩ : Kd S 3 (.ref lb))
          · exact kd_t3 _ _ _ _ _
      · simp only [odd3, List.mem_cons, List.not_mem_nil, or_false] at hd
        rcases hd with rfl | rfl
        · exact kd_one (kd_t3 _ _ _ _ _)
        · exact kd_one (tt fun x hx => by simp only [List.mem_cons, List.not_mem_nil, or_false] at hx; rcases hx with rfl | rfl | rfl | rfl <;> exact True.intro)
    · simp only [odd4, List.mem_cons, List.not_mem_nil, or_false] at hd
      rcases hd with rfl | rfl | rfl | rfl
      · exact tt fun x hx => by simp only [List.mem_cons, List.not_mem_nil, or_false] at hx; rcases hx with rfl | rfl <;> exact kd_t3 _ _ _ _ _
      · exact tt fun x hx => by simp only [List.mem_cons, List.not_mem_nil, or_false] at hx; rcases hx with rfl | rfl <;> exact kd_t3 _ _ _ _ _
      · exact kd_one (tt fun x hx => by simp only [List.mem_cons, List.not_mem_nil, or_false] at hx; rcases hx with rfl | rfl | rfl <;> exact True.intro)
      · exact kd_one (kd_t3 _ _ _ _ _)
  · cases a with
    | nil => cases hd
    | cons p r =>
      simp only [odd5, List.mem_cons, List.not_mem_nil, or_false] at hd
      rcases hd with rfl | rfl
      · refine tt fun x hx => ?_
        rcases List.mem_append.mp hx with hx | hx
        · obtain ⟨p, _, rfl⟩ := List.mem_map.mp hx
          exact kd_tm S 3 p
        · obtain ⟨p, _, rfl⟩ := List.mem_map.mp (List.mem_of_mem_drop hx)
          exact kd_tm S 3 p
      · exact kd_one (kd_tms S 3 (p :: r))
/-! ### shown -/
theorem shows_i (S : Store) (k : Nat) (i : Int) (h : i.natAbs < 1000) : Shows S (.int i) (k + 1) 1921 := shows_int (show i.natAbs < 2 ^ 900 from Nat.lt_of_lt_of_le (show i.natAbs < 2 ^ 10 by omega) (Nat.pow_le_pow_right (by omega) (by omega)))
theorem shows_s (S : Store) (k : Nat) (s t : String) (e : reprText (Str.ofString s) = Str.ofString t) (h : (Str.ofString t).length ≤ 1921) : Shows S (.str (Str.ofString s)) (k + 1) 1921 := by
  have ok := tok_of s
  refine ⟨.str (Str.ofString s), ?_, ⟨by simp only [PyData.showable, ok.str], ?_, ?_⟩⟩
  · show (if PyData.strOk (Str.ofString s) = true then some (PyData.str (Str.ofString s)) else none) = _
    rw [if_pos ok.str]
  · simp only [PyData.shown, e]
    exact h
  · simp only [PyData.shown, e]
    exact tok_of t
theorem shows_all {S : Store} {k B : Nat} {ds : List D} (h : ∀ d ∈ ds, Shows S d k B) (hl : ds.length ≤ 110) (hB : B ≤ 6000) : Shows S (.tup false ds) (k + 1) 700000 :=
  (shows_tup h).mono (by
    have : ds.length * (B + 2) ≤ 110 * 6002 := Nat.mul_le_mul hl (by omega)
    omega)
theorem shows_few {S : Store} {k B : Nat} {ds : List D} (h : ∀ d ∈ ds, Shows S d k B) (hl : ds.length ≤ 4) (hB : B ≤ 1000000) : Shows S (.tup false ds) (k + 1) (4 * (B + 2) + 3) :=
  (shows_tup h).mono (by
    have : ds.length * (B + 2) ≤ 4 * (B + 2) := Nat.mul_le_mul hl (by omega)
    omega)
theorem shows_t3 (S : Store) (k : Nat) (x y z : Int) (h : x.natAbs < 1000 ∧ y.natAbs < 1000 ∧ z.natAbs < 1000) : Shows S (t3 x y z) (k + 2) 5772 := shows_trip (shows_i S k x h.1) (shows_i S k y h.2.1) (shows_i S k z h.2.2)
theorem shows_tm {S : Store} {k : Nat} {p : Int × Rat} (h : Rok (p.1, p.2.num, (p.2.den : Int))) : Shows S (tm p) (k + 2) 5772 := shows_rt (r := (p.1, p.2.num, (p.2.den : Int))) h
theorem odd_shows {a : W} {la lb : Nat} {d : D} {S : Store} (h : ∀ r ∈ rws a, Rok r) (hl : a.length ≤ 100) (ea : S[la]? = some (false, .lst (a.map tm))) (eb : S[lb]? = some (false, .lst [.int 0, .int 1, .int 1])) (hd : d ∈ odds a la lb) : Shows S d 30 3000000 := by
  have ht : ∀ p ∈ a, Rok (p.1, p.2.num, (p.2.den : Int)) := fun p hp => h _ (List.mem_map_of_mem hp)
  have i1 : ∀ (k : Nat) (i : Int), i.natAbs < 1000 → Shows S (.int i) (k + 1) 5772 := fun k i hi => (shows_i S k i hi).mono (by omega)
  have b1 : ∀ (k : Nat) (b : Bool), Shows S (.bl b) (k + 1) 5772 := fun k b => (shows_bl S b k).mono (by omega)
  have s1 : ∀ (k : Nat), Shows S (.str "0") (k + 1) 5772 := fun k => (shows_s S k "0" "'0'" (by decide +kernel) (by decide +kernel)).mono (by omega)
  have n1 : ∀ (k : Nat), Shows S .non (k + 1) 5772 := fun k => (shows_non S k).mono (by omega)
  have all : ∀ {k : Nat} {ds : List D}, (∀ d ∈ ds, Shows S d k 5772) → ds.length ≤ 110 → Shows S (.tup false ds) (k + 1) 700000 := fun h hl => shows_all h hl (by omega)
  have top : ∀ {ds : List D}, (∀ d ∈ ds, Shows S d 29 5772) → ds.length ≤ 110 → Shows S (.tup false ds) 30 3000000 := fun h hl => (all h hl).mono (by omega)
  have one : ∀ {x : D}, Shows S x 29 5772 → Shows S (.tup false [x]) 30 3000000 := fun hx => top (fun d hd => by rw [List.mem_singleton.mp hd]; exact hx) (by simp)
  have few : ∀ {k : Nat} {x y z : D}, Shows S x k 1921 → Shows S y k 1921 → Shows S z k 1921 → Shows S (.tup false [x, y, z]) (k + 1) 5772 := fun h1 h2 h3 => shows_trip h1 h2 h3
  have small : ∀ {k : Nat} {ds : List D}, (∀ d ∈ ds, Shows S d k 1921) → ds.length ≤ 4 → Shows S (.tup false ds) (k + 1) 7695 := fun {k ds} h hl => (shows_tup h).mono (by
    have : ds.length * (1921 + 2) ≤ 4 * 1923 := Nat.mul_le_mul hl (by omega)
    omega)
  have one' : ∀ {x : D} {B : Nat}, Shows S x 29 B → B ≤ 1000000 → Shows S (.tup false [x]) 30 3000000 := fun hx hB => (shows_tup (fun d hd => by rw [List.mem_singleton.mp hd]; exact hx)).mono (by simp; omega)
  have i0 : ∀ (k : Nat) (i : Int), i.natAbs < 1000 → Shows S (.int i) (k + 1) 1921 := fun k i hi => shows_i S k i hi
  have tmsTop : Shows S (tms a) 29 700000 := all (k := 28) (fun d hd => by
    obtain ⟨p, hp, rfl⟩ := List.mem_map.mp hd
    exact shows_tm (k := 26) (ht p hp)) (by rw [List.length_map]; omega)
  unfold odds at hd
  rcases List.mem_append.mp hd with hd | hd
  · rcases List.mem_append.mp hd with hd | hd
    · rcases List.mem_append.mp hd with hd | hd
      · rcases List.mem_append.mp hd with hd | hd
        · simp only [odd1, List.mem_cons, List.not_mem_nil, or_false] at hd
          rcases hd with rfl | rfl | rfl | rfl | rfl | rfl | rfl | rfl
          · exact (n1 29).mono (by omega)
          · exact (i1 29 0 (by decide)).mono (by omega)
          · exact (s1 29).mono (by omega)
          · exact (shows_lst (B := 5772) ea (fun d hd => by
              obtain ⟨p, hp, rfl⟩ := List.mem_map.mp hd
              exact shows_tm (k := 27) (ht p hp))).mono (by rw [List.length_map]; omega)
          · refine top (fun x hx => ?_) (by simp; omega)
            rcases List.mem_append.mp hx with hx | hx
            · obtain ⟨p, hp, rfl⟩ := List.mem_map.mp hx
              exact shows_tm (k := 27) (ht p hp)
            · rw [List.mem_singleton.mp hx]; exact shows_t3 S 27 _ _ _ (by decide)
          · refine top (fun x hx => ?_) (by simp; omega)
            rcases List.mem_append.mp hx with hx | hx
            · obtain ⟨p, hp, rfl⟩ := List.mem_map.mp hx
              exact shows_tm (k := 27) (ht p hp)
            · rw [List.mem_singleton.mp hx]; exact n1 28
          · exact one (shows_t3 S 27 _ _ _ (by decide))
          · exact one (shows_t3 S 27 _ _ _ (by decide))
        · simp only [odd2, List.mem_cons, List.not_mem_nil, or_false] at hd
          rcases hd with rfl | rfl | rfl | rfl | rfl | rfl
          · exact one' (small (k := 28) (fun x hx => by simp only [List.mem_cons, List.not_mem_nil, or_false] at hx; rcases hx with rfl | rfl <;> exact i0 27 _ (by decide)) (by simp)) (by omega)
          · exact one (few (k := 28) (shows_bl S _ 27) (i0 27 _ (by decide)) (i0 27 _ (by decide)))
          · exact one (few (k := 28) (i0 27 _ (by decide)) (shows_bl S _ 27) (i0 27 _ (by decide)))
          · exact one (few (k := 28) (i0 27 _ (by decide)) (i0 27 _ (by decide)) (shows_bl S _ 27))
          · exact one' (shows_lst (k := 28) (B := 5772) eb (fun x hx => by simp only [List.mem_cons, List.not_mem_nil, or_false] at hx; rcases hx with rfl | rfl | rfl <;> exact i1 27 _ (by decide))) (by simp)
          · exact (shows_t3 S 28 _ _ _ (by decide)).mono (by omega)
      · simp only [odd3, List.mem_cons, List.not_mem_nil, or_false] at hd
        rcases hd with rfl | rfl
        · exact one (shows_t3 S 27 _ _ _ (by decide))
        · exact one' (small (k := 28) (fun x hx => by simp only [List.mem_cons, List.not_mem_nil, or_false] at hx; rcases hx with rfl | rfl | rfl | rfl <;> exact i0 27 _ (by decide)) (by simp)) (by omega)
    · simp only [odd4, List.mem_cons, List.not_mem_nil, or_false] at hd
      rcases hd with rfl | rfl | rfl | rfl
      · exact top (fun x hx => by simp only [List.mem_cons, List.not_mem_nil, or_false] at hx; rcases hx with rfl | rfl <;> exact shows_t3 S 27 _ _ _ (by decide)) (by simp)
      · exact top (fun x hx => by simp only [List.mem_cons, List.not_mem_nil, or_false] at hx; rcases hx with rfl | rfl <;> exact shows_t3 S 27 _ _ _ (by decide)) (by simp)
      · exact one (few (k := 28) (shows_s S 27 "0" "'0'" (by decide +kernel) (by decide +kernel)) (i0 27 _ (by decide)) (i0 27 _ (by decide)))
      · exact one (shows_t3 S 27 _ _ _ (by decide))
  · cases a with
    | nil => cases hd
    | cons p r =>
      simp only [odd5, List.mem_cons, List.not_mem_nil, or_false] at hd
      rcases hd with rfl | rfl
      · refine top (fun x hx => ?_) ?_
        · rcases List.mem_append.mp hx with hx | hx
          · obtain ⟨p, hp, rfl⟩ := List.mem_map.mp hx
            exact shows_tm (k := 27) (ht p hp)
          · obtain ⟨p, hp, rfl⟩ := List.mem_map.mp (List.mem_of_mem_drop hx)
            exact shows_tm (k := 27) (ht p hp)
        · obtain ⟨i, q, e1, e2⟩ := last_drop r p
          rw [← List.map_drop, e2]
          simp at hl ⊢
          omega
      · exact one' tmsTop (by omega)
end N2
set_option Elab.async false
set_option linter.all false
set_option maxRecDepth 100000
set_option maxHeartbeats 1000000
/-! FL: statements that run; sizes; sums. -/
namespace FL
open PySem PySem.Spec PyProof.Rows L2 PP MA EV FB FC FD FE FF FG FH FI FJ FJ2 FK N1 G07
variable [Tbl]
/-! ### names -/
abbrev G (env : EnvD) (i : Nat) (d : D) : Prop := env[i]? = some (some d)
theorem g_ne {env : EnvD} {i j : Nat} {d : D} {v : Option D} (h : G env i d) (k : j ≠ i) : G (env.set j v) i d := by
  show (env.set j v)[i]? = _
  rw [List.getElem?_set_ne k]
  exact h
theorem g_eq {env : EnvD} {i : Nat} {d : D} (h : i < env.length) : G (env.set i (some d)) i d := List.getElem?_set_self h
/-! ### statements -/
theorem set_run {i : Nat} {f : Ev D} {env : EnvD} {S S' : Store} {d : D} (h : f env S = .ok d S') : sSet i f env S = .fl (.nx (env.set i (some d))) S' := by
  unfold sSet ofE
  rw [h]
theorem if_no {c : Ev Bool} {f : Ss} {env : EnvD} {S S' : Store} (h : c env S = .ok false S') : sIf c f sNext env S = .fl (.nx env) S' := by
  unfold sIf ofE
  rw [h]
  rfl
theorem if_then {c : Ev Bool} {f g : Ss} {env : EnvD} {S S' : Store} (h : c env S = .ok true S') : sIf c f g env S = f env S' := by
  unfold sIf ofE
  rw [h]
  rfl
theorem seq_nx {f g : Ss} {env e : EnvD} {S S' : Store} (h : f env S = .fl (.nx e) S') : sSeq f g env S = g e S' := by
  rw [seq_eq, h]
/-- repr of two values of one reading are alike -/
theorem repr_ne {f g : Ev D} {env : EnvD} {S S1 S2 : Store} {d e : D} {p : PyData} {N : Nat} (hf : f env S = .ok d S1) (h1 : rdP S1 d = some p) (hg : g env S1 = .ok e S2) (h2 : rdP S2 e = some p) (sh : Sh p N) (hN : N ≤ 10000000) :
    evTB (ev2 neX (evL reprD (evCons f evNil)) (evL reprD (evCons g evNil))) env S = .ok false S2 := by
  have r1 := repr_big h1 (sh.mono hN)
  have r2 := repr_big h2 (sh.mono hN)
  unfold evTB ev2 evL evCons evNil
  simp only [hf, hg, Res.bind, r1, r2, Res.ofOpt, neX_str sh.txt, asB, Option.map_some]
theorem rd_ref {S : Store} {l : Nat} {lk : Bool} {ds : List D} {ps : List PyData} (e : S[l]? = some (lk, .lst ds)) (h : optAll (ds.map (toP S 29)) = some ps) : rdP S (.ref l) = some (.list ps) := by
  show toP S 30 (.ref l) = _
  unfold toP
  simp only [e, h, Option.map_some]
/-- a list of values, each of which hangs on the store's beginning -/
theorem pr_list {env : EnvD} {S : Store} {fl : Ev (List D)} {i : Nat} {ds : List D} (h : Pr fl env S ds) (hl : ds.length ≤ 1000) : ∃ l ex, sSet i (evL mkLst fl) env S = .fl (.nx (env.set i (some (.ref l)))) (S ++ ex) ∧ (S ++ ex)[l]? = some (false, .lst ds) ∧ S.length ≤ l := by
  obtain ⟨x, q⟩ := h.here
  refine ⟨(S ++ x).length, x ++ [(false, .lst ds)], set_run ?_, ?_, by simp⟩
  · have ml := mkLst_new (ds := ds) (S := S ++ x) hl
    unfold evL
    simp only [q, Res.bind, ml, Res.ofOpt, List.append_assoc]
  · rw [← List.append_assoc]
    exact at_end _ [] _
theorem neX_lst {S : Store} {l k : Nat} {ds : List D} {ps : List PyData} (e : S[l]? = some (false, .lst ds)) (f : S[k]? = some (false, .lst ds)) (h : optAll (ds.map (toP S 29)) = some ps) (hn : ds ≠ []) : neX (.ref l) (.ref k) S = some (.bl false, S) := by
  refine neX_same (rd_ref e h) (rd_ref f h) ?_
  unfold empD
  simp only [f]
theorem ne_run {env : EnvD} {S : Store} {f g : Ev D} {d e : D} {S1 S2 : Store} (hf : f env S = .ok d S1) (hg : g env S1 = .ok e S2) (h : neX d e S2 = some (.bl false, S2)) : evTB (ev2 neX f g) env S = .ok false S2 := by
  unfold evTB ev2
  simp only [hf, hg, Res.bind, h, Res.ofOpt, asB, Option.map_some]
/-! ### the list of what was found -/
structure Fd (S0 S : Store) (f : Nat) (xs : List D) : Prop where
  ext : Ext S0 S
  at_ : S[f]? = some (false, .lst xs)
  new : S0.length ≤ f
theorem Fd.app {S0 S : Store} {f : Nat} {xs : List D} (h : Fd S0 S f xs) (ex : Store) : Fd S0 (S ++ ex) f xs := ⟨h.ext.app ex, app_at h.at_ ex, h.new⟩
theorem Fd.set {S0 S : Store} {f : Nat} {xs : List D} (h : Fd S0 S f xs) (ys : List D) : Fd S0 (S.set f (false, .lst ys)) f ys := by
  obtain ⟨ex, rfl⟩ := h.ext
  have hf := lt_of_at h.at_
  refine ⟨⟨ex.set (f - S0.length) (false, .lst ys), List.set_append_right _ _ h.new⟩, by rw [List.getElem?_set, if_pos rfl, if_pos hf], h.new⟩
theorem found0 {i : Nat} {fb : Ev D} {env : EnvD} {S : Store} {v : D} (h : Pr fb env S v) : ∃ f S', sSet i (evL mkLst (evCons fb evNil)) env S = .fl (.nx (env.set i (some (.ref f)))) S' ∧ Fd S S' f [v] := by
  obtain ⟨l, ex, q, e, n⟩ := pr_list (i := i) (pr1 h) (by show 1 ≤ 1000; omega)
  exact ⟨l, S ++ ex, q, ⟨_, rfl⟩, e, n⟩
theorem found1 {i : Nat} {fb : Ev D} {env : EnvD} {S0 S : Store} {f : Nat} {xs : List D} {v : D} (g : G env i (.ref f)) (h : Pr fb env S0 v) (k : Fd S0 S f xs) (hx : xs.length < 1000) : ∃ ex, sExpr (evM isLst appendM (evVar i) (evCons fb evNil)) env S = .fl (.nx env) ((S ++ ex).set f (false, .lst (xs ++ [v]))) ∧ Fd S0 ((S ++ ex).set f (false, .lst (xs ++ [v]))) f (xs ++ [v]) := by
  obtain ⟨ex, q⟩ := h S k.ext
  have k2 := k.app ex
  refine ⟨ex, ?_, k2.set _⟩
  have ap := append_at (v := v) k2.at_ hx
  unfold sExpr ofE evM
  simp only [evVar, g, Res.bind, isLst_at k.at_, if_true, evCons, evNil, q, ap, Res.ofOpt]
/-! ### sums -/
theorem tot_self {a : W} (h : Good a) : tot a = a := good_ext (good_tot a) h (cf_tot a)
theorem tot_zero (b : W) : tot (b ++ neg b) = [] := good_ext (good_tot _) good_nil fun j => by
  rw [cf_tot, cf_app, cf_neg]
  show cf b j + -cf b j = 0
  grind
theorem tot_keys {ts : W} {o : Int} (h : ∀ p ∈ ts, 0 ≤ p.1 ∧ p.1 < o) : ∀ p ∈ tot ts, 0 ≤ p.1 ∧ p.1 < o := fun p hp => by
  obtain ⟨x, hx, e⟩ := List.mem_map.mp (mem_tot hp).2
  have e' : x.1 = p.1 := e
  rw [← e']
  exact h x hx
theorem lat_ev {L B : Nat} {q : Rat} : ∀ {a : W}, (∀ p ∈ a, Lat L B (p.2 * pw q p.1.toNat)) → Lat L (a.length * B) (ev a q)
  | [], _ => Lat.zero L _
  | p :: a, h => by
    have h1 := lat_ev (fun r hr => h r (List.mem_cons_of_mem _ hr)) (a := a)
    have h2 := h p List.mem_cons_self
    show Lat L ((a.length + 1) * B) (p.2 * pw q p.1.toNat + ev a q)
    rw [Nat.add_mul, Nat.one_mul, Nat.add_comm]
    exact Lat.add h2 h1
theorem small_mul {x y i j k : Nat} (h : x < 2 ^ i) (g : y < 2 ^ j) (e : i + j ≤ k) : x * y < 2 ^ k := by
  have := Nat.mul_lt_mul_of_lt_of_lt h g
  rw [← Nat.pow_add] at this
  exact Nat.lt_of_lt_of_le this (Nat.pow_le_pow_right (by omega) e)
end FL
set_option Elab.async false
set_option linter.all false
set_option maxRecDepth 100000
/-! QA: the sign of a worth is that of its number below its bound. -/
namespace QA
open MA EV
theorem pw_pos {q : Rat} (h : 0 < q) : ∀ n, 0 < pw q n
  | 0 => by show (0 : Rat) < 1; decide
  | n + 1 => by
    show 0 < pw q n * q
    exact Rat.mul_pos (pw_pos h n) h
theorem pw_anti {q : Rat} (h : 0 < q) (h1 : q ≤ 1) (n : Nat) : ∀ m, pw q (n + m) ≤ pw q n
  | 0 => Rat.le_refl
  | m + 1 => by
    have a := pw_anti h h1 n m
    have b : pw q (n + m) * q ≤ pw q (n + m) * 1 := Rat.mul_le_mul_of_nonneg_left h1 (Rat.le_of_lt (pw_pos h _))
    show pw q (n + m) * q ≤ pw q n
    rw [Rat.mul_one] at b
    exact Rat.le_trans b a
theorem pw_le {q : Rat} (h : 0 < q) (h1 : q ≤ 1) {n m : Nat} (k : n ≤ m) : pw q m ≤ pw q n := by
  obtain ⟨d, rfl⟩ : ∃ d, m = n + d := ⟨m - n, by omega⟩
  exact pw_anti h h1 n d
/-- the size of a number -/
def ab (q : Rat) : Rat := if q < 0 then -q else q
theorem ab_nn (q : Rat) : 0 ≤ ab q := by unfold ab; split <;> grind
theorem ab_up (q : Rat) : q ≤ ab q := by unfold ab; split <;> grind
theorem ab_dn (q : Rat) : -ab q ≤ q := by unfold ab; split <;> grind
theorem ab_pos {q : Rat} (h : q ≠ 0) : 0 < ab q := by unfold ab; split <;> grind
/-- the greatest size -/
def mst : W → Rat → Rat
  | [], m => m
  | p :: t, m => mst t (if m < ab p.2 then ab p.2 else m)
theorem mst_ge : ∀ (t : W) (m : Rat), m ≤ mst t m ∧ ∀ p ∈ t, ab p.2 ≤ mst t m
  | [], m => ⟨Rat.le_refl, fun p hp => by cases hp⟩
  | p :: t, m => by
    obtain ⟨h1, h2⟩ := mst_ge t (if m < ab p.2 then ab p.2 else m)
    have a : m ≤ (if m < ab p.2 then ab p.2 else m) ∧ ab p.2 ≤ (if m < ab p.2 then ab p.2 else m) := by
      split
      · rename_i z; exact ⟨Rat.le_of_lt z, Rat.le_refl⟩
      · rename_i z; exact ⟨Rat.le_refl, Rat.not_lt.mp z⟩
    refine ⟨Rat.le_trans a.1 h1, fun r hr => ?_⟩
    rcases List.mem_cons.mp hr with rfl | z
    · exact Rat.le_trans a.2 h1
    · exact h2 r z
theorem mst_app : ∀ (t u : W) (m : Rat), mst (t ++ u) m = mst u (mst t m)
  | [], u, m => rfl
  | p :: t, u, m => by simp only [List.cons_append, mst, mst_app t u]
theorem mst_mem : ∀ (t : W) (m : Rat), mst t m = m ∨ ∃ p ∈ t, mst t m = ab p.2
  | [], m => .inl rfl
  | p :: t, m => by
    rw [mst]
    rcases mst_mem t (if m < ab p.2 then ab p.2 else m) with h | ⟨r, hr, h⟩
    · rw [h]
      split
      · exact .inr ⟨p, List.mem_cons_self, rfl⟩
      · exact .inl rfl
    · exact .inr ⟨r, List.mem_cons_of_mem _ hr, h⟩
theorem tail_small {q M : Rat} (h : 0 < q) (h1 : q ≤ 1) (hM : 0 ≤ M) : ∀ (t : W) (n : Nat), (keys t).Pairwise (· < ·) → (∀ p ∈ t, (n : Int) ≤ p.1) → (∀ p ∈ t, ab p.2 ≤ M) →
    ev t q * (1 - q) ≤ M * pw q n ∧ -(M * pw q n) ≤ ev t q * (1 - q)
  | [], n, _, _, _ => by
    have := Rat.mul_nonneg hM (Rat.le_of_lt (pw_pos h n))
    simp only [ev, Rat.zero_mul]
    grind
  | p :: t, n, u, hn, hm => by
    obtain ⟨u1, u2⟩ := List.pairwise_cons.mp u
    have hp := hn p List.mem_cons_self
    obtain ⟨j, hj⟩ : ∃ j : Nat, p.1 = (j : Int) := ⟨p.1.toNat, by omega⟩
    obtain ⟨i1, i2⟩ := tail_small h h1 hM t (j + 1) u2 (fun r hr => by
      have : p.1 < r.1 := u1 r.1 (List.mem_map_of_mem hr)
      omega) (fun r hr => hm r (List.mem_cons_of_mem _ hr))
    have hjn : pw q j ≤ pw q n := pw_le h h1 (by omega)
    have pj := pw_pos h j
    have c1 := ab_up p.2
    have c2 := ab_dn p.2
    have c3 := hm p List.mem_cons_self
    have e1 : 0 ≤ pw q j * (1 - q) := Rat.mul_nonneg (Rat.le_of_lt pj) (by grind)
    have b1 : p.2 * (pw q j * (1 - q)) ≤ M * (pw q j * (1 - q)) := Rat.mul_le_mul_of_nonneg_right (Rat.le_trans c1 c3) e1
    have b2 : -M * (pw q j * (1 - q)) ≤ p.2 * (pw q j * (1 - q)) := Rat.mul_le_mul_of_nonneg_right (by grind) e1
    have b3 : M * pw q j ≤ M * pw q n := Rat.mul_le_mul_of_nonneg_left hjn hM
    have e2 : pw q (j + 1) = pw q j * q := rfl
    rw [e2] at i1 i2
    have e3 : p.1.toNat = j := by omega
    simp only [ev, e3]
    constructor <;> grind
/-- the bound of a worth -/
def bnd : W → Rat
  | [] => 0
  | p :: t => ab p.2 / (ab p.2 + mst t 0)
theorem lt_div {q a b : Rat} (hb : 0 < b) (h : q < a / b) : q * b < a := by
  have := Rat.mul_lt_mul_of_pos_right h hb
  rw [Rat.div_mul_cancel (by grind)] at this
  exact this
theorem sign_at {a : W} {q : Rat} (g : Good a) (k : ∀ p ∈ a, 0 ≤ p.1) (hq : 0 < q) (hb : q < bnd a) : (0 < ev a q ∧ sgn a = 1) ∨ (ev a q < 0 ∧ sgn a = -1) := by
  cases a with
  | nil => exact absurd hq (by unfold bnd at hb; grind)
  | cons p t =>
    obtain ⟨u1, u2⟩ := List.pairwise_cons.mp g.up
    have hz : p.2 ≠ 0 := g.nz p List.mem_cons_self
    have hap := ab_pos hz
    obtain ⟨m1, m2⟩ := mst_ge t 0
    have hlt : q * (ab p.2 + mst t 0) < ab p.2 := lt_div (by grind) hb
    generalize mst t 0 = M at *
    have h1 : q < 1 := by
      apply Rat.not_le.mp
      intro z
      have : 1 * (ab p.2 + M) ≤ q * (ab p.2 + M) := Rat.mul_le_mul_of_nonneg_right z (by grind)
      grind
    have hp := k p List.mem_cons_self
    obtain ⟨j, hj⟩ : ∃ j : Nat, p.1 = (j : Int) := ⟨p.1.toNat, by omega⟩
    obtain ⟨i1, i2⟩ := tail_small hq (Rat.le_of_lt h1) m1 t (j + 1) u2 (fun r hr => by
      have : p.1 < r.1 := u1 r.1 (List.mem_map_of_mem hr)
      omega) m2
    have pj := pw_pos hq j
    have e2 : pw q (j + 1) = pw q j * q := rfl
    rw [e2] at i1 i2
    have e3 : p.1.toNat = j := by omega
    have hs : 0 < 1 - q := by grind
    have b := Rat.mul_lt_mul_of_pos_right hlt pj
    have key : M * (pw q j * q) < ab p.2 * pw q j * (1 - q) := by grind
    simp only [ev, e3, sgn]
    unfold sgv
    by_cases c : 0 < p.2
    · rw [if_pos c]
      refine .inl ⟨?_, rfl⟩
      have ea : ab p.2 = p.2 := by unfold ab; rw [if_neg (by grind)]
      rw [ea] at key
      have : 0 < (p.2 * pw q j + ev t q) * (1 - q) := by grind
      apply Rat.not_le.mp
      intro z
      have := Rat.mul_le_mul_of_nonneg_right z (Rat.le_of_lt hs)
      grind
    · rw [if_neg c]
      refine .inr ⟨?_, rfl⟩
      have ea : ab p.2 = -p.2 := by unfold ab; rw [if_pos (by grind)]
      rw [ea] at key
      have : (p.2 * pw q j + ev t q) * (1 - q) < 0 := by grind
      apply Rat.not_le.mp
      intro z
      have := Rat.mul_le_mul_of_nonneg_right z (Rat.le_of_lt hs)
      grind
/-! ### the first term of a product -/
theorem head_cross {a b : W} {p r : Int × Rat} (ha : Good (p :: a)) (hb : Good (r :: b)) : (∀ m, m < p.1 + r.1 → cf (cross (p :: a) (r :: b)) m = 0) ∧ cf (cross (p :: a) (r :: b)) (p.1 + r.1) = p.2 * r.2 := by
  have ea : cf (p :: a) p.1 = p.2 := cf_mem ha.nodup List.mem_cons_self
  have eb : cf (r :: b) r.1 = r.2 := cf_mem hb.nodup List.mem_cons_self
  have la := (List.pairwise_cons.mp ha.up).1
  have lb := (List.pairwise_cons.mp hb.up).1
  have zb : ∀ j, j < r.1 → cf (r :: b) j = 0 := fun j hj => cf_notin fun hm => by
    rcases List.mem_cons.mp hm with z | z
    · have z' : j = r.1 := z
      omega
    · have := lb j z
      have : r.1 < j := this
      omega
  have low : ∀ m, m ≤ p.1 + r.1 → ∀ x ∈ p :: a, x.2 = 0 ∨ x.1 = p.1 ∨ cf (r :: b) (m - x.1) = 0 := fun m hm x hx => by
    rcases List.mem_cons.mp hx with rfl | z
    · exact .inr (.inl rfl)
    · have : p.1 < x.1 := la x.1 (List.mem_map_of_mem z)
      exact .inr (.inr (zb _ (by omega)))
  refine ⟨fun m hm => ?_, ?_⟩
  · rw [cross_low _ (low m (by omega)), zb _ (by omega), Rat.mul_zero]
  · rw [cross_low _ (low _ (by omega)), ea, show p.1 + r.1 - p.1 = r.1 by omega, eb]
theorem head_of {c : W} {k : Int} {v : Rat} (g : Good c) (h0 : ∀ m, m < k → cf c m = 0) (h1 : cf c k = v) (hv : v ≠ 0) : ∃ t, c = (k, v) :: t := by
  cases c with
  | nil => exact absurd h1.symm (by simpa [cf] using hv)
  | cons p t =>
    have e : cf (p :: t) p.1 = p.2 := cf_mem g.nodup List.mem_cons_self
    have ge : k ≤ p.1 := by
      apply Int.not_lt.mp
      intro z
      have := h0 p.1 z
      rw [e] at this
      exact g.nz p List.mem_cons_self this
    have le : p.1 ≤ k := by
      apply Int.not_lt.mp
      intro z
      have : cf (p :: t) k = 0 := cf_notin fun hm => by
        rcases List.mem_cons.mp hm with y | y
        · have y' : k = p.1 := y
          omega
        · have : p.1 < k := (List.pairwise_cons.mp g.up).1 k y
          omega
      rw [this] at h1
      exact hv h1.symm
    have ek : p.1 = k := by omega
    refine ⟨t, ?_⟩
    rw [ek, h1] at e
    obtain ⟨x, y⟩ := p
    simp only at ek e
    rw [ek, e]
theorem sgv_mul {p q : Rat} (hp : p ≠ 0) (hq : q ≠ 0) : sgv (p * q) = sgv p * sgv q := by
  unfold sgv
  by_cases c : 0 < p <;> by_cases d : 0 < q
  · rw [if_pos c, if_pos d, if_pos (Rat.mul_pos c d)]; rfl
  · have := Rat.mul_pos c (show 0 < -q by grind)
    rw [if_pos c, if_neg d, if_neg (by grind)]; rfl
  · have := Rat.mul_pos (show 0 < -p by grind) d
    rw [if_neg c, if_pos d, if_neg (by grind)]; rfl
  · have := Rat.mul_pos (show 0 < -p by grind) (show 0 < -q by grind)
    rw [if_neg c, if_neg d, if_pos (by grind)]; rfl
end QA
set_option Elab.async false
set_option linter.all false
set_option maxRecDepth 100000
set_option maxHeartbeats 1000000
/-! WA: names that are drawn. -/
namespace WA
open PySem PySem.Spec PyProof.Rows L2 PP MA EV FB FC FD FE FF FG FH FI FJ FJ2 FK N1 FL G07
variable [Tbl]
/-! ### a comprehension whose items draw -/
theorem lc_inv {src : Ev Src} {tg : Tgt} {vs : List Nat} {tt : Ev Bool} {te : Ev D} {env : EnvD} {st st1 : Store} {g : Src} (ds : List D) (P : Nat → List D → Store → Prop) (hz : ds.length < sizeLine) (hs : src env st = .ok g st1) (h0 : P 0 [] (st1 ++ [(false, .lst [])]))
    (hg : ∀ i acc s, P i acc s → g i s = some ds[i]?)
    (hp : ∀ i d acc s, ds[i]? = some d → acc.length = i → P i acc s → ∃ env1, tg d (wipeD env vs) = some env1 ∧ tt env1 s = .ok true s ∧ ∃ y s3, te env1 s = .ok y s3 ∧ s3[st1.length]? = some (false, .lst acc) ∧ P (i + 1) (acc ++ [y]) (s3.set st1.length (false, .lst (acc ++ [y])))) :
    ∃ acc s, evLc src tg vs tt te env st = .ok (.ref st1.length) s ∧ acc.length = ds.length ∧ P ds.length acc s := by
  have key : ∀ (n i : Nat) (acc : List D) (s : Store), i + n = ds.length → acc.length = i → P i acc s → ∀ m, n < m → ∃ acc' s', lcLoop g tg (wipeD env vs) tt te st1.length m i s = .ok (.ref st1.length) s' ∧ acc'.length = ds.length ∧ P ds.length acc' s' := by
    intro n
    induction n with
    | zero =>
      intro i acc s hi ha hP m hm
      obtain ⟨m, rfl⟩ : ∃ j, m = j + 1 := ⟨m - 1, by omega⟩
      have e : i = ds.length := by omega
      subst e
      refine ⟨acc, s, ?_, ha, hP⟩
      unfold lcLoop
      rw [hg _ _ _ hP, List.getElem?_eq_none (Nat.le_refl _)]
    | succ n ih =>
      intro i acc s hi ha hP m hm
      obtain ⟨m, rfl⟩ : ∃ j, m = j + 1 := ⟨m - 1, by omega⟩
      have hl : i < ds.length := by omega
      have hd : ds[i]? = some ds[i] := List.getElem?_eq_getElem hl
      obtain ⟨env1, e1, e2, y, s3, e3, e4, hP'⟩ := hp i ds[i] acc s hd ha hP
      obtain ⟨acc', s', q, hl', hP2⟩ := ih (i + 1) (acc ++ [y]) _ (by omega) (by simp [ha]) hP' m (by omega)
      refine ⟨acc', s', ?_, hl', hP2⟩
      unfold lcLoop
      rw [hg _ _ _ hP, hd]
      have pa : pushAt st1.length y s3 = some (s3.set st1.length (false, .lst (acc ++ [y]))) := by
        unfold pushAt
        rw [e4]
        simp only
        rw [if_pos (by omega)]
      simp only [e1, e2, if_true, e3, pa]
      exact q
  unfold evLc
  rw [hs]
  exact key ds.length 0 [] _ (by omega) rfl h0 fuelF (by
    have : sizeLine ≤ 16777216 := by decide
    unfold fuelF; omega)
/-! ### signs -/
abbrev signs : Str := "abcdefghijklmnopqrstuvwxyz0123456789"
def AL : List Nat := [97, 98, 99, 100, 101, 102, 103, 104, 105, 106, 107, 108, 109, 110, 111, 112, 113, 114, 115, 116, 117, 118, 119, 120, 121, 122, 48, 49, 50, 51, 52, 53, 54, 55, 56, 57]
def SM : List Nat := AL.take 26
theorem signs_cps : signs.cps.toList = AL := by decide +kernel
theorem sign_at {k : Int} (h0 : 0 ≤ k) (h1 : k < 36) (st : Store) : ∃ c, subscD (.str signs) (.int k) st = some (.str (sign1 c), st) ∧ AL[k.toNat]? = some c := by
  have hl : k.toNat < AL.length := by show k.toNat < 36; omega
  refine ⟨AL[k.toNat], ?_, List.getElem?_eq_getElem hl⟩
  unfold subscD ixD
  have e : L2.atI signs.cps.toList k = some AL[k.toNat] := by
    rw [signs_cps]
    unfold L2.atI L2.ixN
    rw [if_pos h0, if_pos (by show k < 36; omega)]
    exact List.getElem?_eq_getElem hl
  have hs : signs.length ≤ sizeLine := by decide +kernel
  simp [hs, e]
/-- a name: its signs -/
structure Nm (s : Str) : Prop where
  len : 1 ≤ s.cps.toList.length ∧ s.cps.toList.length ≤ 12
  hd : ∃ c t, s.cps.toList = c :: t ∧ c ∈ SM
  al : ∀ c ∈ s.cps.toList, c ∈ AL
theorem cps_app (a b : Str) : (a ++ b).cps.toList = a.cps.toList ++ b.cps.toList := by
  have e : (a ++ b).cps = a.cps ++ b.cps := rfl
  rw [e, Array.toList_append]
theorem len_cps (a : Str) : a.length = a.cps.toList.length := rfl
theorem cps_sign (c : Nat) : (sign1 c).cps.toList = [c] := rfl
/-! ### texts compared -/
theorem Nm.tok {s : Str} (h : Nm s) : TOk s := fun c hc => by
  have := h.al c hc
  have key : ∀ x ∈ AL, x < 1114112 := by decide
  exact key c this
theorem neX_strs {a b : Str} (ha : TOk a) (hb : TOk b) (S : Store) : neX (.str a) (.str b) S = some (.bl (decide (a ≠ b)), S) := by
  unfold neX neD
  rw [show empD S (.str a) (.str b) = none from rfl]
  simp only [rd_str ha, rd_str hb]
  have : PyData.eqv (.str a) (.str b) = decide (a = b) := by
    simp only [PyData.eqv]
    by_cases c : a = b
    · subst c; simp
    · simp [c]
  rw [this]
  by_cases c : a = b <;> simp [c]
theorem eqX_strs {a b : Str} (ha : TOk a) (hb : TOk b) (S : Store) : eqX (.str a) (.str b) S = some (.bl (decide (a = b)), S) := by
  unfold eqX eqD
  rw [show empD S (.str a) (.str b) = none from rfl]
  simp only [rd_str ha, rd_str hb]
  have : PyData.eqv (.str a) (.str b) = decide (a = b) := by
    simp only [PyData.eqv]
    by_cases c : a = b
    · subst c; simp
    · simp [c]
  rw [this]
/-- ascending by their signs -/
def Lt (a b : Str) : Prop := a.cps.toList < b.cps.toList
theorem Lt.ne {a b : Str} (h : Lt a b) : a ≠ b := fun z => by
  subst z
  exact List.lt_irrefl _ h
theorem ltD_strs {a b : Str} (ha : TOk a) (hb : TOk b) (S : Store) : ltD (.str a) (.str b) S = some (.bl (decide (a.cps.toList < b.cps.toList)), S) := by
  unfold ltD
  simp only [rd_str ha, rd_str hb]
  rw [if_pos (by unfold ordOk; simp [PySem.W.alike]), PySem.W.dataLt_str]
/-! ### counted by a dict -/
abbrev fT (s : Str) : D × D := (.str s, .bl true)
theorem keq_str (a b : Str) : keq (.str a) (.str b) = decide (a = b) := by
  unfold keq PP.keyOf
  simp
def adds (ks : List Str) : List Str → List Str
  | [] => ks
  | s :: ss => adds (if s ∈ ks then ks else ks ++ [s]) ss
theorem dput_str (ks : List Str) (s : Str) : dput (ks.map fT) (.str s) (.bl true) = (if s ∈ ks then ks else ks ++ [s]).map fT := by
  unfold dput
  have e1 : ((ks.map fT).any fun p => keq p.1 (.str s)) = decide (s ∈ ks) := by
    rw [List.any_map]
    have : ((fun p : D × D => keq p.1 (.str s)) ∘ fT) = fun x => decide (x = s) := by
      funext x
      exact keq_str x s
    rw [this]
    induction ks with
    | nil => rfl
    | cons k ks ih =>
      rw [List.any_cons, ih]
      by_cases c : s = k
      · simp [c]
      · have : ¬ k = s := fun z => c z.symm
        simp [c, this]
  rw [e1]
  by_cases c : s ∈ ks
  · rw [if_pos (decide_eq_true c), if_pos c, List.map_map]
    refine List.map_congr_left fun x hx => ?_
    show (if keq (.str x) (.str s) = true then (D.str x, D.bl true) else fT x) = fT x
    split <;> rfl
  · rw [if_neg (by simpa using c), if_neg c, List.map_append]
    rfl
theorem putAll_str : ∀ (ss ks : List Str), putAll (ks.map fT) (ss.map fT) = (adds ks ss).map fT
  | [], ks => rfl
  | s :: ss, ks => by
    show putAll (dput (ks.map fT) (.str s) (.bl true)) (ss.map fT) = _
    rw [dput_str, putAll_str]
    rfl
theorem adds_len : ∀ (ss ks : List Str), (adds ks ss).length ≤ ks.length + ss.length
  | [], ks => Nat.le_refl _
  | s :: ss, ks => by
    rw [adds]
    have := adds_len ss (if s ∈ ks then ks else ks ++ [s])
    have l : (if s ∈ ks then ks else ks ++ [s]).length ≤ ks.length + 1 := by split <;> simp
    simp only [List.length_cons]
    omega
theorem adds_nodup : ∀ (ss ks : List Str), ks.Nodup → (adds ks ss).length = ks.length + ss.length → (ks ++ ss).Nodup
  | [], ks, h, _ => by simpa using h
  | s :: ss, ks, h, e => by
    rw [adds] at e
    by_cases c : s ∈ ks
    · rw [if_pos c] at e
      have := adds_len ss ks
      simp only [List.length_cons] at e
      omega
    · rw [if_neg c] at e
      have nd : (ks ++ [s]).Nodup := by
        rw [List.nodup_append]
        refine ⟨h, by simp, fun a ha b hb z => ?_⟩
        rw [List.mem_singleton.mp hb] at z
        exact c (z ▸ ha)
      have := adds_nodup ss (ks ++ [s]) nd (by rw [e]; simp; omega)
      simpa using this
theorem pairs_str : ∀ ss : List Str, pairsD (ss.map fun s => D.tup false [.str s, .bl true]) = some (ss.map fT)
  | [] => rfl
  | s :: ss => by
    rw [List.map_cons, pairsD, pairs_str ss]
    rfl
/-! ### sorted -/
def upn (ss : List Str) : List Str := ss.mergeSort fun a b => decide (a.cps.toList ≤ b.cps.toList)
theorem sorted_strs (st : Store) {ss : List Str} (h : ∀ s ∈ ss, TOk s) : sortedL st (ss.map D.str) = some ((upn ss).map D.str) := by
  have e : (ss.map D.str).map (rdP st) = ss.map fun x => some (PyData.str x) := by
    rw [List.map_map]
    exact List.map_congr_left fun s hs => rd_str (h s hs) st
  have b : sortB (ss.map PyData.str) = true := by
    unfold sortB allAlike
    rw [Bool.and_eq_true]
    refine ⟨List.all_eq_true.mpr fun x hx => List.all_eq_true.mpr fun y hy => ?_, ?_⟩
    · obtain ⟨i, _, rfl⟩ := List.mem_map.mp hx
      obtain ⟨j, _, rfl⟩ := List.mem_map.mp hy
      simp [PySem.W.alike]
    · rw [Bool.or_eq_true]
      refine .inr (List.all_eq_true.mpr fun x hx => ?_)
      obtain ⟨i, _, rfl⟩ := List.mem_map.mp hx
      rfl
  unfold sortedL
  rw [e, optAll_some PyData.str]
  simp only
  rw [if_pos b]
  congr 1
  unfold upn
  refine (List.map_mergeSort fun i hi j hj => ?_).symm
  have e1 := rd_str (h i hi) st
  have e2 := rd_str (h j hj) st
  have := congrFun (congrFun (PySem.W.dataLe_str (fun k : Str => k)) i) j
  rw [← this]
  unfold PP.encD PySem.W.dataLe PySem.W.sortLe
  simp only [e1, e2, Option.getD_some]
theorem upn_perm (ss : List Str) : (upn ss).Perm ss := List.mergeSort_perm _ _
theorem upn_lt {ss : List Str} (h : ss.Nodup) : (upn ss).Pairwise Lt := by
  have p : (upn ss).Pairwise fun a b => decide (a.cps.toList ≤ b.cps.toList) = true := by
    refine List.pairwise_mergeSort (fun a b c h1 h2 => ?_) (fun a b => ?_) ss
    · exact decide_eq_true (List.le_trans (of_decide_eq_true h1) (of_decide_eq_true h2))
    · rcases List.le_total a.cps.toList b.cps.toList with z | z
      · simp [z]
      · simp [z]
  have nd : (upn ss).Nodup := (upn_perm ss).symm.nodup h
  have both := p.and nd
  refine both.imp fun {a b} ⟨h1, h2⟩ => ?_
  have le := of_decide_eq_true h1
  by_cases z : a.cps.toList < b.cps.toList
  · exact z
  · have z : a.cps.toList = b.cps.toList := List.le_antisymm le (List.not_lt.mp z)
    exact absurd (show a = b by
      cases a; cases b
      simp only at z
      congr
      exact Array.toList_inj.mp z) h2
end WA
set_option Elab.async false
set_option linter.all false
set_option maxRecDepth 100000
set_option maxHeartbeats 1000000
/-! WB: the names of a web, drawn. -/
namespace WB
open PySem PySem.Spec PyProof.Rows L2 PP MA EV FB FC FD FE FF FG FH FI FJ FJ2 FK N1 FL WA G07
variable [Tbl]
theorem Gr.mono {n m : Nat} {S0 S : Store} {lp r : Nat} {xs : List D} (g : Gr n S0 S lp r xs) (h : m ≤ n) : Gr m S0 S lp r xs := ⟨g.pen.mono h, g.at_, g.new, g.len, g.old, g.lp1⟩
theorem gr_new {n : Nat} {S0 S : Store} {lp : Nat} {xs : List D} (p : Pen n S lp) (k : Kp lp S0 S) (h : lp + 1 < S0.length) : Gr n S0 (S ++ [(false, .lst xs)]) lp S.length xs :=
  ⟨p.app _, at_end S [] _, k.len, by rw [List.length_append]; have := k.len; omega, fun l hl hn => by
    rw [List.getElem?_append_left (Nat.lt_of_lt_of_le hl k.len)]
    exact k.at_ l hl hn, h⟩
/-! ### signs put together -/
theorem join_signs : ∀ cs : List Nat, (PySem.Str.join (Str.ofString "") (cs.map sign1)).cps.toList = cs
  | [] => rfl
  | [c] => rfl
  | c :: d :: cs => by
    have := join_signs (d :: cs)
    show (sign1 c ++ Str.ofString "" ++ PySem.Str.join (Str.ofString "") ((d :: cs).map sign1)).cps.toList = _
    rw [cps_app, cps_app, this]
    rfl
theorem strs_signs : ∀ cs : List Nat, strsD (cs.map fun c => D.str (sign1 c)) = some (cs.map sign1)
  | [] => rfl
  | c :: cs => by
    rw [List.map_cons, strsD, strs_signs cs]
    rfl
theorem join_run {S : Store} {l : Nat} {cs : List Nat} (e : S[l]? = some (false, .lst (cs.map fun c => D.str (sign1 c)))) (h : cs.length ≤ 100) : ∃ s : Str, joinM (.str (Str.ofString "")) [.ref l] S = some (.str s, S) ∧ s.cps.toList = cs := by
  refine ⟨Txt.join (Str.ofString "") (cs.map sign1), ?_, ?_⟩
  · unfold joinM
    have sq : (seqD S (.ref l)).bind strsD = some (cs.map sign1) := by
      unfold seqD
      simp only [e]
      exact strs_signs cs
    simp only [sq]
    rw [if_pos]
    rw [List.map_map, List.length_map]
    have e1 : (cs.map ((fun s : Str => s.length) ∘ sign1)).sum = cs.length := by
      clear sq e h
      induction cs with
      | nil => rfl
      | cons c cs ih =>
        rw [List.map_cons, List.sum_cons, ih]
        show 1 + cs.length = cs.length + 1
        omega
    have e0 : (Str.ofString "").length = 0 := by decide
    rw [e1, e0]
    omega
  · show (Builtin.Str.glued (Str.ofString "") (cs.map sign1)).cps.toList = cs
    rw [StrLaws.glued_eq_join]
    exact join_signs cs
/-! ### the tail of a name -/
abbrev tailB : Ev D := (evM isStr joinM (evC (.str "")) (evCons (evLc (evRg1 (evCons (evCall g__law_pick (evCons (evVar 0) (evCons (evL mkLst (evCons (evC (.int 0)) (evCons (evC (.int 0)) (evCons (evC (.int 1)) (evCons (evC (.int 3)) (evCons (evC (.int 9)) evNil)))))) evNil))) evNil)) (tgN 8) [8] tyes (ev2 subscD (evVar 5) (evCall g__law_draw (evCons (evVar 0) (evCons (evC (.int 36)) evNil))))) evNil))
theorem tail_run {n : Nat} {S : Store} {lp : Nat} {env : EnvD} (g0 : G env 0 (.ref lp)) (g5 : G env 5 (.str signs)) (el : env.length = 9) (hp : Pen (n + 10) S lp) :
    ∃ (s : Str) (S' : Store), tailB env S = .ok (.str s) S' ∧ s.cps.toList.length ≤ 9 ∧ (∀ c ∈ s.cps.toList, c ∈ AL) ∧ Pen n S' lp ∧ Kp lp S S' := by
  have lp1 := hp.lt1
  obtain ⟨d, S1, q1, m1, p1, k1⟩ := pick_new (n := n + 9) (ds := [.int 0, .int 0, .int 1, .int 3, .int 9]) hp (by simp) (by simp)
  obtain ⟨j, rfl, j1⟩ : ∃ j : Nat, d = .int j ∧ j ≤ 9 := by
    simp only [List.mem_cons, List.not_mem_nil, or_false] at m1
    rcases m1 with rfl | rfl | rfl | rfl | rfl
    · exact ⟨0, rfl, by omega⟩
    · exact ⟨0, rfl, by omega⟩
    · exact ⟨1, rfl, by omega⟩
    · exact ⟨3, rfl, by omega⟩
    · exact ⟨9, rfl, by omega⟩
  have ml := mkLst_new (ds := [.int 0, .int 0, .int 1, .int 3, .int 9]) (S := S) (by simp)
  have rg : evRg1 (evCons (evCall g__law_pick (evCons (evVar 0) (evCons (evL mkLst (evCons (evC (.int 0)) (evCons (evC (.int 0)) (evCons (evC (.int 1)) (evCons (evC (.int 3)) (evCons (evC (.int 9)) evNil)))))) evNil))) evNil) env S = .ok (srcS (rangeL 0 j)) S1 := by
    refine rg_range j (by omega) ?_
    simp only [sSeq, sSet, sPar, sRet, sIf, sExpr, sNext, ofE, evCall, evL, evCons, evNil, ev1, ev2, evC, evVar, evIf, evTB, evT, evNot, tand, tor, tnot, Res.bind, Res.ofOpt, asB, List.getElem?_cons_zero, List.getElem?_cons_succ, List.set_cons_zero, List.set_cons_succ, Option.map_some, g0, ml, q1]
  obtain ⟨acc, s, q, hl, ⟨cs, rfl, hcs⟩, hg⟩ := lc_inv (src := evRg1 (evCons (evCall g__law_pick (evCons (evVar 0) (evCons (evL mkLst (evCons (evC (.int 0)) (evCons (evC (.int 0)) (evCons (evC (.int 1)) (evCons (evC (.int 3)) (evCons (evC (.int 9)) evNil)))))) evNil))) evNil)) (tg := tgN 8) (vs := [8]) (tt := tyes) (te := ev2 subscD (evVar 5) (evCall g__law_draw (evCons (evVar 0) (evCons (evC (.int 36)) evNil)))) (env := env) (st := S) (st1 := S1) (g := srcS (rangeL 0 j)) (rangeL 0 j)
    (fun i acc s => (∃ cs : List Nat, acc = cs.map (fun c => D.str (sign1 c)) ∧ ∀ c ∈ cs, c ∈ AL) ∧ (i ≤ 9 → Gr (n + (9 - i)) S s lp S1.length acc)) (by rw [len_range]; have := szl; omega) (by exact rg)
    ⟨⟨[], rfl, fun c hc => by cases hc⟩, fun _ => gr_new p1 k1 lp1⟩ (fun _ _ _ _ => rfl) (fun i d acc s hd ha hh => by
      obtain ⟨⟨cs, rfl, hcs⟩, hg⟩ := hh
      have hi : i < j := by
        have := (List.getElem?_eq_some_iff.mp hd).1
        rw [len_range] at this
        exact this
      have gi := hg (by omega)
      obtain ⟨x, s3, q3, x0, x1, p3, k3⟩ := draw (n := n + (9 - (i + 1))) (many := 36) (gi.pen.mono (by omega)) (by omega) (by omega)
      obtain ⟨c, qc, hc⟩ := sign_at x0 x1 s3
      have gs := gi.step p3 k3
      refine ⟨(wipeD env [8]).set 8 (some d), rfl, rfl, .str (sign1 c), s3, ?_, gs.at_, ⟨cs ++ [c], by rw [List.map_append]; rfl, fun y hy => ?_⟩, fun _ => gs.set _⟩
      · have w0 : G ((wipeD env [8]).set 8 (some d)) 0 (.ref lp) := g_ne (g_ne g0 (by decide)) (by decide)
        have w5 : G ((wipeD env [8]).set 8 (some d)) 5 (.str signs) := g_ne (g_ne g5 (by decide)) (by decide)
        simp only [sSeq, sSet, sPar, sRet, sIf, sExpr, sNext, ofE, evCall, evL, evCons, evNil, ev1, ev2, evC, evVar, evIf, evTB, evT, evNot, tand, tor, tnot, Res.bind, Res.ofOpt, asB, List.getElem?_cons_zero, List.getElem?_cons_succ, List.set_cons_zero, List.set_cons_succ, Option.map_some, w0, w5, q3, qc]
      · rcases List.mem_append.mp hy with z | z
        · exact hcs y z
        · rw [List.mem_singleton.mp z]; exact List.mem_of_getElem? hc)
  rw [len_range, List.length_map] at hl
  have gN := hg (by rw [len_range]; omega)
  obtain ⟨t, qt, et⟩ := join_run gN.at_ (by omega)
  refine ⟨t, s, ?_, by rw [et]; omega, by rw [et]; exact hcs, gN.pen.mono (by omega), gN.kp⟩
  unfold tailB evM
  simp only [evC, Res.bind, isStr, if_true, evCons, evNil, q, qt, Res.ofOpt]
end WB
set_option Elab.async false
set_option linter.all false
set_option maxRecDepth 100000
set_option maxHeartbeats 1000000
/-! WC: the names of a web, drawn: whole. -/
namespace WC
open PySem PySem.Spec PyProof.Rows L2 PP MA EV FB FC FD FE FF FG FH FI FJ FJ2 FK N1 FL WA WB G07
variable [Tbl]
theorem add_str {a b : Str} (h : a.length + b.length ≤ 100) (st : Store) : addD (.str a) (.str b) st = some (.str (a ++ b), st) := by
  unfold addD
  simp only
  rw [if_pos (by have := szl; omega)]
theorem sm_al {c : Nat} (h : c ∈ SM) : c ∈ AL := List.mem_of_mem_take h
theorem sm_of {x : Int} {c : Nat} (h0 : 0 ≤ x) (h1 : x < 26) (h : AL[x.toNat]? = some c) : c ∈ SM := by
  unfold SM
  have : (AL.take 26)[x.toNat]? = some c := by
    rw [List.getElem?_take, if_pos (by omega)]
    exact h
  exact List.mem_of_getElem? this
theorem name_nm {c e : Nat} {t : Str} (hc : c ∈ SM) (he : e ∈ AL) (ht : ∀ x ∈ t.cps.toList, x ∈ AL) (hl : t.cps.toList.length ≤ 9) : Nm (sign1 c ++ t ++ sign1 e) := by
  have ec : (sign1 c ++ t ++ sign1 e).cps.toList = c :: (t.cps.toList ++ [e]) := by
    rw [cps_app, cps_app]
    rfl
  have hl' : t.cps.size ≤ 9 := hl
  refine ⟨by rw [ec]; simp; omega, ⟨c, _, ec, hc⟩, fun x hx => ?_⟩
  rw [ec] at hx
  rcases List.mem_cons.mp hx with rfl | z
  · exact sm_al hc
  · rcases List.mem_append.mp z with z | z
    · exact ht x z
    · rw [List.mem_singleton.mp z]; exact he
abbrev nameB : Ss := (sSeq (sSet 6 tailB)
 (sExpr (evM isLst appendM (evVar 3) (evCons (ev2 addD (ev2 addD (ev2 subscD (evVar 5) (evCall g__law_draw (evCons (evVar 0) (evCons (evC (.int 26)) evNil)))) (evVar 6)) (ev2 subscD (evVar 5) (evVar 2))) evNil))))
theorem name_lap {n : Nat} {S0 S : Store} {lp r : Nat} {xs : List D} {k : Int} {env : EnvD} (g0 : G env 0 (.ref lp)) (g2 : G env 2 (.int k)) (g3 : G env 3 (.ref r)) (g5 : G env 5 (.str signs)) (el : env.length = 9) (g : Gr (n + 11) S0 S lp r xs) (k0 : 0 ≤ k) (k1 : k < 26) (hx : xs.length < 1000) :
    ∃ (v6 : Option D) (S' : Store) (s : Str), nameB env S = .fl (.nx (env.set 6 v6)) S' ∧ Nm s ∧ Gr n S0 S' lp r (xs ++ [.str s]) := by
  obtain ⟨t, S1, q1, tl, ta, p1, kk1⟩ := tail_run (n := n + 1) g0 g5 el g.pen
  have ga := g.step p1 kk1
  have tl' : t.cps.size ≤ 9 := tl
  obtain ⟨x, S2, q2, x0, x1, p2, kk2⟩ := draw (n := n) (many := 26) p1 (by omega) (by omega)
  have gb := ga.step p2 kk2
  obtain ⟨c, qc, hc⟩ := sign_at x0 (by omega : x < 36) S2
  obtain ⟨e, qe, he⟩ := sign_at k0 (by omega : k < 36) S2
  have nm := name_nm (t := t) (sm_of x0 x1 hc) (List.mem_of_getElem? he) ta tl
  have a1 := add_str (a := sign1 c) (b := t) (by rw [len_cps, len_cps, cps_sign]; simp; omega) S2
  have a2 := add_str (a := sign1 c ++ t) (b := sign1 e) (by rw [len_cps, len_cps, cps_sign, cps_app, cps_sign]; simp; omega) S2
  refine ⟨some (.str t), S2.set r (false, .lst (xs ++ [.str (sign1 c ++ t ++ sign1 e)])), _, ?_, nm, gb.set _⟩
  unfold nameB
  rw [seq_nx (set_run q1)]
  have ap := append_at (v := .str (sign1 c ++ t ++ sign1 e)) gb.at_ hx
  have w0 : G (env.set 6 (some (.str t))) 0 (.ref lp) := g_ne g0 (by decide)
  have w2 : G (env.set 6 (some (.str t))) 2 (.int k) := g_ne g2 (by decide)
  have w3 : G (env.set 6 (some (.str t))) 3 (.ref r) := g_ne g3 (by decide)
  have w5 : G (env.set 6 (some (.str t))) 5 (.str signs) := g_ne g5 (by decide)
  have w6 : G (env.set 6 (some (.str t))) 6 (.str t) := g_eq (by omega)
  unfold evM
  simp only [sSeq, sSet, sPar, sRet, sIf, sExpr, sNext, ofE, evCall, evL, evCons, evNil, ev1, ev2, evC, evVar, evIf, evTB, evT, evNot, tand, tor, tnot, Res.bind, Res.ofOpt, asB, List.getElem?_cons_zero, List.getElem?_cons_succ, List.set_cons_zero, List.set_cons_succ, Option.map_some, w0, w2, w3, w5, w6, isLst_at ga.at_, if_true, q2, qc, a1, qe, a2, ap]
/-! ### none is called state -/
def fix (s : Str) : Str := if s ≠ "state" then s else "stat9"
def fixD : D → D
  | .str s => .str (fix s)
  | d => d
theorem fix_nm {s : Str} (h : Nm s) : Nm (fix s) := by
  unfold fix
  split
  · exact h
  · have e : ("stat9" : Str).cps.toList = [115, 116, 97, 116, 57] := by decide +kernel
    exact ⟨by rw [e]; decide, ⟨115, _, e, by decide⟩, by rw [e]; decide⟩
theorem fix_map (ns : List Str) : (((ns.map D.str).filter fun _ => true).map fixD) = (ns.map fix).map D.str := by
  rw [List.filter_eq_self.mpr (fun _ _ => rfl), List.map_map, List.map_map]
  rfl
abbrev fixL : Ev D := (evLc (evSrc (evVar 3)) (tgN 7) [7] tyes (evIf (evTB (ev2 neX (evVar 7) (evC (.str "state")))) (evVar 7) (evC (.str "stat9"))))
theorem src_ref {env : EnvD} {i l : Nat} {ds : List D} {S : Store} (g : G env i (.ref l)) (e : S[l]? = some (false, .lst ds)) : evSrc (evVar i) env S = .ok (srcL l) S := by
  unfold evSrc evVar
  rw [g]
  simp only [Res.bind, srcD, e, Option.map_some, Res.ofOpt]
theorem srcL_at {S s : Store} {l : Nat} {ds : List D} (e : S[l]? = some (false, .lst ds)) (x : Ext S s) (i : Nat) : srcL l i s = some ds[i]? := by
  unfold srcL
  rw [x.get e]
theorem fix_run {env : EnvD} {S : Store} {r : Nat} {ns : List Str} (g3 : G env 3 (.ref r)) (el : env.length = 9) (e : S[r]? = some (false, .lst (ns.map D.str))) (hn : ∀ s ∈ ns, Nm s) (hl : ns.length < 1000) :
    ∃ ex, fixL env S = .ok (.ref S.length) (S ++ (false, .lst ((ns.map fix).map D.str)) :: ex) := by
  have r := lc_run (src := evSrc (evVar 3)) (tg := tgN 7) (vs := [7]) (tt := tyes) (te := (evIf (evTB (ev2 neX (evVar 7) (evC (.str "state")))) (evVar 7) (evC (.str "stat9")))) (env := env) (st := S) (st1 := S) (g := srcL r) (ns.map D.str) (fun _ => true) fixD (by rw [List.length_map]; have := szl; omega) (src_ref g3 e) (fun s i x => srcL_at e x i) (fun d hd => by
    obtain ⟨s, hs, rfl⟩ := List.mem_map.mp hd
    refine ⟨(wipeD env [7]).set 7 (some (.str s)), rfl, Rpu.of_eq fun s _ => rfl, fun _ => Rpu.of_eq fun T _ => ?_⟩
    have w7 : G ((wipeD env [7]).set 7 (some (.str s))) 7 (.str s) := g_eq (by simp [wipeD, el])
    have ne := neX_strs (hn s hs).tok (tok_of "state") T
    show _ = Res.ok (D.str (fix s)) T
    unfold fix
    by_cases c : s ≠ Str.ofString "state"
    · rw [decide_eq_true c] at ne
      rw [if_pos c]
      simp only [sSeq, sSet, sPar, sRet, sIf, sExpr, sNext, ofE, evCall, evL, evCons, evNil, ev1, ev2, evC, evVar, evIf, evTB, evT, evNot, tand, tor, tnot, Res.bind, Res.ofOpt, asB, List.getElem?_cons_zero, List.getElem?_cons_succ, List.set_cons_zero, List.set_cons_succ, Option.map_some, w7, ne, if_true]
    · rw [decide_eq_false c] at ne
      rw [if_neg c]
      simp only [sSeq, sSet, sPar, sRet, sIf, sExpr, sNext, ofE, evCall, evL, evCons, evNil, ev1, ev2, evC, evVar, evIf, evTB, evT, evNot, tand, tor, tnot, Res.bind, Res.ofOpt, asB, List.getElem?_cons_zero, List.getElem?_cons_succ, List.set_cons_zero, List.set_cons_succ, Option.map_some, w7, ne, Bool.false_eq_true, if_false])
  rw [fix_map] at r
  exact r
/-! ### whether all are unlike -/
abbrev unB : Ev D := (ev2 eqX (evL lenD (evCons (evL dictD (evCons (evLc (evSrc (evVar 3)) (tgN 7) [7] tyes (evL mkTup (evCons (evVar 7) (evCons (evC (.bl true)) evNil)))) evNil)) evNil)) (evVar 1))
def tupD : D → D := fun d => .tup false [d, .bl true]
theorem un_run {env : EnvD} {S : Store} {r : Nat} {ns : List Str} {many : Int} (g1 : G env 1 (.int many)) (g3 : G env 3 (.ref r)) (el : env.length = 9) (e : S[r]? = some (false, .lst (ns.map D.str))) (hl : ns.length < 1000) :
    ∃ ex, unB env S = .ok (.bl (decide (((adds [] ns).length : Int) = many))) (S ++ ex) := by
  obtain ⟨x1, q⟩ := lc_run (src := evSrc (evVar 3)) (tg := tgN 7) (vs := [7]) (tt := tyes) (te := (evL mkTup (evCons (evVar 7) (evCons (evC (.bl true)) evNil)))) (env := env) (st := S) (st1 := S) (g := srcL r) (ns.map D.str) (fun _ => true) tupD (by rw [List.length_map]; have := szl; omega) (src_ref g3 e) (fun s i x => srcL_at e x i) (fun d hd => by
    obtain ⟨s, hs, rfl⟩ := List.mem_map.mp hd
    refine ⟨(wipeD env [7]).set 7 (some (.str s)), rfl, Rpu.of_eq fun s _ => rfl, fun _ => Rpu.of_eq fun T _ => ?_⟩
    have w7 : G ((wipeD env [7]).set 7 (some (.str s))) 7 (.str s) := g_eq (by simp [wipeD, el])
    have mt : mkTup [.str s, .bl true] T = some (.tup false [.str s, .bl true], T) := mkTup_ok (by simp)
    show _ = Res.ok (D.tup false [D.str s, D.bl true]) T
    simp only [sSeq, sSet, sPar, sRet, sIf, sExpr, sNext, ofE, evCall, evL, evCons, evNil, ev1, ev2, evC, evVar, evIf, evTB, evT, evNot, tand, tor, tnot, Res.bind, Res.ofOpt, asB, List.getElem?_cons_zero, List.getElem?_cons_succ, List.set_cons_zero, List.set_cons_succ, Option.map_some, w7, mt])
  have em : (((ns.map D.str).filter fun _ => true).map tupD) = ns.map fun s => D.tup false [.str s, .bl true] := by
    rw [List.filter_eq_self.mpr (fun _ _ => rfl), List.map_map]
    rfl
  rw [em] at q
  have dd : dictD [.ref S.length] (S ++ (false, .lst (ns.map fun s => D.tup false [.str s, .bl true])) :: x1) = some (.ref (S ++ (false, .lst (ns.map fun s => D.tup false [.str s, .bl true])) :: x1).length, S ++ (false, .lst (ns.map fun s => D.tup false [.str s, .bl true])) :: x1 ++ [(false, .dct ((adds [] ns).map WA.fT))]) := by
    unfold dictD
    simp only [at_end, pairs_str]
    have := putAll_str ns []
    rw [List.map_nil] at this
    rw [this]
    rfl
  have ln : ∀ (T : Store), lenD [.ref T.length] (T ++ [(false, .dct ((adds [] ns).map WA.fT))]) = some (.int (adds [] ns).length, T ++ [(false, .dct ((adds [] ns).map WA.fT))]) := fun T => by
    have ae := at_end T [] (false, Cell.dct ((adds [] ns).map WA.fT))
    have sq : seqD (T ++ [(false, .dct ((adds [] ns).map WA.fT))]) (.ref T.length) = none := by
      unfold seqD
      simp only [ae]
    have dk : dctK (T ++ [(false, .dct ((adds [] ns).map WA.fT))]) (.ref T.length) = some ((adds [] ns).map WA.fT) := by
      unfold dctK
      cases hk : adds [] ns with
      | nil => rw [hk] at ae; simp [ae]
      | cons s ss =>
        rw [hk] at ae
        rw [List.map_cons] at ae
        simp only [List.map_cons, ae]
        rfl
    unfold lenD
    simp only [sq, dk, List.length_map]
  refine ⟨(false, .lst (ns.map fun s => D.tup false [.str s, .bl true])) :: x1 ++ [(false, .dct ((adds [] ns).map WA.fT))], ?_⟩
  rw [← List.append_assoc]
  unfold unB
  simp only [sSeq, sSet, sPar, sRet, sIf, sExpr, sNext, ofE, evCall, evL, evCons, evNil, ev1, ev2, evC, evVar, evIf, evTB, evT, evNot, tand, tor, tnot, Res.bind, Res.ofOpt, asB, List.getElem?_cons_zero, List.getElem?_cons_succ, List.set_cons_zero, List.set_cons_succ, Option.map_some, q, dd, ln, g1, eqX_ii]
/-! ### other names -/
abbrev othL : Ev D := (evLc (evRg1 (evCons (evVar 1) evNil)) (tgN 2) [2] tyes (ev2 addD (evC (.str "n")) (ev2 subscD (evVar 5) (evVar 2))))
def oth (k : Nat) : Str := ⟨#[110, AL.getD k 97]⟩
theorem oth_nm {k : Nat} (h : k < 36) : Nm (oth k) := by
  have e : (oth k).cps.toList = [110, AL.getD k 97] := rfl
  refine ⟨by rw [e]; exact ⟨by show 1 ≤ 2; omega, by show 2 ≤ 12; omega⟩, ⟨110, _, e, by decide⟩, fun c hc => ?_⟩
  rw [e] at hc
  simp only [List.mem_cons, List.not_mem_nil, or_false] at hc
  rcases hc with rfl | rfl
  · decide
  · have hl : k < AL.length := h
    rw [List.getD_eq_getElem?_getD, List.getElem?_eq_getElem hl]
    exact List.getElem_mem hl
theorem oth_lt {k j : Nat} (h : k < j) (hj : j < 26) : Lt (oth k) (oth j) := by
  show [110, AL.getD k 97] < [110, AL.getD j 97]
  have key : ∀ j, j < 26 → ∀ k, k < j → AL.getD k 97 < AL.getD j 97 := by decide
  exact List.Lex.cons (List.Lex.rel (key j hj k h))
theorem oth_run {env : EnvD} {S : Store} {N : Nat} (g1 : G env 1 (.int N)) (g5 : G env 5 (.str signs)) (el : env.length = 9) (hN : N ≤ 26) :
    ∃ ex, othL env S = .ok (.ref S.length) (S ++ (false, .lst (((List.range N).map oth).map D.str)) :: ex) := by
  have rg : evRg1 (evCons (evVar 1) evNil) env S = .ok (srcS (rangeL 0 N)) S := by
    refine rg_range N (by omega) ?_
    simp only [sSeq, sSet, sPar, sRet, sIf, sExpr, sNext, ofE, evCall, evL, evCons, evNil, ev1, ev2, evC, evVar, evIf, evTB, evT, evNot, tand, tor, tnot, Res.bind, Res.ofOpt, asB, List.getElem?_cons_zero, List.getElem?_cons_succ, List.set_cons_zero, List.set_cons_succ, Option.map_some, g1]
  have q := lc_run (src := evRg1 (evCons (evVar 1) evNil)) (tg := tgN 2) (vs := [2]) (tt := tyes) (te := (ev2 addD (evC (.str "n")) (ev2 subscD (evVar 5) (evVar 2)))) (env := env) (st := S) (st1 := S) (g := srcS (rangeL 0 N)) (rangeL 0 N) (fun _ => true) (fun d => match d with | .int k => .str (oth k.toNat) | d => d) (by rw [len_range]; have := szl; omega) (by exact rg) (fun s i x => rfl) (fun d hd => by
    obtain ⟨i, hi⟩ := List.mem_iff_getElem?.mp hd
    have il : i < N := by
      have := (List.getElem?_eq_some_iff.mp hi).1
      rw [len_range] at this
      exact this
    have ed : d = .int i := by
      unfold rangeL at hi
      rw [List.getElem?_map, List.getElem?_range il] at hi
      have : D.int (0 + (i : Int)) = d := Option.some.inj hi
      rw [← this, Int.zero_add]
    subst ed
    refine ⟨(wipeD env [2]).set 2 (some (.int i)), rfl, Rpu.of_eq fun s _ => rfl, fun _ => Rpu.of_eq fun T _ => ?_⟩
    have w2 : G ((wipeD env [2]).set 2 (some (.int i))) 2 (.int i) := g_eq (by simp [wipeD, el])
    have w5 : G ((wipeD env [2]).set 2 (some (.int i))) 5 (.str signs) := g_ne (g_ne g5 (by decide)) (by decide)
    obtain ⟨c, qc, hc⟩ := sign_at (k := (i : Int)) (by omega) (by omega) T
    have ad := add_str (a := Str.ofString "n") (b := sign1 c) (by show 1 + 1 ≤ 100; omega) T
    have eo : Str.ofString "n" ++ sign1 c = oth i := by
      have : AL.getD i 97 = c := by
        rw [List.getD_eq_getElem?_getD]
        rw [Int.toNat_natCast] at hc
        rw [hc]; rfl
      unfold oth
      rw [this]
      rfl
    rw [eo] at ad
    simp only [sSeq, sSet, sPar, sRet, sIf, sExpr, sNext, ofE, evCall, evL, evCons, evNil, ev1, ev2, evC, evVar, evIf, evTB, evT, evNot, tand, tor, tnot, Res.bind, Res.ofOpt, asB, List.getElem?_cons_zero, List.getElem?_cons_succ, List.set_cons_zero, List.set_cons_succ, Option.map_some, w2, w5, qc, ad, Int.toNat_natCast])
  have em : (((rangeL 0 N).filter fun _ => true).map fun d : D => match d with | .int k => D.str (oth k.toNat) | d => d) = ((List.range N).map oth).map D.str := by
    rw [List.filter_eq_self.mpr (fun _ _ => rfl), List.map_map]
    refine List.ext_getElem? fun i => ?_
    unfold rangeL
    simp only [List.getElem?_map]
    by_cases c : i < N
    · simp [c]
    · simp [c]
  rw [em] at q
  exact q
theorem oth_all {N : Nat} (h : N ≤ 26) : (∀ s ∈ (List.range N).map oth, Nm s) ∧ ((List.range N).map oth).Pairwise Lt := by
  refine ⟨fun s hs => ?_, ?_⟩
  · obtain ⟨k, hk, rfl⟩ := List.mem_map.mp hs
    exact oth_nm (by have := List.mem_range.mp hk; omega)
  · rw [List.pairwise_map]
    refine (List.pairwise_lt_range (n := N)).imp_of_mem fun {a b} ha hb hab => ?_
    exact oth_lt hab (by have := List.mem_range.mp hb; omega)
end WC
set_option Elab.async false
set_option linter.all false
set_option maxRecDepth 100000
set_option maxHeartbeats 1000000
/-! WD: the names of a web. -/
namespace WD
open PySem PySem.Spec PyProof.Rows L2 PP MA EV FB FC FD FE FF FG FH FI FJ FJ2 FK N1 FL WA WB WC G07
variable [Tbl]
theorem kp_new {lp : Nat} {S S' T : Store} (k : Kp lp S S') (x : Ext S' T) : Kp lp S T := by
  obtain ⟨ex, rfl⟩ := x
  exact k.trans (Kp.app lp S' ex)
theorem gr_at {n : Nat} {S0 T : Store} {lp r : Nat} {xs : List D} (p : Pen n T lp) (k : Kp lp S0 T) (h : lp + 1 < S0.length) (e : T[r]? = some (false, .lst xs)) (hr : S0.length ≤ r) : Gr n S0 T lp r xs := ⟨p, e, hr, k.len, k.at_, h⟩
theorem law_names {n : Nat} {S : Store} {lp N : Nat} (hp : Pen (n + 11 * N) S lp) (hN : N ≤ 8) :
    ∃ (r : Nat) (ns : List Str) (S' : Store), g__law_names [.ref lp, .int N] S = .ok (.ref r) S' ∧ Gr n S S' lp r (ns.map D.str) ∧ ns.length = N ∧ (∀ s ∈ ns, Nm s) ∧ ns.Pairwise Lt := by
  have lp1 := hp.lt1
  have g0 : Gr (n + 11 * N) S (S ++ [(false, .lst [])]) lp S.length ([].map D.str) := gr_new hp (Kp.refl lp S) lp1
  have rg : evRg1 (evCons (evVar 1) evNil) [some (.ref lp), some (.int N), none, some (.ref S.length), none, some (.str signs), none, none, none] (S ++ [(false, .lst [])]) = .ok (srcS (rangeL 0 N)) (S ++ [(false, .lst [])]) := by
    refine rg_range N (by omega) ?_
    simp only [sSeq, sSet, sPar, sRet, sIf, sExpr, sNext, ofE, evCall, evL, evCons, evNil, ev1, ev2, evC, evVar, evIf, evTB, evT, evNot, tand, tor, tnot, Res.bind, Res.ofOpt, asB, List.getElem?_cons_zero, List.getElem?_cons_succ, List.set_cons_zero, List.set_cons_succ, Option.map_some]
  obtain ⟨E, T, q, h0, h1, h3, h5, hl, ns, hns, hnm, hg⟩ := sFor_inv (src := evRg1 (evCons (evVar 1) evNil)) (tg := tgN 2) (body := nameB)
    (env := [some (.ref lp), some (.int N), none, some (.ref S.length), none, some (.str signs), none, none, none]) (st := S ++ [(false, .lst [])]) (st1 := S ++ [(false, .lst [])]) (g := srcS (rangeL 0 N)) (rangeL 0 N)
    (fun i env st => G env 0 (.ref lp) ∧ G env 1 (.int N) ∧ G env 3 (.ref S.length) ∧ G env 5 (.str signs) ∧ env.length = 9 ∧ ∃ ns : List Str, ns.length = i ∧ (∀ s ∈ ns, Nm s) ∧ (i ≤ N → Gr (n + 11 * (N - i)) S st lp S.length (ns.map D.str))) (by rw [len_range]; have := szl; omega) (by exact rg)
    ⟨rfl, rfl, rfl, rfl, rfl, [], rfl, (fun s hs => by cases hs), fun _ => g0⟩ (fun _ _ _ _ => rfl) (fun i d env st hd hh => by
      obtain ⟨h0, h1, h3, h5, hl, ns, hns, hnm, hg⟩ := hh
      have hi : i < N := by
        have := (List.getElem?_eq_some_iff.mp hd).1
        rw [len_range] at this
        exact this
      have ed : d = .int i := by
        unfold rangeL at hd
        rw [List.getElem?_map, List.getElem?_range hi] at hd
        have : D.int (0 + (i : Int)) = d := Option.some.inj hd
        rw [← this, Int.zero_add]
      subst ed
      obtain ⟨v6, S', s, q, nm, g'⟩ := name_lap (n := n + 11 * (N - (i + 1))) (env := env.set 2 (some (.int i))) (k := (i : Int)) (r := S.length) (g_ne h0 (by decide)) (g_eq (by omega)) (g_ne h3 (by decide)) (g_ne h5 (by decide)) (by rw [List.length_set]; exact hl) (Gr.mono (hg (by omega)) (by omega)) (by omega) (by omega) (by rw [List.length_map]; omega)
      refine ⟨_, rfl, _, S', .inl q, g_ne (g_ne h0 (by decide)) (by decide), g_ne (g_ne h1 (by decide)) (by decide), g_ne (g_ne h3 (by decide)) (by decide), g_ne (g_ne h5 (by decide)) (by decide), by rw [List.length_set, List.length_set]; exact hl, ns ++ [s], by simp [hns], fun x hx => ?_, fun _ => by rw [List.map_append]; exact g'⟩
      rcases List.mem_append.mp hx with z | z
      · exact hnm x z
      · rw [List.mem_singleton.mp z]; exact nm)
  rw [len_range] at hns hg
  have gN := hg (Nat.le_refl _)
  rw [Nat.sub_self] at gN
  have gN : Gr n S T lp S.length (ns.map D.str) := Gr.mono gN (by omega)
  -- none is called state
  obtain ⟨x1, q1⟩ := fix_run h3 hl gN.at_ hnm (by omega)
  obtain ⟨E1, e1⟩ : ∃ E1, E.set 3 (some (.ref T.length)) = E1 := ⟨_, rfl⟩
  have a1 : G E1 1 (.int N) := by rw [← e1]; exact g_ne h1 (by decide)
  have a3 : G E1 3 (.ref T.length) := by rw [← e1]; exact g_eq (by omega)
  have a5 : G E1 5 (.str signs) := by rw [← e1]; exact g_ne h5 (by decide)
  have al : E1.length = 9 := by rw [← e1, List.length_set]; exact hl
  have fx : ∀ s ∈ ns.map fix, Nm s := fun s hs => by
    obtain ⟨y, hy, rfl⟩ := List.mem_map.mp hs
    exact fix_nm (hnm y hy)
  have at1 := at_end T x1 (false, Cell.lst ((ns.map fix).map D.str))
  have k1 : Kp lp S (T ++ (false, .lst ((ns.map fix).map D.str)) :: x1) := kp_new gN.kp ⟨_, rfl⟩
  have p1 : Pen n (T ++ (false, .lst ((ns.map fix).map D.str)) :: x1) lp := gN.pen.app _
  have nT : S.length ≤ T.length := gN.len
  generalize hU : T ++ (false, Cell.lst ((ns.map fix).map D.str)) :: x1 = U at q1 at1 k1 p1
  obtain ⟨x2, q2⟩ := un_run (many := (N : Int)) a1 a3 al at1 (by rw [List.length_map]; omega)
  have l2 : (ns.map fix).length = N := by rw [List.length_map]; exact hns
  -- what is given back
  have run : ∀ {res : D} {V : Store}, (evIf (evT (evVar 4)) (evL sortedD (evCons (evVar 3) evNil)) othL) (E1.set 4 (some (.bl (decide (((adds [] (ns.map fix)).length : Int) = N))))) (U ++ x2) = .ok res V → g__law_names [.ref lp, .int N] S = .ok res V := fun {res V} h => by
    refine run_rt (n := 9) ?_
    show b__law_names [some (.ref lp), some (.int N), none, none, none, none, none, none, none] S = _
    unfold b__law_names
    rw [seq_nx (show sTg (tgT 2 (tgsCons (tgN 5) (tgsCons (tgN 3) tgsNil))) (evL mkTup (evCons (evC (.str "abcdefghijklmnopqrstuvwxyz0123456789")) (evCons (evL mkLst evNil) evNil))) [some (.ref lp), some (.int N), none, none, none, none, none, none, none] S = .fl (.nx [some (.ref lp), some (.int N), none, some (.ref S.length), none, some (.str signs), none, none, none]) (S ++ [(false, .lst [])]) from rfl)]
    rw [seq_nx q, seq_nx (set_run q1), e1, seq_nx (set_run q2)]
    unfold sRet ofE
    rw [h]
  have b4 : G (E1.set 4 (some (.bl (decide (((adds [] (ns.map fix)).length : Int) = N))))) 4 (.bl (decide (((adds [] (ns.map fix)).length : Int) = N))) := g_eq (by omega)
  have b3 : G (E1.set 4 (some (.bl (decide (((adds [] (ns.map fix)).length : Int) = N))))) 3 (.ref T.length) := g_ne a3 (by decide)
  have b1 : G (E1.set 4 (some (.bl (decide (((adds [] (ns.map fix)).length : Int) = N))))) 1 (.int N) := g_ne a1 (by decide)
  have b5 : G (E1.set 4 (some (.bl (decide (((adds [] (ns.map fix)).length : Int) = N))))) 5 (.str signs) := g_ne a5 (by decide)
  by_cases c : ((adds [] (ns.map fix)).length : Int) = N
  · have nd : (ns.map fix).Nodup := by
      have := adds_nodup (ns.map fix) [] List.nodup_nil (by rw [l2]; simp; omega)
      simpa using this
    have so := sorted_strs (U ++ x2) (fun s hs => (fx s hs).tok)
    have at2 := app_at at1 x2
    have sd : sortedD [.ref T.length] (U ++ x2) = some (.ref (U ++ x2).length, U ++ x2 ++ [(false, .lst ((upn (ns.map fix)).map D.str))]) := by
      unfold sortedD lstD
      simp only [at2, so, Option.bind_some, newL]
    rw [decide_eq_true c] at b4 b3 run
    refine ⟨(U ++ x2).length, upn (ns.map fix), U ++ x2 ++ [(false, .lst ((upn (ns.map fix)).map D.str))], run ?_, gr_at ((p1.app x2).app _) (kp_new k1 ⟨_, List.append_assoc _ _ _⟩) lp1 (at_end (U ++ x2) [] _) ?_, ?_, fun s hs => fx s ((upn_perm _).mem_iff.mp hs), upn_lt nd⟩
    · have tr : ∀ s, truD (.bl true) s = some (true, s) := fun _ => rfl
      simp only [sSeq, sSet, sPar, sRet, sIf, sExpr, sNext, ofE, evCall, evL, evCons, evNil, ev1, ev2, evC, evVar, evIf, evTB, evT, evNot, tand, tor, tnot, Res.bind, Res.ofOpt, asB, List.getElem?_cons_zero, List.getElem?_cons_succ, List.set_cons_zero, List.set_cons_succ, Option.map_some, b4, b3, tr, if_true, sd]
    · have := k1.len
      rw [List.length_append]
      omega
    · rw [(upn_perm _).length_eq]; exact l2
  · rw [decide_eq_false c] at b4 b1 b5 run
    obtain ⟨x3, q3⟩ := oth_run (S := U ++ x2) b1 b5 (by rw [List.length_set]; exact al) (by omega)
    obtain ⟨o1, o2⟩ := oth_all (N := N) (by omega)
    refine ⟨(U ++ x2).length, (List.range N).map oth, U ++ x2 ++ (false, .lst (((List.range N).map oth).map D.str)) :: x3, run ?_, gr_at ((p1.app x2).app _) (kp_new k1 ⟨_, List.append_assoc _ _ _⟩) lp1 (at_end (U ++ x2) x3 _) ?_, by simp, o1, o2⟩
    · have tr : ∀ s, truD (.bl false) s = some (false, s) := fun _ => rfl
      unfold evIf evT
      simp only [evVar, b4, Res.bind, tr, Res.ofOpt, Bool.false_eq_true, if_false]
      exact q3
    · have := k1.len
      rw [List.length_append]
      omega
end WD
set_option Elab.async false
set_option linter.all false
set_option maxRecDepth 100000
set_option maxHeartbeats 1000000
/-! WE: rates that are drawn. -/
namespace WE
open PySem PySem.Spec PyProof.Rows L2 PP MA EV FB FC FD FE FF FG FH FI FJ FJ2 FK N1 FL WA WB WC WD G07
variable [Tbl]
variable {m : Int}
structure Rv (m : Int) (r : Raw) : Prop where
  o0 : 0 ≤ r.1
  o1 : r.1 < m
  t : r.2.1.natAbs ≤ 1000000
  b : r.2.2 = 1 ∨ r.2.2 = 2 ∨ r.2.2 = 3 ∨ r.2.2 = 5
theorem Rv.pos {r : Raw} (h : Rv m r) : 0 < r.2.2 := by rcases h.b with z | z | z | z <;> omega
theorem Rv.lat {r : Raw} (h : Rv m r) : Lat 420 420000000 (rq r).2 := by
  have p := h.pos
  have l := lat_div (t := r.2.1) (b := r.2.2) p
  obtain ⟨c, hc, h0, h1⟩ : ∃ c : Nat, r.2.2.toNat * c = 420 ∧ 0 < c ∧ c ≤ 420 := by
    rcases h.b with z | z | z | z <;> rw [z]
    · exact ⟨420, rfl, by omega, by omega⟩
    · exact ⟨210, rfl, by omega, by omega⟩
    · exact ⟨140, rfl, by omega, by omega⟩
    · exact ⟨84, rfl, by omega, by omega⟩
  have u := l.up c
  rw [hc] at u
  refine u.le ?_
  have t := h.t
  calc r.2.1.natAbs * c ≤ 1000000 * 420 := Nat.mul_le_mul t h1
    _ = 420000000 := rfl
theorem rv_sz {rs : List Raw} (h : ∀ r ∈ rs, Rv m r) {c : Nat} (hl : rs.length ≤ c) : Sz c 420 420000000 (rs.map rq) := by
  refine ⟨by simpa using hl, fun p hp => ?_, by omega⟩
  obtain ⟨r, hr, rfl⟩ := List.mem_map.mp hp
  exact (h r hr).lat
theorem from_rv {rs : List Raw} {v : D} {S : Store} (hw : Walks v S (rs.map rt)) (h : ∀ r ∈ rs, Rv m r) (hl : rs.length ≤ 100) : ∃ ex, g__law_worth_from [v] S = .ok (tms (tot (rs.map rq))) (S ++ ex) := by
  have s := rv_sz h hl
  have hs := szl
  refine worth_from hw (by omega) (fun r hr => ⟨(h r hr).pos, ?_, ?_⟩) (fun i j => ?_)
  · have p := (h r hr).b
    have : Bs 6 r.2.2 := by
      unfold Bs
      rcases p with z | z | z | z <;> rw [z] <;> decide
    exact this.mono (by omega)
  · exact Lat.ok (h r hr).lat (by omega) (small (show 420 < 2 ^ 9 by decide) (by omega)) (small b420 (by omega))
  · exact Lat.ok ((s.take i).cf j) (by omega) (small (show 420 < 2 ^ 9 by decide) (by omega)) (small (show 100 * 420000000 < 2 ^ 36 by decide) (by omega))
/-- a rate: a worth above 0 -/
structure Rt (m : Int) (a : W) : Prop where
  g : Good a
  k0 : ∀ p ∈ a, 0 ≤ p.1 ∧ p.1 < m
  sz : Sz 3 420 1260000000 a
  s1 : sgn a = 1
theorem rt_of {r : Raw} {rs : List Raw} (h : ∀ x ∈ r :: rs, Rv m x) (hl : rs.length ≤ 2) (ht : 0 < r.2.1) (hk : ∀ x ∈ rs, r.1 < x.1) : Rt m (tot ((r :: rs).map rq)) := by
  have key : ∀ p ∈ tot ((r :: rs).map rq), ∃ x ∈ r :: rs, x.1 = p.1 := fun p hp => by
    obtain ⟨x, hx, e⟩ := List.mem_map.mp (mem_tot hp).2
    obtain ⟨y, hy, rfl⟩ := List.mem_map.mp hx
    exact ⟨y, hy, e⟩
  have hr := h r List.mem_cons_self
  have pos : 0 < (rq r).2 := by
    show 0 < Rat.divInt r.2.1 r.2.2
    rw [Rat.divInt_eq_div, Rat.div_def]
    have a1 : (0 : Rat) < (r.2.1 : Rat) := by exact_mod_cast ht
    have a2 : (0 : Rat) < (r.2.2 : Rat) := by exact_mod_cast hr.pos
    exact Rat.mul_pos a1 (Rat.inv_pos.mpr a2)
  have z : ∀ m, m ≤ r.1 → cf (rs.map rq) m = 0 := fun m hm => cf_notin fun hmem => by
    obtain ⟨x, hx, e⟩ := List.mem_map.mp hmem
    obtain ⟨y, hy, rfl⟩ := List.mem_map.mp hx
    have := hk y hy
    have e' : y.1 = m := e
    omega
  have c1 : ∀ m, cf ((r :: rs).map rq) m = cf [rq r] m + cf (rs.map rq) m := fun m => cf_app [rq r] (rs.map rq) m
  have c2 : cf [rq r] r.1 = (rq r).2 := by
    have : cf [rq r] (rq r).1 = (rq r).2 := cf_mem (by simp) (by simp)
    exact this
  refine ⟨good_tot _, fun p hp => ?_, ?_, ?_⟩
  · obtain ⟨x, hx, e⟩ := key p hp
    rw [← e]; exact ⟨(h x hx).o0, (h x hx).o1⟩
  · exact (rv_sz h (c := 3) (by simp; omega)).tot
  · refine (good_tot ((r :: rs).map rq)).sg.uniq (.inr ⟨r.1, ?_, fun j hj => ?_, ?_⟩)
    · rw [cf_tot, c1, z _ (Int.le_refl _), c2]
      grind
    · rw [cf_tot, c1, z _ (by omega), cf_notin (by
        intro hm
        have : j = r.1 := List.mem_singleton.mp hm
        omega)]
      grind
    · rw [cf_tot, c1, z _ (Int.le_refl _), c2]
      unfold sgv
      rw [if_pos (by grind)]
/-! ### drawn -/
abbrev moreB : Ss := (sExpr (evM isLst appendM (evVar 4) (evCons (evL mkTup (evCons (ev2 addD (ev2 addD (evVar 2) (evC (.int 1))) (evCall g__law_draw (evCons (evVar 0) (evCons (evC (.int 3)) evNil)))) (evCons (ev2 mulD (evCall g__law_number (evCons (evVar 0) evNil)) (evCall g__law_pick (evCons (evVar 0) (evCons (evL mkLst (evCons (evC (.int 1)) (evCons (ev1 negD (evC (.int 1))) evNil))) evNil)))) (evCons (ev2 addD (evC (.int 1)) (evCall g__law_draw (evCons (evVar 0) (evCons (evC (.int 3)) evNil)))) evNil)))) evNil)))
theorem more_lap {n : Nat} {S0 S : Store} {lp r : Nat} {xs : List D} {k : Int} {env : EnvD} (g0 : G env 0 (.ref lp)) (g2 : G env 2 (.int k)) (g4 : G env 4 (.ref r)) (g : Gr (n + 5) S0 S lp r xs) (k0 : 0 ≤ k) (k1 : k + 3 < m) (hx : xs.length < 1000) :
    ∃ (S' : Store) (rr : Raw), moreB env S = .fl (.nx env) S' ∧ Rv m rr ∧ k < rr.1 ∧ Gr n S0 S' lp r (xs ++ [rt rr]) := by
  obtain ⟨x, S1, q1, x0, x1, p1, k1'⟩ := draw (n := n + 4) (many := 3) g.pen (by omega) (by omega)
  have ga := g.step p1 k1'
  obtain ⟨t, S2, q2, t0, t1, p2, k2'⟩ := law_number (n := n + 2) p1
  have gb := ga.step p2 k2'
  obtain ⟨v, S3, q3, m3, p3, k3'⟩ := pick_new (n := n + 1) (ds := [.int 1, .int (-1)]) p2 (by simp) (by simp)
  have gc := gb.step p3 k3'
  obtain ⟨s, rfl, hs⟩ : ∃ s : Int, v = .int s ∧ (s = 1 ∨ s = -1) := by
    simp only [List.mem_cons, List.not_mem_nil, or_false] at m3
    rcases m3 with rfl | rfl
    · exact ⟨1, rfl, .inl rfl⟩
    · exact ⟨-1, rfl, .inr rfl⟩
  obtain ⟨y, S4, q4, y0, y1, p4, k4'⟩ := draw (n := n) (many := 3) p3 (by omega) (by omega)
  have gd := gc.step p4 k4'
  have ml := mkLst_new (ds := [.int 1, .int (-1)]) (S := S2) (by simp)
  have bt : Bs 9000 t := bs_of (by omega) (by omega)
  have bs : Bs 9000 s := by
    have : Bs 1 s := by unfold Bs; rcases hs with rfl | rfl <;> decide
    exact this.mono (by omega)
  have mu := mulD_ii bt bs S3
  have mt : mkTup [.int (k + 1 + x), .int (t * s), .int (1 + y)] S4 = some (rt (k + 1 + x, t * s, 1 + y), S4) := mkTup_ok (by simp)
  have ap := append_at (v := rt (k + 1 + x, t * s, 1 + y)) gd.at_ hx
  have ng : ∀ s, negD (.int 1) s = some (.int (-1), s) := fun _ => rfl
  refine ⟨S4.set r (false, .lst (xs ++ [rt (k + 1 + x, t * s, 1 + y)])), (k + 1 + x, t * s, 1 + y), ?_, ⟨by show 0 ≤ k + 1 + x; omega, by show k + 1 + x < m; omega, ?_, by show 1 + y = 1 ∨ 1 + y = 2 ∨ 1 + y = 3 ∨ 1 + y = 5; omega⟩, by show k < k + 1 + x; omega, gd.set _⟩
  · unfold moreB evM
    simp only [sSeq, sSet, sPar, sRet, sIf, sExpr, sNext, ofE, evCall, evL, evCons, evNil, ev1, ev2, evC, evVar, evIf, evTB, evT, evNot, tand, tor, tnot, Res.bind, Res.ofOpt, asB, List.getElem?_cons_zero, List.getElem?_cons_succ, List.set_cons_zero, List.set_cons_succ, Option.map_some, g0, g2, g4, isLst_at g.at_, if_true, addD_ii, q1, q2, ng, ml, q3, mu, q4, mt, ap]
  · show (t * s).natAbs ≤ 1000000
    rw [Int.natAbs_mul]
    have : s.natAbs = 1 := by rcases hs with rfl | rfl <;> rfl
    rw [this]
    omega
theorem law_rate {n : Nat} {S : Store} {lp : Nat} {o : Int} (hp : Pen (n + 15) S lp) (o0 : 0 < o) (o1 : o + 3 ≤ m) (m1 : m ≤ 100) : ∃ a S', g__law_rate [.ref lp, .int o] S = .ok (tms a) S' ∧ Rt m a ∧ Pen n S' lp ∧ Kp lp S S' := by
  obtain ⟨k, S1, q1, k0, k1, p1, kk1⟩ := draw (n := n + 14) (many := o) hp o0 (by omega)
  obtain ⟨t, S2, q2, t0, t1, p2, kk2⟩ := law_number (n := n + 12) p1
  obtain ⟨v, S3, q3, m3, p3, kk3⟩ := pick_new (n := n + 11) (ds := [.int 1, .int 1, .int 1, .int 2, .int 5]) p2 (by simp) (by simp)
  obtain ⟨b, rfl, hb⟩ : ∃ b : Int, v = .int b ∧ (b = 1 ∨ b = 2 ∨ b = 3 ∨ b = 5) := by
    simp only [List.mem_cons, List.not_mem_nil, or_false] at m3
    rcases m3 with rfl | rfl | rfl | rfl | rfl <;> exact ⟨_, rfl, by omega⟩
  have ml := mkLst_new (ds := [.int 1, .int 1, .int 1, .int 2, .int 5]) (S := S2) (by simp)
  have mt : mkTup [.int k, .int t, .int b] S3 = some (rt (k, t, b), S3) := mkTup_ok (by simp)
  have ml1 := mkLst_new (ds := [rt (k, t, b)]) (S := S3) (by simp)
  have kk := (kk1.trans kk2).trans kk3
  -- the first term's list, then the others' list
  obtain ⟨T0, hT0⟩ : ∃ T0, S3 ++ [(false, Cell.lst [rt (k, t, b)])] = T0 := ⟨_, rfl⟩
  have e3 : T0[S3.length]? = some (false, .lst [rt (k, t, b)]) := by rw [← hT0]; exact at_end S3 [] _
  have pT : Pen (n + 11) T0 lp := by rw [← hT0]; exact p3.app _
  have kT : Kp lp S T0 := by rw [← hT0]; exact kk.trans (Kp.app lp S3 _)
  have n3 : S3.length < T0.length := lt_of_at e3
  have lp3 := p3.lt1
  have lpT := pT.lt1
  have g0 : Gr (n + 11) T0 (T0 ++ [(false, .lst [])]) lp T0.length ([].map rt) := gr_new pT (Kp.refl lp T0) lpT
  obtain ⟨w, T1, q4, m4, p4, k4⟩ := pick_new (n := n + 10) (ds := [.int 0, .int 0, .int 0, .int 1, .int 2]) g0.pen (by simp) (by simp)
  have g1 := g0.step p4 k4
  obtain ⟨N, rfl, hN⟩ : ∃ N : Nat, w = .int N ∧ N ≤ 2 := by
    simp only [List.mem_cons, List.not_mem_nil, or_false] at m4
    rcases m4 with rfl | rfl | rfl | rfl | rfl
    · exact ⟨0, rfl, by omega⟩
    · exact ⟨0, rfl, by omega⟩
    · exact ⟨0, rfl, by omega⟩
    · exact ⟨1, rfl, by omega⟩
    · exact ⟨2, rfl, by omega⟩
  have ml2 := mkLst_new (ds := [.int 0, .int 0, .int 0, .int 1, .int 2]) (S := T0 ++ [(false, .lst [])]) (by simp)
  have rg : evRg1 (evCons (evCall g__law_pick (evCons (evVar 0) (evCons (evL mkLst (evCons (evC (.int 0)) (evCons (evC (.int 0)) (evCons (evC (.int 0)) (evCons (evC (.int 1)) (evCons (evC (.int 2)) evNil)))))) evNil))) evNil) [some (.ref lp), some (.int o), some (.int k), some (.ref S3.length), some (.ref T0.length), none] (T0 ++ [(false, .lst [])]) = .ok (srcS (rangeL 0 N)) T1 := by
    refine rg_range N (by omega) ?_
    simp only [sSeq, sSet, sPar, sRet, sIf, sExpr, sNext, ofE, evCall, evL, evCons, evNil, ev1, ev2, evC, evVar, evIf, evTB, evT, evNot, tand, tor, tnot, Res.bind, Res.ofOpt, asB, List.getElem?_cons_zero, List.getElem?_cons_succ, List.set_cons_zero, List.set_cons_succ, Option.map_some, ml2, q4]
  obtain ⟨E, T2, q5, h0, h2, h3, h4, hl, rs, hrs, hrv, hg⟩ := sFor_inv (src := evRg1 (evCons (evCall g__law_pick (evCons (evVar 0) (evCons (evL mkLst (evCons (evC (.int 0)) (evCons (evC (.int 0)) (evCons (evC (.int 0)) (evCons (evC (.int 1)) (evCons (evC (.int 2)) evNil)))))) evNil))) evNil)) (tg := tgN 5) (body := moreB)
    (env := [some (.ref lp), some (.int o), some (.int k), some (.ref S3.length), some (.ref T0.length), none]) (st := T0 ++ [(false, .lst [])]) (st1 := T1) (g := srcS (rangeL 0 N)) (rangeL 0 N)
    (fun i env st => G env 0 (.ref lp) ∧ G env 2 (.int k) ∧ G env 3 (.ref S3.length) ∧ G env 4 (.ref T0.length) ∧ env.length = 6 ∧ ∃ rs : List Raw, rs.length = i ∧ (∀ x ∈ rs, Rv m x ∧ k < x.1) ∧ (i ≤ N → Gr (n + 5 * (N - i)) T0 st lp T0.length (rs.map rt))) (by rw [len_range]; have := szl; omega) (by exact rg)
    ⟨rfl, rfl, rfl, rfl, rfl, [], rfl, (fun x hx => by cases hx), fun _ => Gr.mono g1 (by omega)⟩ (fun _ _ _ _ => rfl) (fun i d env st hd hh => by
      obtain ⟨h0, h2, h3, h4, hl, rs, hrs, hrv, hg⟩ := hh
      have hi : i < N := by
        have := (List.getElem?_eq_some_iff.mp hd).1
        rw [len_range] at this
        exact this
      obtain ⟨S', rr, q, hv, hk, g'⟩ := more_lap (m := m) (n := n + 5 * (N - (i + 1))) (env := env.set 5 (some d)) (k := k) (g_ne h0 (by decide)) (g_ne h2 (by decide)) (g_ne h4 (by decide)) (Gr.mono (hg (by omega)) (by omega)) k0 (by omega) (by rw [List.length_map]; omega)
      refine ⟨_, rfl, _, S', .inl q, g_ne h0 (by decide), g_ne h2 (by decide), g_ne h3 (by decide), g_ne h4 (by decide), by rw [List.length_set]; exact hl, rs ++ [rr], by simp [hrs], fun x hx => ?_, fun _ => by rw [List.map_append]; exact g'⟩
      rcases List.mem_append.mp hx with z | z
      · exact hrv x z
      · rw [List.mem_singleton.mp z]; exact ⟨hv, hk⟩)
  rw [len_range] at hrs hg
  have gN := hg (Nat.le_refl _)
  have e3' : T2[S3.length]? = some (false, .lst [rt (k, t, b)]) := by
    rw [gN.old _ n3 (by omega)]
    exact e3
  have ad := addD_l e3' gN.at_ (by rw [List.length_map]; simp; omega)
  have em : [rt (k, t, b)] ++ rs.map rt = ((k, t, b) :: rs).map rt := rfl
  rw [em] at ad
  have rv1 : Rv m (k, t, b) := ⟨k0, by show k < m; omega, by show t.natAbs ≤ 1000000; omega, hb⟩
  have all : ∀ x ∈ (k, t, b) :: rs, Rv m x := fun x hx => by
    rcases List.mem_cons.mp hx with rfl | z
    · exact rv1
    · exact (hrv x z).1
  obtain ⟨ex, q6⟩ := from_rv (S := T2 ++ [(false, .lst (((k, t, b) :: rs).map rt))]) (.inr ⟨_, false, rfl, at_end T2 [] _⟩) all (by simp; omega)
  refine ⟨tot (((k, t, b) :: rs).map rq), T2 ++ [(false, .lst (((k, t, b) :: rs).map rt))] ++ ex, ?_, rt_of all (by omega) (by show 0 < t; omega) (fun x hx => (hrv x hx).2), (((gN.pen.mono (by omega)).app _).app _), (kT.trans gN.kp).trans ((Kp.app lp T2 _).trans (Kp.app lp _ _))⟩
  refine run_rt (n := 6) ?_
  show b__law_rate [some (.ref lp), some (.int o), none, none, none, none] S = _
  unfold b__law_rate
  rw [seq_nx (set_run (d := .int k) (S' := S1) (by simp only [sSeq, sSet, sPar, sRet, sIf, sExpr, sNext, ofE, evCall, evL, evCons, evNil, ev1, ev2, evC, evVar, evIf, evTB, evT, evNot, tand, tor, tnot, Res.bind, Res.ofOpt, asB, List.getElem?_cons_zero, List.getElem?_cons_succ, List.set_cons_zero, List.set_cons_succ, Option.map_some, q1]))]
  simp only [List.set_cons_zero, List.set_cons_succ]
  rw [seq_nx (set_run (d := .ref S3.length) (S' := T0) (by simp only [sSeq, sSet, sPar, sRet, sIf, sExpr, sNext, ofE, evCall, evL, evCons, evNil, ev1, ev2, evC, evVar, evIf, evTB, evT, evNot, tand, tor, tnot, Res.bind, Res.ofOpt, asB, List.getElem?_cons_zero, List.getElem?_cons_succ, List.set_cons_zero, List.set_cons_succ, Option.map_some, q2, ml, q3, mt, ml1, hT0]))]
  simp only [List.set_cons_zero, List.set_cons_succ]
  rw [seq_nx (e := [some (.ref lp), some (.int o), some (.int k), some (.ref S3.length), some (.ref T0.length), none]) (S' := T0 ++ [(false, .lst [])]) (by
    have m0 := mkLst_new (ds := []) (S := T0) (by simp)
    simp only [sSeq, sSet, sPar, sRet, sIf, sExpr, sNext, ofE, evCall, evL, evCons, evNil, ev1, ev2, evC, evVar, evIf, evTB, evT, evNot, tand, tor, tnot, Res.bind, Res.ofOpt, asB, List.getElem?_cons_zero, List.getElem?_cons_succ, List.set_cons_zero, List.set_cons_succ, Option.map_some, m0])]
  rw [seq_nx q5]
  simp only [sSeq, sSet, sPar, sRet, sIf, sExpr, sNext, ofE, evCall, evL, evCons, evNil, ev1, ev2, evC, evVar, evIf, evTB, evT, evNot, tand, tor, tnot, Res.bind, Res.ofOpt, asB, List.getElem?_cons_zero, List.getElem?_cons_succ, List.set_cons_zero, List.set_cons_succ, Option.map_some, h3, h4, ad, q6]
end WE
set_option Elab.async false
set_option linter.all false
set_option maxRecDepth 100000
set_option maxHeartbeats 1000000
/-! WF: webs that are drawn. -/
namespace WF
open PySem PySem.Spec PyProof.Rows L2 PP MA EV FB FC FD FE FF FG FH FI FJ FJ2 FK N1 FL WA WB WC WD WE G07
variable [Tbl]
variable {m : Int}
/-- a step: from where, its rate, to where -/
abbrev Stp := Str × W × Str
abbrev stD (x : Stp) : D := .tup false [.str x.1, tms x.2.1, .str x.2.2]
def PLt (x y : Stp) : Prop := Lt x.1 y.1 ∨ (x.1 = y.1 ∧ Lt x.2.2 y.2.2)
/-- a step of a web of these states -/
structure St (m : Int) (ns : List Str) (x : Stp) : Prop where
  m1 : x.1 ∈ ns
  m2 : x.2.2 ∈ ns
  ne : x.1 ≠ x.2.2
  rt : Rt m x.2.1
/-- where the steps so far lead from -/
def Dn (ns : List Str) (i j : Nat) (x : Stp) : Prop := (∃ p, p < i ∧ ns[p]? = some x.1) ∨ (ns[i]? = some x.1 ∧ ∃ q, q < j ∧ ns[q]? = some x.2.2)
structure Wb (m : Int) (ns : List Str) (i j : Nat) (xs : List Stp) : Prop where
  st : ∀ x ∈ xs, St m ns x
  dn : ∀ x ∈ xs, Dn ns i j x
  up : xs.Pairwise PLt
theorem Dn.mono {ns : List Str} {i j k : Nat} {x : Stp} (h : Dn ns i j x) (l : j ≤ k) : Dn ns i k x := by
  rcases h with h | ⟨h1, q, h2, h3⟩
  · exact .inl h
  · exact .inr ⟨h1, q, by omega, h3⟩
theorem Wb.mono {ns : List Str} {i j k : Nat} {xs : List Stp} (h : Wb m ns i j xs) (l : j ≤ k) : Wb m ns i k xs := ⟨h.st, fun x hx => (h.dn x hx).mono l, h.up⟩
theorem Wb.next {ns : List Str} {i j : Nat} {xs : List Stp} (h : Wb m ns i j xs) : Wb m ns (i + 1) 0 xs := ⟨h.st, fun x hx => by
  rcases h.dn x hx with ⟨p, h1, h2⟩ | ⟨h1, _⟩
  · exact .inl ⟨p, by omega, h2⟩
  · exact .inl ⟨i, by omega, h1⟩, h.up⟩
theorem lt_at {ns : List Str} (h : ns.Pairwise Lt) {p q : Nat} {a b : Str} (ha : ns[p]? = some a) (hb : ns[q]? = some b) (k : p < q) : Lt a b := by
  obtain ⟨h1, rfl⟩ := List.getElem?_eq_some_iff.mp ha
  obtain ⟨h2, rfl⟩ := List.getElem?_eq_some_iff.mp hb
  exact (List.pairwise_iff_getElem.mp h) p q h1 h2 k
theorem Wb.add {ns : List Str} {i j : Nat} {xs : List Stp} {a b : Str} {w : W} (h : Wb m ns i j xs) (u : ns.Pairwise Lt) (ha : ns[i]? = some a) (hb : ns[j]? = some b) (ne : a ≠ b) (r : Rt m w) : Wb m ns i (j + 1) (xs ++ [(a, w, b)]) := by
  refine ⟨fun x hx => ?_, fun x hx => ?_, ?_⟩
  · rcases List.mem_append.mp hx with z | z
    · exact h.st x z
    · rw [List.mem_singleton.mp z]
      exact ⟨List.mem_of_getElem? ha, List.mem_of_getElem? hb, ne, r⟩
  · rcases List.mem_append.mp hx with z | z
    · exact (h.dn x z).mono (by omega)
    · rw [List.mem_singleton.mp z]
      exact .inr ⟨ha, j, by omega, hb⟩
  · rw [List.pairwise_append]
    refine ⟨h.up, by simp, fun x hx y hy => ?_⟩
    rw [List.mem_singleton.mp hy]
    rcases h.dn x hx with ⟨p, h1, h2⟩ | ⟨h1, q, h2, h3⟩
    · exact .inl (lt_at u h2 ha h1)
    · have e : x.1 = a := Option.some.inj (h1.symm.trans ha)
      exact .inr ⟨e, lt_at u h3 hb h2⟩
/-! ### drawn -/
section
variable {n : Nat} {S0 : Store} {lp r rN : Nat} {ns : List Str} {share o : Int}
abbrev pairB : Ss := (sIf (tand (evTB (ev2 neX (evVar 5) (evVar 6))) (evTB (ev2 ltD (evCall g__law_draw (evCons (evVar 0) (evCons (evC (.int 8)) evNil))) (evVar 2))))
 (sExpr (evM isLst appendM (evVar 4) (evCons (evL mkTup (evCons (evVar 5) (evCons (evCall g__law_rate (evCons (evVar 0) (evCons (evVar 3) evNil))) (evCons (evVar 6) evNil)))) evNil)))
 sNext)
abbrev envW (lp rN r : Nat) (share o : Int) (x5 x6 : Option D) : EnvD := [some (.ref lp), some (.ref rN), some (.int share), some (.int o), some (.ref r), x5, x6]
theorem pair_lap {S : Store} {i j : Nat} {xs : List Stp} {a b : Str} (o0 : 0 < o) (o1 : o + 3 ≤ m) (m1 : m ≤ 100) (u : ns.Pairwise Lt) (nm : ∀ s ∈ ns, Nm s) (ha : ns[i]? = some a) (hb : ns[j]? = some b) (g : Gr (n + 16) S0 S lp r (xs.map stD)) (w : Wb m ns i j xs) (hx : xs.length < 1000) :
    ∃ xs' S', pairB (envW lp rN r share o (some (.str a)) (some (.str b))) S = .fl (.nx (envW lp rN r share o (some (.str a)) (some (.str b)))) S' ∧ Gr n S0 S' lp r (xs'.map stD) ∧ Wb m ns i (j + 1) xs' ∧ xs'.length ≤ xs.length + 1 := by
  have ne := neX_strs (nm a (List.mem_of_getElem? ha)).tok (nm b (List.mem_of_getElem? hb)).tok S
  by_cases c : a = b
  · have ne' : neX (.str a) (.str b) S = some (.bl false, S) := by rw [ne, decide_eq_false (by simpa using c)]
    refine ⟨xs, S, if_no ?_, Gr.mono g (by omega), w.mono (by omega), by omega⟩
    simp only [sSeq, sSet, sPar, sRet, sIf, sExpr, sNext, ofE, evCall, evL, evCons, evNil, ev1, ev2, evC, evVar, evIf, evTB, evT, evNot, tand, tor, tnot, Res.bind, Res.ofOpt, asB, List.getElem?_cons_zero, List.getElem?_cons_succ, List.set_cons_zero, List.set_cons_succ, Option.map_some, ne', Bool.false_eq_true, if_false]
  · have ne' : neX (.str a) (.str b) S = some (.bl true, S) := by rw [ne, decide_eq_true (by simpa using c)]
    obtain ⟨x, S1, q1, x0, x1, p1, k1⟩ := draw (n := n + 15) (many := 8) g.pen (by omega) (by omega)
    have ga := g.step p1 k1
    by_cases d : x < share
    · obtain ⟨v, S2, q2, hv, p2, k2⟩ := law_rate (n := n) p1 o0 o1 m1
      have gb := ga.step p2 k2
      have mt : mkTup [.str a, tms v, .str b] S2 = some (stD (a, v, b), S2) := mkTup_ok (by simp)
      have ap := append_at (v := stD (a, v, b)) gb.at_ (by rw [List.length_map]; exact hx)
      refine ⟨xs ++ [(a, v, b)], S2.set r (false, .lst (xs.map stD ++ [stD (a, v, b)])), ?_, by rw [List.map_append]; exact gb.set _, w.add u ha hb c hv, by simp⟩
      refine (if_then (S' := S1) ?_).trans ?_
      · simp only [sSeq, sSet, sPar, sRet, sIf, sExpr, sNext, ofE, evCall, evL, evCons, evNil, ev1, ev2, evC, evVar, evIf, evTB, evT, evNot, tand, tor, tnot, Res.bind, Res.ofOpt, asB, List.getElem?_cons_zero, List.getElem?_cons_succ, List.set_cons_zero, List.set_cons_succ, Option.map_some, ne', if_true, q1, ltD_ii, d, decide_true]
      · unfold evM
        simp only [sSeq, sSet, sPar, sRet, sIf, sExpr, sNext, ofE, evCall, evL, evCons, evNil, ev1, ev2, evC, evVar, evIf, evTB, evT, evNot, tand, tor, tnot, Res.bind, Res.ofOpt, asB, List.getElem?_cons_zero, List.getElem?_cons_succ, List.set_cons_zero, List.set_cons_succ, Option.map_some, isLst_at ga.at_, if_true, q2, mt, ap]
    · refine ⟨xs, S1, if_no ?_, Gr.mono ga (by omega), w.mono (by omega), by omega⟩
      simp only [sSeq, sSet, sPar, sRet, sIf, sExpr, sNext, ofE, evCall, evL, evCons, evNil, ev1, ev2, evC, evVar, evIf, evTB, evT, evNot, tand, tor, tnot, Res.bind, Res.ofOpt, asB, List.getElem?_cons_zero, List.getElem?_cons_succ, List.set_cons_zero, List.set_cons_succ, Option.map_some, ne', if_true, q1, ltD_ii, d, decide_false]
abbrev rowB : Ss := (sFor (evSrc (evVar 1)) (tgN 6) pairB)
theorem row_lap {S : Store} {i : Nat} {xs : List Stp} {a : Str} (x6 : Option D) (o0 : 0 < o) (o1 : o + 3 ≤ m) (m1 : m ≤ 100) (u : ns.Pairwise Lt) (nm : ∀ s ∈ ns, Nm s) (ha : ns[i]? = some a) (hN : S0[rN]? = some (false, .lst (ns.map D.str))) (rn : rN ≠ lp) (hn : ns.length ≤ 8) (g : Gr (n + 16 * ns.length) S0 S lp r (xs.map stD)) (w : Wb m ns i 0 xs) (hx : xs.length + 8 < 1000) :
    ∃ xs' y6 S', rowB (envW lp rN r share o (some (.str a)) x6) S = .fl (.nx (envW lp rN r share o (some (.str a)) y6)) S' ∧ Gr n S0 S' lp r (xs'.map stD) ∧ Wb m ns (i + 1) 0 xs' ∧ xs'.length ≤ xs.length + 8 := by
  have rl := lt_of_at hN
  have atN : ∀ {c : Nat} {T : Store} {ys : List D}, Gr c S0 T lp r ys → T[rN]? = some (false, .lst (ns.map D.str)) := fun g => by rw [g.old _ rl rn]; exact hN
  obtain ⟨E, T, q, y6, xs', rfl, gg, ww, hl⟩ := sFor_inv (src := evSrc (evVar 1)) (tg := tgN 6) (body := pairB) (env := envW lp rN r share o (some (.str a)) x6) (st := S) (st1 := S) (g := srcL rN) (ns.map D.str)
    (fun j env st => ∃ y6 xs', env = envW lp rN r share o (some (.str a)) y6 ∧ (j ≤ ns.length → Gr (n + 16 * (ns.length - j)) S0 st lp r (xs'.map stD)) ∧ Wb m ns i j xs' ∧ xs'.length ≤ xs.length + j ∧ st[rN]? = some (false, .lst (ns.map D.str))) (by rw [List.length_map]; have := szl; omega)
    (src_ref (i := 1) rfl (atN g)) ⟨x6, xs, rfl, fun _ => g, w, by omega, atN g⟩ (fun j env st hh => by
      obtain ⟨_, _, _, _, _, _, e⟩ := hh
      unfold srcL
      rw [e]) (fun j d env st hd hh => by
      obtain ⟨y6, xs', rfl, gg, ww, hl, e⟩ := hh
      rw [List.getElem?_map] at hd
      obtain ⟨b, hb, rfl⟩ := Option.map_eq_some_iff.mp hd
      have hj : j < ns.length := (List.getElem?_eq_some_iff.mp hb).1
      obtain ⟨xs2, S', q, g', w', l'⟩ := pair_lap (n := n + 16 * (ns.length - (j + 1))) (rN := rN) (share := share) (o := o) o0 o1 m1 u nm ha hb (Gr.mono (gg (by omega)) (by omega)) ww (by omega)
      exact ⟨_, rfl, _, S', .inl q, some (.str b), xs2, rfl, fun _ => g', w', by omega, atN g'⟩)
  rw [List.length_map] at gg ww hl
  have gN := gg (Nat.le_refl _)
  rw [Nat.sub_self] at gN
  exact ⟨xs', y6, T, q, Gr.mono gN (by omega), ww.next, by omega⟩
theorem tuple_ref {S : Store} {l : Nat} {ds : List D} (e : S[l]? = some (false, .lst ds)) : tupleD [.ref l] S = some (.tup false ds, S) := by
  unfold tupleD
  simp only [e]
abbrev webD (ns : List Str) (xs : List Stp) : D := .tup false [.tup false (ns.map D.str), .tup false (xs.map stD)]
/-- a drawn web -/
theorem law_web {S : Store} (o0 : 0 < o) (o1 : o + 3 ≤ m) (m1 : m ≤ 100) (u : ns.Pairwise Lt) (nm : ∀ s ∈ ns, Nm s) (hN : S[rN]? = some (false, .lst (ns.map D.str))) (rn : rN ≠ lp) (hn : ns.length ≤ 8) (hp : Pen (n + 1024) S lp) :
    ∃ xs S', g__law_web [.ref lp, .ref rN, .int share, .int o] S = .ok (webD ns xs) S' ∧ (∀ x ∈ xs, St m ns x) ∧ xs.Pairwise PLt ∧ xs.length ≤ 64 ∧ Pen n S' lp ∧ Kp lp S S' := by
  have lp1 := hp.lt1
  have g0 : Gr (n + 1024) S (S ++ [(false, .lst [])]) lp S.length ([].map stD) := gr_new hp (Kp.refl lp S) lp1
  have rl := lt_of_at hN
  have atN : ∀ {c : Nat} {T : Store} {ys : List D}, Gr c S T lp S.length ys → T[rN]? = some (false, .lst (ns.map D.str)) := fun g => by rw [g.old _ rl rn]; exact hN
  obtain ⟨E, T, q, x5, x6, xs, rfl, gg, ww, hl, eN⟩ := sFor_inv (src := evSrc (evVar 1)) (tg := tgN 5) (body := rowB) (env := envW lp rN S.length share o none none) (st := S ++ [(false, .lst [])]) (st1 := S ++ [(false, .lst [])]) (g := srcL rN) (ns.map D.str)
    (fun i env st => ∃ x5 x6 xs, env = envW lp rN S.length share o x5 x6 ∧ (i ≤ ns.length → Gr (n + 128 * (8 - i)) S st lp S.length (xs.map stD)) ∧ Wb m ns i 0 xs ∧ xs.length ≤ 8 * i ∧ st[rN]? = some (false, .lst (ns.map D.str))) (by rw [List.length_map]; have := szl; omega)
    (src_ref (i := 1) rfl (atN g0)) ⟨none, none, [], rfl, fun _ => g0, ⟨(fun x hx => by cases hx), (fun x hx => by cases hx), List.Pairwise.nil⟩, by simp, atN g0⟩ (fun i env st hh => by
      obtain ⟨_, _, _, _, _, _, _, e⟩ := hh
      unfold srcL
      rw [e]) (fun i d env st hd hh => by
      obtain ⟨x5, x6, xs, rfl, gg, ww, hl, e⟩ := hh
      rw [List.getElem?_map] at hd
      obtain ⟨a, ha, rfl⟩ := Option.map_eq_some_iff.mp hd
      have hi : i < ns.length := (List.getElem?_eq_some_iff.mp ha).1
      obtain ⟨xs2, y6, S', q, g', w', l'⟩ := row_lap (n := n + 128 * (8 - (i + 1))) (share := share) (o := o) x6 o0 o1 m1 u nm ha hN rn hn (Gr.mono (gg (by omega)) (by omega)) ww (by omega)
      exact ⟨_, rfl, _, S', .inl q, some (.str a), y6, xs2, rfl, fun _ => g', w', by omega, atN g'⟩)
  rw [List.length_map] at gg ww hl
  have gN := gg (Nat.le_refl _)
  refine ⟨xs, T, ?_, ww.st, ww.up, by omega, gN.pen.mono (by omega), gN.kp⟩
  refine run_rt (n := 7) ?_
  show b__law_web [some (.ref lp), some (.ref rN), some (.int share), some (.int o), none, none, none] S = _
  unfold b__law_web
  rw [seq_nx (e := envW lp rN S.length share o none none) (S' := S ++ [(false, .lst [])]) (by
    have m0 := mkLst_new (ds := []) (S := S) (by simp)
    simp only [sSeq, sSet, sPar, sRet, sIf, sExpr, sNext, ofE, evCall, evL, evCons, evNil, ev1, ev2, evC, evVar, evIf, evTB, evT, evNot, tand, tor, tnot, Res.bind, Res.ofOpt, asB, List.getElem?_cons_zero, List.getElem?_cons_succ, List.set_cons_zero, List.set_cons_succ, Option.map_some, m0])]
  rw [seq_nx q]
  have t1 := tuple_ref eN
  have t2 := tuple_ref gN.at_
  have mt : mkTup [.tup false (ns.map D.str), .tup false (xs.map stD)] T = some (webD ns xs, T) := mkTup_ok (by simp)
  simp only [sSeq, sSet, sPar, sRet, sIf, sExpr, sNext, ofE, evCall, evL, evCons, evNil, ev1, ev2, evC, evVar, evIf, evTB, evT, evNot, tand, tor, tnot, Res.bind, Res.ofOpt, asB, List.getElem?_cons_zero, List.getElem?_cons_succ, List.set_cons_zero, List.set_cons_succ, Option.map_some, t1, t2, mt]
end
end WF
set_option Elab.async false
set_option linter.all false
set_option maxRecDepth 100000
set_option maxHeartbeats 1000000
/-! WG: what is a name, a step, a web. -/
namespace WG
open PySem PySem.Spec PyProof.Rows L2 PP MA EV FB FC FD FE FF FG FH FI FJ FJ2 FK N1 FL WA WB WC WD WE WF G07
variable [Tbl]
variable {m : Int}
theorem pr_chain {f g : Op2} {a b c : Ev D} {env : EnvD} {S : Store} {x y w z : D} (h1 : Pr a env S x) (h2 : Pr b env S y) (h3 : Pr c env S w) (e1 : ∀ s, f x y s = some (.bl true, s)) (e2 : ∀ s, g y w s = some (z, s)) : Pr (evChain f g a b c) env S z := fun s k => by
  obtain ⟨x1, q1⟩ := h1 s k
  obtain ⟨x2, q2⟩ := h2 _ (k.app x1)
  obtain ⟨x3, q3⟩ := h3 _ ((k.app x1).app x2)
  refine ⟨x1 ++ x2 ++ x3, ?_⟩
  rw [← List.append_assoc, ← List.append_assoc]
  unfold evChain
  simp only [q1, q2, q3, Res.bind, e1, e2, Res.ofOpt, asB]
theorem leD_ii (a b : Int) (st : Store) : leD (.int a) (.int b) st = some (.bl (!decide (b < a)), st) := by
  unfold leD
  simp only [rd_int, ord_ii, PySem.W.dataLt_int, if_true]
theorem len_str {s : Str} (h : s.length ≤ 1000) (S : Store) : lenD [.str s] S = some (.int s.length, S) := by
  unfold lenD
  simp only
  rw [if_pos (by have := szl; omega)]
theorem at_str {s : Str} {c : Nat} {t : List Nat} (e : s.cps.toList = c :: t) (h : s.length ≤ 1000) (S : Store) : subscD (.str s) (.int 0) S = some (.str (sign1 c), S) := by
  unfold subscD ixD
  have a : L2.atI s.cps.toList 0 = some c := by
    rw [e]
    unfold L2.atI L2.ixN
    simp
  simp only [a, Option.map_some]
  rw [if_pos (by have := szl; omega)]
theorem in_small {c : Nat} (h : c ∈ SM) (S : Store) : inD true (.str (sign1 c)) (.str "abcdefghijklmnopqrstuvwxyz") S = some (.bl false, S) := by
  have key : ∀ c ∈ SM, occurs (sign1 c) "abcdefghijklmnopqrstuvwxyz" = true := by decide +kernel
  unfold inD dinD lookD inSD
  simp only [key c h, if_true, Bool.not_true]
theorem in_signs {c : Nat} (h : c ∈ AL) (S : Store) : inD false (.str (sign1 c)) (.str "abcdefghijklmnopqrstuvwxyz0123456789") S = some (.bl true, S) := by
  have key : ∀ c ∈ AL, occurs (sign1 c) "abcdefghijklmnopqrstuvwxyz0123456789" = true := by decide +kernel
  unfold inD dinD lookD inSD
  simp only [key c h, Bool.false_eq_true, if_false]
theorem src_str {f : Ev D} {env : EnvD} {st : Store} {z : Str} (h : Pr f env st (.str z)) (S : Store) (x : Ext st S) : ∃ g ex, evSrc f env S = .ok g (S ++ ex) ∧ ∀ S' i, Ext (S ++ ex) S' → g i S' = some (PP.signs z)[i]? := by
  obtain ⟨ex, q⟩ := h S x
  refine ⟨srcS (PP.signs z), ex, ?_, fun S' i _ => rfl⟩
  unfold evSrc
  rw [q]
  rfl
theorem is_name_ok {s : Str} (h : Nm s) (S : Store) : Pg g_is_name [.str s] S (.bl true) := by
  obtain ⟨c, t, e, hc⟩ := h.hd
  have l1 := h.len
  have hl : s.length = s.cps.toList.length := rfl
  have ls : s.length ≤ 1000 := by omega
  refine rps_if (b := false) (pr_tor (b := false) (b' := false) (pr_tnot (b := true) (pr_T (pr_isi (b := true) (pr_var rfl) (fun _ _ => rfl)) (po_bl _ _))) (fun _ => pr_tor (b := false) (b' := false) (pr_tnot (b := true) (pr_TB (pr_chain (x := .int 1) (y := .int s.length) (w := .int 12) pr_c (pr_L (pr1 (pr_var rfl)) (fun _ _ => len_str ls _)) pr_c (fun S => by rw [leD_ii, decide_eq_false (by omega)]; rfl) (fun S => by rw [leD_ii, decide_eq_false (by omega)]; rfl)))) (fun _ => pr_TB (pr_2 (pr_2 (pr_var rfl) pr_c (fun _ _ => at_str e ls _)) pr_c (fun _ _ => in_small hc _))))) (fun z => nomatch z) (fun _ => ?_)
  have a := pr_all (st := S) (src := evSrc (evVar 0)) (tg := tgN 1) (vs := [1]) (te := ev2 (inD false) (evVar 1) (evC (.str "abcdefghijklmnopqrstuvwxyz0123456789"))) (env := startD 2 [.str s]) (PP.signs s) (fun _ => true) (by
    unfold PP.signs
    rw [List.length_map]
    have := szl
    omega) (src_str (pr_var rfl)) (fun d hd => by
    obtain ⟨x, hx, rfl⟩ := List.mem_map.mp hd
    exact ⟨_, rfl, pr_2 (pr_var rfl) pr_c (fun _ _ => in_signs (h.al x hx) _)⟩)
  have e1 : (PP.signs s).all (fun _ => true) = true := by simp
  rw [e1] at a
  exact a
/-! ### steps -/
theorem rd_names {ns : List Str} (h : ∀ s ∈ ns, TOk s) (S : Store) : rdP S (.tup false (ns.map D.str)) = some (.tuple (ns.map PyData.str)) := by
  show (optAll ((ns.map D.str).map (toP S 29))).map PyData.tuple = _
  have : (ns.map D.str).map (toP S 29) = ns.map fun s => some (PyData.str s) := by
    rw [List.map_map]
    refine List.map_congr_left fun s hs => ?_
    show (if PyData.strOk s = true then some (PyData.str s) else none) = _
    rw [if_pos (h s hs).str]
  rw [this, optAll_some PyData.str]
  rfl
theorem in_names {ns : List Str} {a : Str} (h : ∀ s ∈ ns, TOk s) (ha : a ∈ ns) (S : Store) : inD true (.str a) (.tup false (ns.map D.str)) S = some (.bl false, S) := by
  unfold inD dinD lookD inSD
  simp only [rd_names h S, rd_str (h a ha)]
  have : (ns.map PyData.str).any (fun z => PyData.eqv z (.str a)) = true := by
    rw [List.any_eq_true]
    exact ⟨.str a, List.mem_map_of_mem ha, by simp [PyData.eqv]⟩
  rw [this]
  rfl
theorem rt_is {a : W} (h : Rt m a) (S : Store) : Pg g_is_worth [tms a] S (.bl true) := is_worth_good h.g (fun p hp => (h.k0 p hp).1) (by have := h.sz.len; have := szl; omega) S
theorem ix0' (x y z : D) (S : Store) : subscD (.tup false [x, y, z]) (.int 0) S = some (x, S) := ix0 _ _ _ _
theorem ix1' (x y z : D) (S : Store) : subscD (.tup false [x, y, z]) (.int 1) S = some (y, S) := ix1 _ _ _ _ _
theorem ix2' (x y z : D) (S : Store) : subscD (.tup false [x, y, z]) (.int 2) S = some (z, S) := ix2 _ _ _ _ _ _
theorem is_step_ok {ns : List Str} {x : Stp} (nm : ∀ s ∈ ns, Nm s) (h : St m ns x) (S : Store) : Pg g_is_step [stD x, .tup false (ns.map D.str)] S (.bl true) := by
  obtain ⟨a, w, b⟩ := x
  have tk : ∀ s ∈ ns, TOk s := fun s hs => (nm s hs).tok
  have na := nm a h.m1
  have nb := nm b h.m2
  have v0 : ∀ {s}, Pr (ev2 subscD (evVar 0) (evC (.int 0))) (startD 2 [stD (a, w, b), .tup false (ns.map D.str)]) s (.str a) := pr_2 (pr_var rfl) pr_c (fun _ _ => ix0' _ _ _ _)
  have v1 : ∀ {s}, Pr (ev2 subscD (evVar 0) (evC (.int 1))) (startD 2 [stD (a, w, b), .tup false (ns.map D.str)]) s (tms w) := pr_2 (pr_var rfl) pr_c (fun _ _ => ix1' _ _ _ _)
  have v2 : ∀ {s}, Pr (ev2 subscD (evVar 0) (evC (.int 2))) (startD 2 [stD (a, w, b), .tup false (ns.map D.str)]) s (.str b) := pr_2 (pr_var rfl) pr_c (fun _ _ => ix2' _ _ _ _)
  have ne : ¬ a = b := h.ne
  refine pg_val (n := 2) (bd_seq (bd_if (b := false) (pr_tor (b := false) (b' := false) (pr_tnot (b := true) (pr_T (pr_isi (b := true) (pr_var rfl) (fun _ _ => rfl)) (po_bl _ _))) (fun _ => pr_tor (b := false) (b' := false) (pr_TB (pr_2 (pr_L (pr1 (pr_var rfl)) (fun _ _ => len_tup _)) pr_c (fun _ _ => neX_ii 3 3 _))) (fun _ => pr_tor (b := false) (b' := false) (pr_tnot (b := true) (pr_T (pr_call (pr1 v0) (is_name_ok na S)) (po_bl _ _))) (fun _ => pr_tnot (b := true) (pr_T (pr_call (pr1 v2) (is_name_ok nb S)) (po_bl _ _)))))) bd_next) (bd_seq (bd_if (b := false) (pr_tor (b := false) (b' := false) (pr_TB (pr_2 v0 (pr_var rfl) (fun _ _ => in_names tk h.m1 _))) (fun _ => pr_tor (b := false) (b' := false) (pr_TB (pr_2 v2 (pr_var rfl) (fun _ _ => in_names tk h.m2 _))) (fun _ => pr_TB (pr_2 v0 v2 (fun _ _ => by rw [eqX_strs na.tok nb.tok, decide_eq_false ne]))))) bd_next) (bd_ret ?_)))
  have sg := sign_of_tms w S
  rw [h.rt.s1] at sg
  exact pr_and_bl (b := true) (b' := true) (pr_call (pr1 v1) (rt_is h.rt S)) (fun _ => pr_2 (pr_call (pr1 v1) sg) pr_c (fun _ _ => eqX_ii 1 1 _))
/-! ### webs -/
theorem bd_tg {f : Ev D} {tg : Tgt} {env e1 : EnvD} {S : Store} {d : D} (h : Pr f env S d) (t : tg d env = some e1) : Bd (sTg tg f) env S (.nx e1) := fun s x => by
  obtain ⟨x1, q1⟩ := h s x
  exact ⟨x1, by unfold sTg ofE; rw [q1]; simp only [t]⟩
def ltS : D → Bool
  | .tup _ [.str a, .str b] => decide (a.cps.toList < b.cps.toList)
  | _ => false
theorem zip_lt : ∀ {ns : List Str}, ns.Pairwise Lt → (List.zipWith (fun d e => D.tup false [d, e]) (ns.map D.str) (ns.map D.str).tail).all ltS = true
  | [], _ => rfl
  | [a], _ => rfl
  | a :: b :: ns, h => by
    have h1 := List.pairwise_cons.mp h
    have h2 := zip_lt h1.2
    show (decide (a.cps.toList < b.cps.toList) && (List.zipWith (fun d e => D.tup false [d, e]) ((b :: ns).map D.str) ((b :: ns).map D.str).tail).all ltS) = true
    rw [h2, decide_eq_true (show a.cps.toList < b.cps.toList from h1.1 b List.mem_cons_self)]
    rfl
abbrev prD (x : Stp) : D := .tup false [.str x.1, .str x.2.2]
theorem rd_pr {a b : Str} (ha : TOk a) (hb : TOk b) (S : Store) : rdP S (.tup false [.str a, .str b]) = some (.tuple [.str a, .str b]) := by
  show (optAll [toP S 29 (.str a), toP S 29 (.str b)]).map PyData.tuple = _
  have e1 : toP S 29 (.str a) = some (.str a) := by
    show (if PyData.strOk a = true then some (PyData.str a) else none) = _
    rw [if_pos ha.str]
  have e2 : toP S 29 (.str b) = some (.str b) := by
    show (if PyData.strOk b = true then some (PyData.str b) else none) = _
    rw [if_pos hb.str]
  rw [e1, e2]
  rfl
theorem ltD_pr {x y : Stp} (h1 : TOk x.1) (h2 : TOk x.2.2) (h3 : TOk y.1) (h4 : TOk y.2.2) (h : PLt x y) (S : Store) : ltD (prD x) (prD y) S = some (.bl true, S) := by
  unfold ltD
  simp only [rd_pr h1 h2, rd_pr h3 h4]
  rw [if_pos (by unfold ordOk; simp [PySem.W.alike, PySem.W.alikeAll])]
  have : PySem.W.dataLt (.tuple [.str x.1, .str x.2.2]) (.tuple [.str y.1, .str y.2.2]) = true := by
    rw [PySem.W.dataLt_pair (by simp [PySem.W.alike]) (by simp [PySem.W.alike]), PySem.W.dataLt_str, PySem.W.dataLt_str]
    rcases h with h | ⟨e, h⟩
    · have ne := h.ne
      have : PyData.eqv (.str x.1) (.str y.1) = false := by simp [PyData.eqv, ne]
      rw [this, if_neg Bool.false_ne_true, decide_eq_true (show x.1.cps.toList < y.1.cps.toList from h)]
    · have ne := h.ne
      have t1 : PyData.eqv (.str x.1) (.str y.1) = true := by simp [PyData.eqv, e]
      have t2 : PyData.eqv (.str x.2.2) (.str y.2.2) = false := by simp [PyData.eqv, ne]
      rw [t1, if_pos rfl, t2, if_neg Bool.false_ne_true, decide_eq_true (show x.2.2.cps.toList < y.2.2.cps.toList from h)]
  rw [this]
end WG
set_option Elab.async false
set_option linter.all false
set_option maxRecDepth 100000
set_option maxHeartbeats 1000000
/-! WH: webs judged. -/
namespace WH
open PySem PySem.Spec PyProof.Rows L2 PP MA EV FB FC FD FE FF FG FH FI FJ FJ2 FK N1 FL WA WB WC WD WE WF WG G07
variable [Tbl]
variable {m : Int}
abbrev envJ (ns : List Str) (xs : List Stp) (p : Option D) : EnvD := [some (webD ns xs), p, some (.tup false (ns.map D.str)), some (.tup false (xs.map stD)), none, none, none, none, none]
/-- zip of two lists that lie in the store -/
theorem zip_refs {f g : Ev D} {env : EnvD} {s s1 s2 : Store} {l k : Nat} {ds es : List D} (h1 : f env s = .ok (.ref l) s1) (h2 : g env s1 = .ok (.ref k) s2) (e1 : s2[l]? = some (false, .lst ds)) (e2 : s2[k]? = some (false, .lst es)) :
    ∃ J, evZp (evCons f (evCons g evNil)) env s = .ok J s2 ∧ ∀ T i, Ext s2 T → J i T = some ((List.zipWith (fun d e => D.tup false [d, e]) ds es)[i]?) := by
  refine ⟨fun i st => match st[l]?, st[k]? with
      | some (_, .lst ds), some (_, .lst es) => some (PP.pairAt ds es i)
      | _, _ => none, ?_, fun T i x => ?_⟩
  · unfold evZp evCons evNil
    simp only [h1, h2, Res.bind, srcZp, e1, e2, Option.map_some, Res.ofOpt]
    try rfl
  · have t1 := x.get e1
    have t2 := x.get e2
    simp only [t1, t2]
    unfold PP.pairAt
    rw [List.getElem?_zipWith]
    cases ds[i]? <;> cases es[i]? <;> rfl
theorem cut_ref {S : Store} {l : Nat} {ds : List D} (e : S[l]? = some (false, .lst ds)) : sliceD (.ref l) (some 1) none S = some (.ref S.length, S ++ [(false, .lst ds.tail)]) := by
  unfold sliceD
  simp only [e, cut_one]
theorem ret_op {op : OpL} {F : Ev D} {env : EnvD} {T T2 T3 : Store} {d z : D} (h : F env T = .ok d T2) (h2 : op [d] T2 = some (z, T3)) : sRet (evL op (evCons F evNil)) env T = .fl (.rt z) T3 := by
  unfold sRet ofE evL evCons evNil
  simp only [h, Res.bind, h2, Res.ofOpt]
def ltP : D → Bool := fun _ => true
/-- the pairs of a web, ascending -/
theorem pairs_up {ns : List Str} {xs : List Stp} (nm : ∀ s ∈ ns, Nm s) (st : ∀ x ∈ xs, St m ns x) (up : xs.Pairwise PLt) (hx : xs.length ≤ 64) (S : Store) :
    Bd (sSeq (sSet 1 (evLc (evSrc (evVar 3)) (tgT 3 (tgsCons (tgN 4) (tgsCons (tgN 5) (tgsCons (tgN 6) tgsNil)))) [4, 5, 6] tyes (evL mkTup (evCons (evVar 4) (evCons (evVar 6) evNil)))))
 (sRet (evL allD (evCons (evLc (evZp (evCons (evVar 1) (evCons (evSl sliceD (evVar 1) (some (evC (.int 1))) none) evNil))) (tgT 2 (tgsCons (tgN 4) (tgsCons (tgN 6) tgsNil))) [4, 6] tyes (ev2 ltD (evVar 4) (evVar 6))) evNil)))) (envJ ns xs none) S (.val (.bl true)) := fun s x => by
  have sz := szl
  obtain ⟨ex, q⟩ := lc_run (src := evSrc (evVar 3)) (tg := tgT 3 (tgsCons (tgN 4) (tgsCons (tgN 5) (tgsCons (tgN 6) tgsNil)))) (vs := [4, 5, 6]) (tt := tyes) (te := evL mkTup (evCons (evVar 4) (evCons (evVar 6) evNil))) (env := envJ ns xs none) (st := s) (st1 := s) (g := srcS (xs.map stD)) (xs.map stD) (fun _ => true) (fun d => match d with | .tup _ [a, _, b] => .tup false [a, b] | d => d) (by rw [List.length_map]; omega) rfl (fun _ _ _ => rfl) (fun d hd => by
    obtain ⟨x, hx, rfl⟩ := List.mem_map.mp hd
    refine ⟨_, rfl, Rpu.of_eq fun s _ => rfl, fun _ => Rpu.of_eq fun T _ => ?_⟩
    have mt : mkTup [.str x.1, .str x.2.2] T = some (WG.prD x, T) := mkTup_ok (by simp)
    show evL mkTup (evCons (evVar 4) (evCons (evVar 6) evNil)) [some (webD ns xs), none, some (.tup false (ns.map D.str)), some (.tup false (xs.map stD)), some (.str x.1), some (tms x.2.1), some (.str x.2.2), none, none] T = Res.ok (WG.prD x) T
    simp only [sSeq, sSet, sPar, sRet, sIf, sExpr, sNext, ofE, evCall, evL, evCons, evNil, ev1, ev2, evC, evVar, evIf, evTB, evT, evNot, tand, tor, tnot, Res.bind, Res.ofOpt, asB, List.getElem?_cons_zero, List.getElem?_cons_succ, List.set_cons_zero, List.set_cons_succ, Option.map_some, mt])
  have em : (((xs.map stD).filter fun _ => true).map fun d : D => match d with | .tup _ [a, _, b] => D.tup false [a, b] | d => d) = xs.map WG.prD := by
    rw [List.filter_eq_self.mpr (fun _ _ => rfl), List.map_map]
    rfl
  rw [em] at q
  have e1 := at_end s ex (false, Cell.lst (xs.map WG.prD))
  generalize hT : s ++ (false, Cell.lst (xs.map WG.prD)) :: ex = T at q e1
  have xT : Ext s T := ⟨_, hT.symm⟩
  have cr := cut_ref e1
  obtain ⟨J, z1, z2⟩ := zip_refs (f := evVar 1) (g := evSl sliceD (evVar 1) (some (evC (.int 1))) none) (env := envJ ns xs (some (.ref s.length))) (s := T) (s1 := T) (s2 := T ++ [(false, .lst (xs.map WG.prD).tail)]) (l := s.length) (k := T.length) (ds := xs.map WG.prD) (es := (xs.map WG.prD).tail) rfl (by
    unfold evSl evPart
    simp only [evVar, evC, List.getElem?_cons_zero, List.getElem?_cons_succ, Res.bind, cr, Res.ofOpt]) (app_at e1 _) (at_end T [] _)
  obtain ⟨ex2, q2⟩ := lc_run (src := evZp (evCons (evVar 1) (evCons (evSl sliceD (evVar 1) (some (evC (.int 1))) none) evNil))) (tg := tgT 2 (tgsCons (tgN 4) (tgsCons (tgN 6) tgsNil))) (vs := [4, 6]) (tt := tyes) (te := ev2 ltD (evVar 4) (evVar 6)) (env := envJ ns xs (some (.ref s.length))) (st := T) (st1 := T ++ [(false, .lst (xs.map WG.prD).tail)]) (g := J) (List.zipWith (fun d e => D.tup false [d, e]) (xs.map WG.prD) (xs.map WG.prD).tail) (fun _ => true) (fun _ => .bl true) (by
      rw [List.length_zipWith, List.length_map]
      omega) z1 (fun U i y => z2 U i y) (fun d hd => by
    rw [← List.map_tail, List.zipWith_map] at hd
    obtain ⟨i, hi, rfl⟩ := List.mem_iff_getElem.mp hd
    rw [List.getElem_zipWith]
    rw [List.length_zipWith, List.length_tail] at hi
    have b1 : i < xs.length := by omega
    have b2 : i + 1 < xs.length := by omega
    have et : xs.tail[i]'(by rw [List.length_tail]; omega) = xs[i + 1] := List.getElem_tail ..
    rw [et]
    have s1 := st xs[i] (List.getElem_mem b1)
    have s2 := st xs[i + 1] (List.getElem_mem b2)
    have lt := (List.pairwise_iff_getElem.mp up) i (i + 1) b1 b2 (by omega)
    refine ⟨_, rfl, Rpu.of_eq fun s _ => rfl, fun _ => pr_2 (pr_var rfl) (pr_var rfl) (fun U _ => ltD_pr (nm _ s1.m1).tok (nm _ s1.m2).tok (nm _ s2.m1).tok (nm _ s2.m2).tok lt U)⟩)
  generalize hL : List.zipWith (fun d e => D.tup false [d, e]) (xs.map WG.prD) (xs.map WG.prD).tail = L at q2
  have e3 : ((L.filter fun _ => true).map fun _ => D.bl true) = (L.map fun _ => true).map D.bl := by rw [List.filter_eq_self.mpr (fun _ _ => rfl), List.map_map]; rfl
  rw [e3] at q2
  have al := all_po (at_end (T ++ [(false, .lst (xs.map WG.prD).tail)]) ex2 (false, Cell.lst ((L.map fun _ => true).map D.bl)))
  have e4 : (L.map fun _ => true).all id = true := by simp
  rw [e4] at al
  have xx : Ext s (T ++ [(false, .lst (xs.map WG.prD).tail)] ++ (false, Cell.lst ((L.map fun _ => true).map D.bl)) :: ex2) := (xT.app _).app _
  obtain ⟨e5, h5⟩ := xx
  refine ⟨e5, ?_⟩
  rw [← h5, seq_nx (set_run q)]
  show sRet _ (envJ ns xs (some (.ref s.length))) T = _
  exact ret_op q2 al
theorem is_web_ok {ns : List Str} {xs : List Stp} (nm : ∀ s ∈ ns, Nm s) (u : ns.Pairwise Lt) (h0 : ns ≠ []) (hn : ns.length ≤ 100) (st : ∀ x ∈ xs, St m ns x) (up : xs.Pairwise PLt) (hx : xs.length ≤ 64) (S : Store) : Pg g_is_web [webD ns xs] S (.bl true) := by
  have sz := szl
  have nz : ¬ ((ns.map D.str).length : Int) = 0 := by
    have := List.length_pos_iff.mpr h0
    rw [List.length_map]
    omega
  have a1 : Pr (evL allD (evCons (evLc (evSrc (evVar 2)) (tgN 8) [8] tyes (evCall g_is_name (evCons (evVar 8) evNil))) evNil)) (envJ ns xs none) S (.bl true) := by
    have a := pr_all (st := S) (src := evSrc (evVar 2)) (tg := tgN 8) (vs := [8]) (te := evCall g_is_name (evCons (evVar 8) evNil)) (env := envJ ns xs none) (ns.map D.str) (fun _ => true) (by rw [List.length_map]; omega) (src_tup (pr_var rfl)) (fun d hd => by
      obtain ⟨s, hs, rfl⟩ := List.mem_map.mp hd
      exact ⟨_, rfl, pr_call (pr1 (pr_var rfl)) (is_name_ok (nm s hs) S)⟩)
    have e : (ns.map D.str).all (fun _ => true) = true := by simp
    rw [e] at a
    exact a
  have a2 : Pr (evL allD (evCons (evLc (evZp (evCons (evVar 2) (evCons (evSl sliceD (evVar 2) (some (evC (.int 1))) none) evNil))) (tgT 2 (tgsCons (tgN 4) (tgsCons (tgN 6) tgsNil))) [4, 6] tyes (ev2 ltD (evVar 4) (evVar 6))) evNil)) (envJ ns xs none) S (.bl true) := by
    have a := pr_all (st := S) (src := evZp (evCons (evVar 2) (evCons (evSl sliceD (evVar 2) (some (evC (.int 1))) none) evNil))) (tg := tgT 2 (tgsCons (tgN 4) (tgsCons (tgN 6) tgsNil))) (vs := [4, 6]) (te := ev2 ltD (evVar 4) (evVar 6)) (env := envJ ns xs none) (List.zipWith (fun d e => D.tup false [d, e]) (ns.map D.str) (ns.map D.str).tail) ltS (by
      rw [List.length_zipWith, List.length_map]; omega) (fun S' x => by
      refine src_zip (b := false) (c := false) (pr_var rfl) (pr_sl (l := some 1) (h := none) (pr_var rfl) (pr_part1 pr_c) pr_part0 (fun _ _ => ?_)) S' x
      unfold sliceD
      rw [← cut_one]) (fun d hd => by
      rw [← List.map_tail, List.zipWith_map] at hd
      obtain ⟨i, hi, rfl⟩ := List.mem_iff_getElem.mp hd
      rw [List.getElem_zipWith]
      rw [List.length_zipWith, List.length_tail] at hi
      have b1 : i < ns.length := by omega
      have b2 : i + 1 < ns.length := by omega
      have et : ns.tail[i]'(by rw [List.length_tail]; omega) = ns[i + 1] := List.getElem_tail ..
      rw [et]
      exact ⟨_, rfl, pr_2 (pr_var rfl) (pr_var rfl) (fun U _ => ltD_strs (nm _ (List.getElem_mem b1)).tok (nm _ (List.getElem_mem b2)).tok U)⟩)
    rw [zip_lt u] at a
    exact a
  have a3 : Pr (evL allD (evCons (evLc (evSrc (evVar 3)) (tgN 7) [7] tyes (evCall g_is_step (evCons (evVar 7) (evCons (evVar 2) evNil)))) evNil)) (envJ ns xs none) S (.bl true) := by
    have a := pr_all (st := S) (src := evSrc (evVar 3)) (tg := tgN 7) (vs := [7]) (te := evCall g_is_step (evCons (evVar 7) (evCons (evVar 2) evNil))) (env := envJ ns xs none) (xs.map stD) (fun _ => true) (by rw [List.length_map]; omega) (src_tup (pr_var rfl)) (fun d hd => by
      obtain ⟨x, hx, rfl⟩ := List.mem_map.mp hd
      exact ⟨_, rfl, pr_call (pr2 (pr_var rfl) (pr_var rfl)) (is_step_ok nm (st x hx) S)⟩)
    have e : (xs.map stD).all (fun _ => true) = true := by simp
    rw [e] at a
    exact a
  exact pg_val (n := 9) (bd_seq (bd_if (b := false) (pr_tor (b := false) (b' := false) (pr_tnot (b := true) (pr_T (pr_isi (b := true) (pr_var rfl) (fun _ _ => rfl)) (po_bl _ _))) (fun _ => pr_TB (pr_2 (pr_L (pr1 (pr_var rfl)) (fun _ _ => len_tup _)) pr_c (fun _ _ => neX_ii 2 2 _)))) bd_next) (bd_seq (bd_tg (e1 := envJ ns xs none) (pr_var rfl) rfl) (bd_seq (bd_if (b := false) (pr_tor (b := false) (b' := false) (pr_tnot (b := true) (pr_T (pr_isi (b := true) (pr_var rfl) (fun _ _ => rfl)) (po_bl _ _))) (fun _ => pr_tor (b := false) (b' := false) (pr_TB (pr_2 (pr_L (pr1 (pr_var rfl)) (fun _ _ => len_tup _)) pr_c (fun _ _ => by rw [eqX_ii, decide_eq_false nz]))) (fun _ => pr_tnot (b := true) (pr_T (pr_isi (b := true) (pr_var rfl) (fun _ _ => rfl)) (po_bl _ _))))) bd_next) (bd_seq (bd_if (b := false) (pr_tor (b := false) (b' := false) (pr_tnot (b := true) (pr_T a1 (po_bl _ _))) (fun _ => pr_tnot (b := true) (pr_T a2 (po_bl _ _)))) bd_next) (bd_seq (bd_if (b := false) (pr_tnot (b := true) (pr_T a3 (po_bl _ _))) bd_next) (pairs_up nm st up hx S))))))
/-- what is no tuple is no web -/
theorem is_web_no {d : D} {S : Store} (h : ∀ s, Ext S s → isiD [d, .ty "tuple"] s = some (.bl false, s)) : Pg g_is_web [d] S (.bl false) :=
  pg_val (n := 9) (bd_seq1 (bd_if (b := true) (pr_tor (b := true) (b' := true) (pr_tnot (b := false) (pr_T (pr_isi (b := false) (pr_var rfl) h) (po_bl _ _))) (fun z => nomatch z)) (bd_ret pr_c)))
theorem is_web_e (S : Store) : Pg g_is_web [.tup false []] S (.bl false) :=
  pg_val (n := 9) (bd_seq1 (bd_if (b := true) (pr_tor (b := false) (b' := true) (pr_tnot (b := true) (pr_T (pr_isi (b := true) (pr_var rfl) (fun _ _ => rfl)) (po_bl _ _))) (fun _ => pr_TB (pr_2 (pr_L (pr1 (pr_var rfl)) (fun _ _ => len_tup _)) pr_c (fun _ _ => neX_ii 0 2 _)))) (bd_ret pr_c)))
theorem is_web_ee (S : Store) : Pg g_is_web [.tup false [.tup false [], .tup false []]] S (.bl false) :=
  pg_val (n := 9) (bd_seq (bd_if (b := false) (pr_tor (b := false) (b' := false) (pr_tnot (b := true) (pr_T (pr_isi (b := true) (pr_var rfl) (fun _ _ => rfl)) (po_bl _ _))) (fun _ => pr_TB (pr_2 (pr_L (pr1 (pr_var rfl)) (fun _ _ => len_tup _)) pr_c (fun _ _ => neX_ii 2 2 _)))) bd_next) (bd_seq (bd_tg (e1 := [some (.tup false [.tup false [], .tup false []]), none, some (.tup false []), some (.tup false []), none, none, none, none, none]) (pr_var rfl) rfl) (bd_seq1 (bd_if (b := true) (pr_tor (b := false) (b' := true) (pr_tnot (b := true) (pr_T (pr_isi (b := true) (pr_var rfl) (fun _ _ => rfl)) (po_bl _ _))) (fun _ => pr_tor (b := true) (b' := true) (pr_TB (pr_2 (pr_L (pr1 (pr_var rfl)) (fun _ _ => len_tup _)) pr_c (fun _ _ => eqX_ii 0 0 _))) (fun z => nomatch z))) (bd_ret pr_c)))))
end WH
set_option Elab.async false
set_option linter.all false
set_option maxRecDepth 100000
set_option maxHeartbeats 1000000
/-! QB: the bound of a worth, as the package and as the law find it. -/
namespace QB
open PySem PySem.Spec PyProof.Rows L2 PP MA EV FB FC FD FE FF FG FH FI FJ FJ2 FK N1 FL QA G07
variable [Tbl]
theorem ab_num (q : Rat) : (ab q).num = if q.num < 0 then -q.num else q.num := by
  unfold ab
  have e : q < 0 ↔ q.num < 0 := by
    have := @Rat.num_nonneg q
    constructor
    · intro h
      have : ¬ 0 ≤ q.num := fun z => Rat.not_le.mpr h (this.mp z)
      omega
    · intro h
      apply Rat.not_le.mp
      intro z
      have := this.mpr z
      omega
  by_cases c : q < 0
  · rw [if_pos c, if_pos (e.mp c)]; rfl
  · rw [if_neg c, if_neg (fun z => c (e.mpr z))]
theorem ab_den (q : Rat) : (ab q).den = q.den := by
  unfold ab
  split <;> rfl
theorem Ok.ab {q : Rat} (h : Ok q) : Ok (ab q) := by
  refine ⟨?_, by rw [ab_den]; exact h.den⟩
  have := h.num
  unfold Bs at *
  rw [ab_num]
  split <;> omega
theorem absD_i (i : Int) (st : Store) : absD [.int i] st = some (.int (if i < 0 then -i else i), st) := rfl
theorem lt_dec (p q : Rat) : decide (p.num * (q.den : Int) < q.num * (p.den : Int)) = decide (p < q) := decide_eq_decide.mpr (Rat.lt_iff p q).symm
theorem at0 (p : Int × Rat) (t : W) (st : Store) : subscD (tms (p :: t)) (.int 0) st = some (tm p, st) := ix0 _ _ _ _
theorem at1 (p : Int × Rat) (st : Store) : subscD (tm p) (.int 1) st = some (.int p.2.num, st) := ix1 _ _ _ _ _
theorem at2 (p : Int × Rat) (st : Store) : subscD (tm p) (.int 2) st = some (.int (p.2.den : Int), st) := ix2 _ _ _ _ _ _
theorem is_less {p q : Rat} (hp : Ok p) (hq : Ok q) (st : Store) : g_is_less [fr p, fr q] st = .ok (.bl (decide (p < q))) st := by
  unfold g_is_less b_is_less runS startD
  simp only [List.map_cons, List.map_nil, List.length_cons, List.length_nil, Nat.zero_add, Nat.reduceAdd, Nat.reduceSub, List.replicate_succ, List.replicate_zero, List.cons_append, List.nil_append, sSeq, sSet, sPar, sRet, sIf, sExpr, sNext, ofE, evCall, evL, evCons, evNil, ev1, ev2, evC, evVar, evIf, evTB, evT, evNot, tand, tor, tnot, Res.bind, Res.ofOpt, asB, List.getElem?_cons_zero, List.getElem?_cons_succ, List.set_cons_zero, List.set_cons_succ, Option.map_some, ix0, ix1, mulD_ii hp.k1 hq.k2, mulD_ii hq.k1 hp.k2, ltD_ii]
  rw [lt_dec]
/-- what is asked of a worth whose bound is told -/
structure Bw (a : W) : Prop where
  ok : ∀ p ∈ a, Ok p.2
  nz : ∀ p ∈ a, p.2 ≠ 0
  sm : ∀ p t, a = p :: t → Ok (QA.ab p.2 + mst t 0)
  len : a.length < 1000
theorem ok0 : Ok 0 := ⟨show (0 : Int).natAbs < 2 ^ 900 by decide, show (1 : Int).natAbs < 2 ^ 900 by decide⟩
theorem mst_ok {t : W} (h : ∀ p ∈ t, Ok p.2) : Ok (mst t 0) := by
  rcases mst_mem t 0 with e | ⟨p, hp, e⟩
  · rw [e]; exact ok0
  · rw [e]; exact Ok.ab (h p hp)
theorem mst_take (t : W) (i : Nat) {p : Int × Rat} (h : t[i]? = some p) : mst (t.take (i + 1)) 0 = if mst (t.take i) 0 < QA.ab p.2 then QA.ab p.2 else mst (t.take i) 0 := by
  rw [take_snoc _ _ h, mst_app]
  rfl
theorem cut1 (p : Int × Rat) (t : W) (S : Store) : sliceD (tms (p :: t)) (some 1) none S = some (.tup false (t.map tm), S) := by
  unfold sliceD
  simp only [cut_one]
  rfl
theorem sum_ne {p : Int × Rat} {t : W} (h : p.2 ≠ 0) : 0 < QA.ab p.2 + mst t 0 := by
  have := ab_pos h
  have := (mst_ge t 0).1
  grind
abbrev frA (q : Rat) : D := fr (QA.ab q)
theorem fr_ab (q : Rat) : D.tup false [.int (if q.num < 0 then -q.num else q.num), .int (q.den : Int)] = frA q := by
  show _ = D.tup false [.int (QA.ab q).num, .int ((QA.ab q).den : Int)]
  rw [ab_num, ab_den]
theorem bound_of {a : W} (h : Bw a) (h0 : a ≠ []) (S : Store) : g_bound_of [tms a] S = .ok (fr (bnd a)) S := by
  cases a with
  | nil => exact absurd rfl h0
  | cons p t =>
    have hp : Ok p.2 := h.ok p List.mem_cons_self
    have ht : ∀ r ∈ t, Ok r.2 := fun r hr => h.ok r (List.mem_cons_of_mem _ hr)
    obtain ⟨e, s, r, hh⟩ := sFor_inv (src := evSrc (evSl sliceD (evVar 0) (some (evC (.int 1))) none)) (tg := tgT 3 (tgsCons (tgN 3) (tgsCons (tgN 4) (tgsCons (tgN 5) tgsNil))))
      (body := (sIf (evT (evCall g_is_less (evCons (evVar 2) (evCons (evL mkTup (evCons (evL absD (evCons (evVar 4) evNil)) (evCons (evVar 5) evNil))) evNil))))
 (sSet 2 (evL mkTup (evCons (evL absD (evCons (evVar 4) evNil)) (evCons (evVar 5) evNil))))
 sNext))
      (env := [some (tms (p :: t)), some (frA p.2), some (fr 0), none, none, none]) (st := S) (st1 := S) (g := srcS (t.map tm)) (t.map tm)
      (fun i env st => S = st ∧ ∃ e3 e4 e5, env = [some (tms (p :: t)), some (frA p.2), some (fr (mst (t.take i) 0)), e3, e4, e5]) (by
        have := szl
        have := h.len
        simp only [List.length_cons] at this
        rw [List.length_map]
        omega) (by
        have c := cut1 p t S
        unfold evSrc evSl evPart
        simp only [evVar, evC, List.getElem?_cons_zero, Res.bind, c, Res.ofOpt, Option.map_some]
        rfl) ⟨rfl, none, none, none, rfl⟩ (fun _ _ _ _ => rfl) (fun i d env st hd hh => by
        obtain ⟨rfl, e3, e4, e5, rfl⟩ := hh
        rw [List.getElem?_map] at hd
        obtain ⟨x, hx, rfl⟩ := Option.map_eq_some_iff.mp hd
        have hm := List.mem_of_getElem? hx
        have o := ht x hm
        have om : Ok (mst (t.take i) 0) := mst_ok fun r hr => ht r (List.mem_of_mem_take hr)
        have il := is_less om (Ok.ab o) S
        have mt : mkTup [.int (if x.2.num < 0 then -x.2.num else x.2.num), .int (x.2.den : Int)] S = some (frA x.2, S) := by rw [mkTup_ok (by simp), fr_ab]
        refine ⟨[some (tms (p :: t)), some (frA p.2), some (fr (mst (t.take i) 0)), some (.int x.1), some (.int x.2.num), some (.int x.2.den)], rfl, [some (tms (p :: t)), some (frA p.2), some (fr (mst (t.take (i + 1)) 0)), some (.int x.1), some (.int x.2.num), some (.int x.2.den)], S, .inl ?_, rfl, _, _, _, rfl⟩
        rw [mst_take t i hx]
        by_cases c : mst (t.take i) 0 < QA.ab x.2
        · rw [decide_eq_true c] at il
          rw [if_pos c, if_then (S' := S) (by simp only [sSeq, sSet, sPar, sRet, sIf, sExpr, sNext, ofE, evCall, evL, evCons, evNil, ev1, ev2, evC, evVar, evIf, evTB, evT, evNot, tand, tor, tnot, Res.bind, Res.ofOpt, asB, List.getElem?_cons_zero, List.getElem?_cons_succ, List.set_cons_zero, List.set_cons_succ, Option.map_some, absD_i, mt, il]; rfl)]
          refine set_run ?_
          simp only [sSeq, sSet, sPar, sRet, sIf, sExpr, sNext, ofE, evCall, evL, evCons, evNil, ev1, ev2, evC, evVar, evIf, evTB, evT, evNot, tand, tor, tnot, Res.bind, Res.ofOpt, asB, List.getElem?_cons_zero, List.getElem?_cons_succ, List.set_cons_zero, List.set_cons_succ, Option.map_some, absD_i, mt]
        · rw [decide_eq_false c] at il
          rw [if_neg c]
          refine if_no ?_
          simp only [sSeq, sSet, sPar, sRet, sIf, sExpr, sNext, ofE, evCall, evL, evCons, evNil, ev1, ev2, evC, evVar, evIf, evTB, evT, evNot, tand, tor, tnot, Res.bind, Res.ofOpt, asB, List.getElem?_cons_zero, List.getElem?_cons_succ, List.set_cons_zero, List.set_cons_succ, Option.map_some, absD_i, mt, il]
          rfl)
    obtain ⟨rfl, e3, e4, e5, rfl⟩ := hh
    rw [List.length_map, List.take_of_length_le (Nat.le_refl _)] at r
    have mt : mkTup [.int (if p.2.num < 0 then -p.2.num else p.2.num), .int (p.2.den : Int)] S = some (frA p.2, S) := by rw [mkTup_ok (by simp), fr_ab]
    have ad := FB.added (Ok.ab hp) (mst_ok ht) S
    have dv := FB.divided (Ok.ab hp) (h.sm p t rfl) (by have := sum_ne (t := t) (h.nz p List.mem_cons_self); grind) S
    unfold g_bound_of b_bound_of runS startD
    simp only [List.map_cons, List.map_nil, List.length_cons, List.length_nil, Nat.zero_add, Nat.reduceAdd, Nat.reduceSub, List.replicate_succ, List.replicate_zero, List.cons_append, List.nil_append]
    rw [seq_nx (e := [some (tms (p :: t)), some (frA p.2), none, none, none, none]) (S' := S) (by
      rw [set_run (d := frA p.2) (S' := S)]
      · rfl
      · simp only [sSeq, sSet, sPar, sRet, sIf, sExpr, sNext, ofE, evCall, evL, evCons, evNil, ev1, ev2, evC, evVar, evIf, evTB, evT, evNot, tand, tor, tnot, Res.bind, Res.ofOpt, asB, List.getElem?_cons_zero, List.getElem?_cons_succ, List.set_cons_zero, List.set_cons_succ, Option.map_some, at0, at1, at2, absD_i, mt])]
    rw [seq_nx (e := [some (tms (p :: t)), some (frA p.2), some (fr 0), none, none, none]) (S' := S) (by rfl)]
    rw [seq_nx r]
    simp only [sSeq, sSet, sPar, sRet, sIf, sExpr, sNext, ofE, evCall, evL, evCons, evNil, ev1, ev2, evC, evVar, evIf, evTB, evT, evNot, tand, tor, tnot, Res.bind, Res.ofOpt, asB, List.getElem?_cons_zero, List.getElem?_cons_succ, List.set_cons_zero, List.set_cons_succ, Option.map_some, ad, dv]
    rfl
theorem law_bound {a : W} (h : Bw a) (h0 : a ≠ []) (S : Store) : g__law_bound [tms a] S = .ok (fr (bnd a)) S := by
  cases a with
  | nil => exact absurd rfl h0
  | cons p t =>
    have hp : Ok p.2 := h.ok p List.mem_cons_self
    have ht : ∀ r ∈ t, Ok r.2 := fun r hr => h.ok r (List.mem_cons_of_mem _ hr)
    obtain ⟨e, s, r, hh⟩ := sFor_inv (src := evSrc (evSl sliceD (evVar 0) (some (evC (.int 1))) none)) (tg := tgT 3 (tgsCons (tgN 4) (tgsCons (tgN 5) (tgsCons (tgN 6) tgsNil))))
      (body := (sIf (evTB (ev2 gtD (ev2 mulD (evL absD (evCons (evVar 5) evNil)) (ev2 subscD (evVar 3) (evC (.int 1)))) (ev2 mulD (ev2 subscD (evVar 3) (evC (.int 0))) (evVar 6))))
 (sSet 3 (evL mkTup (evCons (evL absD (evCons (evVar 5) evNil)) (evCons (evVar 6) evNil))))
 sNext))
      (env := [some (tms (p :: t)), none, some (frA p.2), some (fr 0), none, none, none]) (st := S) (st1 := S) (g := srcS (t.map tm)) (t.map tm)
      (fun i env st => S = st ∧ ∃ e3 e4 e5, env = [some (tms (p :: t)), none, some (frA p.2), some (fr (mst (t.take i) 0)), e3, e4, e5]) (by
        have := szl
        have := h.len
        simp only [List.length_cons] at this
        rw [List.length_map]
        omega) (by
        have c := cut1 p t S
        unfold evSrc evSl evPart
        simp only [evVar, evC, List.getElem?_cons_zero, Res.bind, c, Res.ofOpt, Option.map_some]
        rfl) ⟨rfl, none, none, none, rfl⟩ (fun _ _ _ _ => rfl) (fun i d env st hd hh => by
        obtain ⟨rfl, e3, e4, e5, rfl⟩ := hh
        rw [List.getElem?_map] at hd
        obtain ⟨x, hx, rfl⟩ := Option.map_eq_some_iff.mp hd
        have hm := List.mem_of_getElem? hx
        have o := ht x hm
        have om : Ok (mst (t.take i) 0) := mst_ok fun r hr => ht r (List.mem_of_mem_take hr)
        have oa := Ok.ab o
        have m1 := mulD_ii oa.k1 om.k2 S
        have m2 := mulD_ii om.k1 oa.k2 S
        rw [ab_num] at m1
        rw [ab_den] at m2
        have gt := gtD_ii ((if x.2.num < 0 then -x.2.num else x.2.num) * ((mst (t.take i) 0).den : Int)) ((mst (t.take i) 0).num * (x.2.den : Int)) S
        have dd := lt_dec (mst (t.take i) 0) (QA.ab x.2)
        rw [ab_num, ab_den] at dd
        rw [dd] at gt
        have mt : mkTup [.int (if x.2.num < 0 then -x.2.num else x.2.num), .int (x.2.den : Int)] S = some (frA x.2, S) := by rw [mkTup_ok (by simp), fr_ab]
        refine ⟨[some (tms (p :: t)), none, some (frA p.2), some (fr (mst (t.take i) 0)), some (.int x.1), some (.int x.2.num), some (.int x.2.den)], rfl, [some (tms (p :: t)), none, some (frA p.2), some (fr (mst (t.take (i + 1)) 0)), some (.int x.1), some (.int x.2.num), some (.int x.2.den)], S, .inl ?_, rfl, _, _, _, rfl⟩
        rw [mst_take t i hx]
        by_cases c : mst (t.take i) 0 < QA.ab x.2
        · rw [decide_eq_true c] at gt
          rw [if_pos c, if_then (S' := S) (by simp only [sSeq, sSet, sPar, sRet, sIf, sExpr, sNext, ofE, evCall, evL, evCons, evNil, ev1, ev2, evC, evVar, evIf, evTB, evT, evNot, tand, tor, tnot, Res.bind, Res.ofOpt, asB, List.getElem?_cons_zero, List.getElem?_cons_succ, List.set_cons_zero, List.set_cons_succ, Option.map_some, absD_i, ix0, ix1, m1, m2, gt])]
          refine set_run ?_
          simp only [sSeq, sSet, sPar, sRet, sIf, sExpr, sNext, ofE, evCall, evL, evCons, evNil, ev1, ev2, evC, evVar, evIf, evTB, evT, evNot, tand, tor, tnot, Res.bind, Res.ofOpt, asB, List.getElem?_cons_zero, List.getElem?_cons_succ, List.set_cons_zero, List.set_cons_succ, Option.map_some, absD_i, mt]
        · rw [decide_eq_false c] at gt
          rw [if_neg c]
          refine if_no ?_
          simp only [sSeq, sSet, sPar, sRet, sIf, sExpr, sNext, ofE, evCall, evL, evCons, evNil, ev1, ev2, evC, evVar, evIf, evTB, evT, evNot, tand, tor, tnot, Res.bind, Res.ofOpt, asB, List.getElem?_cons_zero, List.getElem?_cons_succ, List.set_cons_zero, List.set_cons_succ, Option.map_some, absD_i, ix0, ix1, m1, m2, gt])
    obtain ⟨rfl, e3, e4, e5, rfl⟩ := hh
    rw [List.length_map, List.take_of_length_le (Nat.le_refl _)] at r
    have mt : mkTup [.int (if p.2.num < 0 then -p.2.num else p.2.num), .int (p.2.den : Int)] S = some (frA p.2, S) := by rw [mkTup_ok (by simp), fr_ab]
    have mz : mkTup [.int 0, .int 1] S = some (fr 0, S) := by rw [mkTup_ok (by simp)]; rfl
    have oa := Ok.ab hp
    have os := h.sm p t rfl
    have ad := FB.law_added oa (mst_ok ht) S
    have pos := sum_ne (t := t) (h.nz p List.mem_cons_self)
    have np : 0 < (QA.ab p.2 + mst t 0).num := (num_pos _).mpr pos
    have bp : 0 < ((QA.ab p.2).den : Int) * (QA.ab p.2 + mst t 0).num := Int.mul_pos (by have := (QA.ab p.2).den_pos; omega) np
    have fq := FB.law_fraction (t := (QA.ab p.2).num * ((QA.ab p.2 + mst t 0).den : Int)) bp ((oa.den.mul os.num).mono (by omega)) S
    rw [div_parts] at fq
    have m1 := mulD_ii oa.k1 os.k2 S
    have m2 := mulD_ii oa.k2 os.k1 S
    unfold g__law_bound b__law_bound runS startD
    simp only [List.map_cons, List.map_nil, List.length_cons, List.length_nil, Nat.zero_add, Nat.reduceAdd, Nat.reduceSub, List.replicate_succ, List.replicate_zero, List.cons_append, List.nil_append]
    rw [seq_nx (e := [some (tms (p :: t)), none, some (frA p.2), some (fr 0), none, none, none]) (S' := S) (by
      simp only [sSeq, sSet, sPar, sRet, sIf, sExpr, sNext, ofE, evCall, evL, evCons, evNil, ev1, ev2, evC, evVar, evIf, evTB, evT, evNot, tand, tor, tnot, Res.bind, Res.ofOpt, asB, List.getElem?_cons_zero, List.getElem?_cons_succ, List.set_cons_zero, List.set_cons_succ, Option.map_some, at0, at1, at2, absD_i, mt, mz])]
    rw [seq_nx r]
    simp only [sSeq, sSet, sPar, sRet, sIf, sExpr, sNext, ofE, evCall, evL, evCons, evNil, ev1, ev2, evC, evVar, evIf, evTB, evT, evNot, tand, tor, tnot, Res.bind, Res.ofOpt, asB, List.getElem?_cons_zero, List.getElem?_cons_succ, List.set_cons_zero, List.set_cons_succ, Option.map_some, ad, ix0, ix1, m1, m2, fq]
    rfl
end QB
set_option Elab.async false
set_option linter.all false
set_option maxRecDepth 100000
set_option exponentiation.threshold 4000
set_option maxHeartbeats 1000000
/-! QC: worths at small numbers with long tops and bottoms. -/
namespace QC
open PySem PySem.Spec PyProof.Rows L2 PP MA EV FB FC FD FE FF FG FH FI FJ FJ2 FK N1 FL QA QB G07
variable [Tbl]
structure Ok4 (q : Rat) : Prop where
  num : Bs 3000 q.num
  den : Bs 3000 (q.den : Int)
theorem added4 {p q : Rat} (hp : Ok4 p) (hq : Ok4 q) (st : Store) : g_added [fr p, fr q] st = .ok (fr (p + q)) st := by
  have k : ∀ {i}, Bs 3000 i → Bs 9000 i := fun h => h.mono (by omega)
  have f := FB.fraction_of (t := p.num * (q.den : Int) + q.num * (p.den : Int)) (den_mul_ne p q) ((hp.den.mul hq.den).mono (by omega)) st
  rw [add_parts] at f
  unfold g_added b_added runS startD
  simp only [List.map_cons, List.map_nil, List.length_cons, List.length_nil, Nat.zero_add, Nat.reduceAdd, Nat.reduceSub, List.replicate_succ, List.replicate_zero, List.cons_append, List.nil_append, sSeq, sSet, sPar, sRet, sIf, sExpr, sNext, ofE, evCall, evL, evCons, evNil, ev1, ev2, evC, evVar, evIf, evTB, evT, evNot, tand, tor, tnot, Res.bind, Res.ofOpt, asB, List.getElem?_cons_zero, List.getElem?_cons_succ, List.set_cons_zero, List.set_cons_succ, Option.map_some, ix0, ix1, mulD_ii (k hp.num) (k hq.den), mulD_ii (k hq.num) (k hp.den), mulD_ii (k hp.den) (k hq.den), addD_ii, f]
structure At4 (a : W) (q : Rat) : Prop where
  nn : Bs 82 q.num
  nd : Bs 82 (q.den : Int)
  k0 : ∀ p ∈ a, 0 ≤ p.1 ∧ p.1 ≤ 30
  ok : ∀ p ∈ a, Ok p.2
  tk : ∀ i, Ok4 (ev (a.take i) q)
  tm : ∀ p ∈ a, Ok4 (p.2 * pw q p.1.toNat)
  len : a.length < 1000
theorem value_at4 {a : W} {q : Rat} (h : At4 a q) (S : Store) : g_value_at [tms a, fr q] S = .ok (fr (ev a q)) S := by
  obtain ⟨e, s, r, hh⟩ := sFor_inv (src := evSrc (evVar 0)) (tg := tgT 3 (tgsCons (tgN 3) (tgsCons (tgN 4) (tgsCons (tgN 5) tgsNil)))) (body := sSet 2 (evCall g_added (evCons (evVar 2) (evCons (evCall g_multiplied (evCons (evL mkTup (evCons (evVar 4) (evCons (evVar 5) evNil))) (evCons (evCall g_power (evCons (evVar 1) (evCons (evVar 3) evNil))) evNil))) evNil))))
    (env := [some (tms a), some (fr q), some (fr 0), none, none, none]) (st := S) (st1 := S) (g := srcS (a.map tm)) (a.map tm)
    (fun i env st => S = st ∧ ∃ e3 e4 e5, env = [some (tms a), some (fr q), some (fr (ev (a.take i) q)), e3, e4, e5]) (by
      have := szl
      have := h.len
      simp; omega) rfl ⟨rfl, none, none, none, rfl⟩ (fun _ _ _ _ => rfl) (fun i d env st hd hh => by
      obtain ⟨rfl, e3, e4, e5, rfl⟩ := hh
      rw [List.getElem?_map] at hd
      obtain ⟨p, hp, rfl⟩ := Option.map_eq_some_iff.mp hd
      have hm := List.mem_of_getElem? hp
      obtain ⟨k0, k1⟩ := h.k0 p hm
      obtain ⟨k, hk⟩ : ∃ k : Nat, p.1 = (k : Int) := ⟨p.1.toNat, by omega⟩
      have o := h.ok p hm
      have pk := FI.power (c := 82) (k := k) h.nn h.nd (by omega) (by omega) (by omega) S
      have mr := multiplied_raw (a := p.2.num) (b := p.2.den) (c := q.num ^ k) (d := (q.den : Int) ^ k) (den_ne _) (den_pow_ne q k) (o.num.mono (by omega)) (o.den.mono (by omega)) ((bs_pow h.nn (by omega) k).mono (by omega)) ((bs_pow h.nd (by omega) k).mono (by omega)) S
      have e1 : Rat.divInt (p.2.num * q.num ^ k) ((p.2.den : Int) * (q.den : Int) ^ k) = p.2 * pw q p.1.toNat := by
        rw [← Rat.divInt_mul_divInt, Rat.num_divInt_den, pw_div, hk]
        rfl
      rw [e1] at mr
      have ad := added4 (h.tk i) (h.tm p hm) S
      refine ⟨[some (tms a), some (fr q), some (fr (ev (a.take i) q)), some (.int p.1), some (.int p.2.num), some (.int p.2.den)], rfl, [some (tms a), some (fr q), some (fr (ev (a.take (i + 1)) q)), some (.int p.1), some (.int p.2.num), some (.int p.2.den)], S, .inl ?_, rfl, _, _, _, rfl⟩
      rw [ev_take _ _ _ hp]
      simp only [sSeq, sSet, sPar, sRet, sIf, sExpr, sNext, ofE, evCall, evL, evCons, evNil, ev1, ev2, evC, evVar, evIf, evTB, evT, evNot, tand, tor, tnot, Res.bind, Res.ofOpt, asB, List.getElem?_cons_zero, List.getElem?_cons_succ, List.set_cons_zero, List.set_cons_succ, Option.map_some, mkTup, List.length_cons, List.length_nil, two_le, Nat.zero_add, Nat.reduceAdd, if_true, hk, pk]
      rw [hk] at ad mr
      simp only [mr, ad])
  obtain ⟨rfl, e3, e4, e5, rfl⟩ := hh
  rw [List.length_map, List.take_of_length_le (Nat.le_refl _)] at r
  unfold g_value_at b_value_at runS startD
  simp only [List.map_cons, List.map_nil, List.length_cons, List.length_nil, Nat.zero_add, Nat.reduceAdd, Nat.reduceSub, List.replicate_succ, List.replicate_zero, List.cons_append, List.nil_append]
  rw [seq_nx (e := [some (tms a), some (fr q), some (fr 0), none, none, none]) (S' := S) rfl]
  rw [seq_nx r]
  simp only [sSeq, sSet, sPar, sRet, sIf, sExpr, sNext, ofE, evCall, evL, evCons, evNil, ev1, ev2, evC, evVar, evIf, evTB, evT, evNot, tand, tor, tnot, Res.bind, Res.ofOpt, asB, List.getElem?_cons_zero, List.getElem?_cons_succ, List.set_cons_zero, List.set_cons_succ, Option.map_some]
/-! ### sizes -/
theorem Lat.ab {L B : Nat} {q : Rat} (h : Lat L B q) : Lat L B (QA.ab q) := by
  unfold QA.ab
  split
  · exact h.neg
  · exact h
theorem mst_lat {L B : Nat} {t : W} (h : ∀ p ∈ t, Lat L B p.2) : Lat L B (mst t 0) := by
  rcases mst_mem t 0 with e | ⟨p, hp, e⟩
  · rw [e]; exact Lat.zero _ _
  · rw [e]; exact Lat.ab (h p hp)
/-- a worth of a lap -/
structure Wd (a : W) : Prop where
  g : Good a
  k0 : ∀ p ∈ a, 0 ≤ p.1 ∧ p.1 < 70
  sz : Sz 20 2940 (2 ^ 50) a
theorem b2940 : 2940 < 2 ^ 12 := by decide
theorem Wd.bw {a : W} (h : Wd a) : Bw a := by
  refine ⟨fun p hp => h.sz.ok (small b2940 (by omega)) (Nat.pow_lt_pow_right (by omega) (by omega)) hp, h.g.nz, fun p t e => ?_, by have := h.sz.len; omega⟩
  subst e
  have l := Lat.add (Lat.ab (h.sz.lat p List.mem_cons_self)) (mst_lat (t := t) fun r hr => h.sz.lat r (List.mem_cons_of_mem _ hr))
  exact Lat.ok l (by omega) (small b2940 (by omega)) (Nat.lt_of_lt_of_le (show 2 ^ 50 + 2 ^ 50 < 2 ^ 52 by decide) (Nat.pow_le_pow_right (by omega) (by omega)))
/-- a number and its size -/
def Nb (n : Nat) (q : Rat) : Prop := q.num.natAbs ≤ n ∧ q.den ≤ n
theorem Nb.mono {n m : Nat} {q : Rat} (h : Nb n q) (k : n ≤ m) : Nb m q := ⟨Nat.le_trans h.1 k, Nat.le_trans h.2 k⟩
theorem nb_div {t b : Int} {n : Nat} (hb : 0 < b) (h1 : t.natAbs ≤ n) (h2 : b.toNat ≤ n) : Nb n (Rat.divInt t b) := by
  obtain ⟨x, y⟩ := (lat_div (t := t) hb).num (by omega)
  exact ⟨Nat.le_trans x h1, Nat.le_trans y h2⟩
theorem Nb.mul {n m : Nat} {p q : Rat} (h : Nb n p) (k : Nb m q) : Nb (n * m) (p * q) := by
  rw [← mul_parts]
  refine nb_div (den_mul_pos p q) ?_ ?_
  · rw [Int.natAbs_mul]; exact Nat.mul_le_mul h.1 k.1
  · have e : ((p.den : Int) * (q.den : Int)).toNat = p.den * q.den := by
      rw [← Int.natCast_mul, Int.toNat_natCast]
    rw [e]; exact Nat.mul_le_mul h.2 k.2
theorem Wd.nb {a : W} (h : Wd a) (h0 : a ≠ []) : Nb (2 ^ 63) (bnd a) ∧ 0 < bnd a := by
  cases a with
  | nil => exact absurd rfl h0
  | cons p t =>
    have l1 := Lat.ab (h.sz.lat p List.mem_cons_self)
    have l2 := Lat.add l1 (mst_lat (t := t) fun r hr => h.sz.lat r (List.mem_cons_of_mem _ hr))
    obtain ⟨n1, d1⟩ := l1.num (by omega)
    obtain ⟨n2, d2⟩ := l2.num (by omega)
    have pos := sum_ne (t := t) (h.g.nz p List.mem_cons_self)
    have ap := ab_pos (h.g.nz p List.mem_cons_self)
    have np : 0 < (QA.ab p.2 + mst t 0).num := (num_pos _).mpr pos
    refine ⟨?_, ?_⟩
    · show Nb _ (QA.ab p.2 / (QA.ab p.2 + mst t 0))
      rw [← div_parts]
      refine nb_div (Int.mul_pos (by have := (QA.ab p.2).den_pos; omega) np) ?_ ?_
      · rw [Int.natAbs_mul, Int.natAbs_natCast]
        exact Nat.le_trans (Nat.mul_le_mul n1 d2) (by decide)
      · have e : (((QA.ab p.2).den : Int) * (QA.ab p.2 + mst t 0).num).toNat = (QA.ab p.2).den * (QA.ab p.2 + mst t 0).num.natAbs := by
          rw [← Int.natAbs_natCast (QA.ab p.2).den, ← Int.natAbs_mul]
          have : 0 < ((QA.ab p.2).den : Int) * (QA.ab p.2 + mst t 0).num := Int.mul_pos (by have := (QA.ab p.2).den_pos; omega) np
          rw [Int.natAbs_natCast]
          omega
        rw [e]
        exact Nat.le_trans (Nat.mul_le_mul d1 n2) (by decide)
    · show 0 < QA.ab p.2 / (QA.ab p.2 + mst t 0)
      rw [Rat.div_def]
      exact Rat.mul_pos ap (Rat.inv_pos.mpr pos)
theorem lat_pw {q : Rat} {N : Nat} (h : Nb N q) {k : Nat} (hk : k ≤ 30) : Lat (q.den ^ 30) (N ^ 30) (pw q k) := by
  have l := lat_div (t := q.num ^ k) (b := (q.den : Int) ^ k) (den_pow_pos q k)
  rw [pw_div] at l
  have e1 : ((q.den : Int) ^ k).toNat = q.den ^ k := by
    have : ((q.den : Int) ^ k) = ((q.den ^ k : Nat) : Int) := by norm_cast
    rw [this]
    omega
  rw [e1, Int.natAbs_pow] at l
  have u := l.up (q.den ^ (30 - k))
  rw [← Nat.pow_add, show k + (30 - k) = 30 by omega] at u
  refine u.le ?_
  calc q.num.natAbs ^ k * q.den ^ (30 - k) ≤ N ^ k * N ^ (30 - k) := Nat.mul_le_mul (Nat.pow_le_pow_left h.1 k) (Nat.pow_le_pow_left h.2 _)
    _ = N ^ 30 := by rw [← Nat.pow_add, show k + (30 - k) = 30 by omega]
theorem Lat.ok4 {L B : Nat} {q : Rat} (h : Lat L B q) (h0 : 0 < L) (hL : L < 2 ^ 3000) (hB : B < 2 ^ 3000) : Ok4 q := by
  obtain ⟨h1, h2⟩ := h.num h0
  exact ⟨Nat.lt_of_le_of_lt h1 hB, Nat.lt_of_le_of_lt (by simpa using h2) hL⟩
theorem n30 : (2 ^ 80) ^ 30 < 2 ^ 2401 := by rw [← Nat.pow_mul]; exact Nat.pow_lt_pow_right (by omega) (by omega)
theorem Wd.at4 {a : W} {q : Rat} (h : Wd a) (hk : ∀ p ∈ a, p.1 ≤ 30) (hq : Nb (2 ^ 80) q) : At4 a q := by
  have hden : q.den ^ 30 < 2 ^ 2401 := Nat.lt_of_le_of_lt (Nat.pow_le_pow_left hq.2 30) n30
  have pos : 0 < 2940 * q.den ^ 30 := Nat.mul_pos (by omega) (Nat.pow_pos q.den_pos)
  have lt : ∀ p ∈ a, Lat (2940 * q.den ^ 30) (2 ^ 50 * (2 ^ 80) ^ 30) (p.2 * pw q p.1.toNat) := fun p hp => (h.sz.lat p hp).mul (lat_pw hq (by have := hk p hp; have := h.k0 p hp; omega))
  have bL : 2940 * q.den ^ 30 < 2 ^ 3000 := small_mul b2940 hden (by omega)
  have bB : 2 ^ 50 * (2 ^ 80) ^ 30 < 2 ^ 2900 := small_mul (i := 51) (Nat.pow_lt_pow_right (by omega) (by omega)) n30 (by omega)
  have hlen := h.sz.len
  have p80 : 2 ^ 80 < 2 ^ 82 := Nat.pow_lt_pow_right (by omega) (by omega)
  refine ⟨Nat.lt_of_le_of_lt hq.1 p80, ?_, fun p hp => ⟨(h.k0 p hp).1, hk p hp⟩, h.bw.ok, fun i => ?_, fun p hp => Lat.ok4 (lt p hp) pos bL (small bB (by omega)), by omega⟩
  · show (q.den : Int).natAbs < 2 ^ 82
    rw [Int.natAbs_natCast]
    exact Nat.lt_of_le_of_lt hq.2 p80
  · have := lat_ev (q := q) (a := a.take i) (L := 2940 * q.den ^ 30) (B := 2 ^ 50 * (2 ^ 80) ^ 30) (fun p hp => lt p (List.mem_of_mem_take hp))
    refine Lat.ok4 this pos bL ?_
    have h1 : (a.take i).length < 2 ^ 10 := by simp; omega
    exact small_mul h1 bB (by omega)
end QC
set_option Elab.async false
set_option linter.all false
set_option maxRecDepth 100000
set_option exponentiation.threshold 2000
set_option maxHeartbeats 1000000
/-! WI: rates at a number. -/
namespace WI
open PySem PySem.Spec PyProof.Rows L2 PP MA EV FB FC FD FE FF FG FH FI FJ FJ2 FK N1 FL QA QB QC WA WB WC WD WE WF WG WH G07
variable [Tbl]
structure At7 (a : W) (q : Rat) : Prop where
  nn : Bs 64 q.num
  nd : Bs 64 (q.den : Int)
  k0 : ∀ p ∈ a, 0 ≤ p.1 ∧ p.1 < 8
  ok : ∀ p ∈ a, Ok p.2
  tk : ∀ i, Ok (ev (a.take i) q)
  tm : ∀ p ∈ a, Ok (p.2 * pw q p.1.toNat)
  len : a.length < 1000
theorem law_at7 {a : W} {q : Rat} (h : At7 a q) (S : Store) : g__law_at [tms a, fr q] S = .ok (fr (ev a q)) S := by
  have inner : ∀ (x : D) (t b : Int) (k : Nat) (e2 e3 e6 : Option D), Bs 900 t → Bs 900 b → k < 8 → ∃ e6', sFor (evRg1 (evCons (evVar 3) evNil)) (tgN 6) (sPar 4 5 (evCons (ev2 mulD (evVar 4) (ev2 subscD (evVar 1) (evC (.int 0)))) (evCons (ev2 mulD (evVar 5) (ev2 subscD (evVar 1) (evC (.int 1)))) evNil))) [some x, some (fr q), e2, some (.int k), some (.int t), some (.int b), e6] S
      = .fl (.nx [some x, some (fr q), e2, some (.int k), some (.int (t * q.num ^ k)), some (.int (b * (q.den : Int) ^ k)), e6']) S := fun x t b k e2 e3 e6 ht hb hk => by
    obtain ⟨e, s, r, hh⟩ := sFor_inv (src := evRg1 (evCons (evVar 3) evNil)) (tg := tgN 6) (body := sPar 4 5 (evCons (ev2 mulD (evVar 4) (ev2 subscD (evVar 1) (evC (.int 0)))) (evCons (ev2 mulD (evVar 5) (ev2 subscD (evVar 1) (evC (.int 1)))) evNil)))
      (env := [some x, some (fr q), e2, some (.int k), some (.int t), some (.int b), e6]) (st := S) (st1 := S) (g := srcS (rangeL 0 k)) (rangeL 0 k)
      (fun i env st => i ≤ k ∧ S = st ∧ ∃ e6, env = [some x, some (fr q), e2, some (.int k), some (.int (t * q.num ^ i)), some (.int (b * (q.den : Int) ^ i)), e6]) (by
        rw [len_range]
        have := szl
        omega) (rg_range k (by omega) rfl) ⟨by omega, rfl, e6, by simp⟩ (fun _ _ _ _ => rfl) (fun i d env st hd' hh => by
        obtain ⟨hi, rfl, e6, rfl⟩ := hh
        have hi' : i < k := by
          have := (List.getElem?_eq_some_iff.mp hd').1
          rw [len_range] at this
          exact this
        have m1 := mulD_ii (a := t * q.num ^ i) (b := q.num) ((ht.mul (bs_pow h.nn (by omega) i)).mono (by omega)) (h.nn.mono (by omega)) S
        have m2 := mulD_ii (a := b * (q.den : Int) ^ i) (b := q.den) ((hb.mul (bs_pow h.nd (by omega) i)).mono (by omega)) (h.nd.mono (by omega)) S
        refine ⟨_, rfl, [some x, some (fr q), e2, some (.int k), some (.int (t * q.num ^ (i + 1))), some (.int (b * (q.den : Int) ^ (i + 1))), some d], S, .inl ?_, by omega, rfl, some d, rfl⟩
        simp only [sSeq, sSet, sPar, sRet, sIf, sExpr, sNext, ofE, evCall, evL, evCons, evNil, ev1, ev2, evC, evVar, evIf, evTB, evT, evNot, tand, tor, tnot, Res.bind, Res.ofOpt, asB, List.getElem?_cons_zero, List.getElem?_cons_succ, List.set_cons_zero, List.set_cons_succ, Option.map_some, ix0, ix1, m1, m2, Int.pow_succ, Int.mul_assoc])
    obtain ⟨_, rfl, e6', rfl⟩ := hh
    rw [len_range] at r
    exact ⟨e6', r⟩
  obtain ⟨e, s, r, hh⟩ := sFor_inv (src := evSrc (evVar 0)) (tg := tgT 3 (tgsCons (tgN 3) (tgsCons (tgN 4) (tgsCons (tgN 5) tgsNil)))) (body := sSeq (sFor (evRg1 (evCons (evVar 3) evNil)) (tgN 6) (sPar 4 5 (evCons (ev2 mulD (evVar 4) (ev2 subscD (evVar 1) (evC (.int 0)))) (evCons (ev2 mulD (evVar 5) (ev2 subscD (evVar 1) (evC (.int 1)))) evNil)))) (sSet 2 (evCall g__law_added (evCons (evVar 2) (evCons (evCall g__law_fraction (evCons (evVar 4) (evCons (evVar 5) evNil))) evNil)))))
    (env := [some (tms a), some (fr q), some (fr 0), none, none, none, none]) (st := S) (st1 := S) (g := srcS (a.map tm)) (a.map tm)
    (fun i env st => S = st ∧ ∃ e3 e4 e5 e6, env = [some (tms a), some (fr q), some (fr (ev (a.take i) q)), e3, e4, e5, e6]) (by
      have := szl
      have := h.len
      simp; omega) rfl ⟨rfl, none, none, none, none, rfl⟩ (fun _ _ _ _ => rfl) (fun i d env st hd hh => by
      obtain ⟨rfl, e3, e4, e5, e6, rfl⟩ := hh
      rw [List.getElem?_map] at hd
      obtain ⟨p, hp, rfl⟩ := Option.map_eq_some_iff.mp hd
      have hm := List.mem_of_getElem? hp
      obtain ⟨k0, k1⟩ := h.k0 p hm
      obtain ⟨k, hk⟩ : ∃ k : Nat, p.1 = (k : Int) := ⟨p.1.toNat, by omega⟩
      have o := h.ok p hm
      obtain ⟨e6', it⟩ := inner (tms a) p.2.num p.2.den k (some (fr (ev (a.take i) q))) none e6 o.num o.den (by omega)
      have fo := FB.law_fraction (t := p.2.num * q.num ^ k) (b := (p.2.den : Int) * (q.den : Int) ^ k) (Int.mul_pos (by have := p.2.den_pos; omega) (den_pow_pos q k)) ((o.den.mul (bs_pow h.nd (by omega) k)).mono (by omega)) S
      have e1 : Rat.divInt (p.2.num * q.num ^ k) ((p.2.den : Int) * (q.den : Int) ^ k) = p.2 * pw q p.1.toNat := by
        rw [← Rat.divInt_mul_divInt, Rat.num_divInt_den, pw_div, hk]
        rfl
      rw [e1] at fo
      have ad := FB.law_added (h.tk i) (h.tm p hm) S
      refine ⟨[some (tms a), some (fr q), some (fr (ev (a.take i) q)), some (.int p.1), some (.int p.2.num), some (.int p.2.den), e6], rfl, [some (tms a), some (fr q), some (fr (ev (a.take (i + 1)) q)), some (.int p.1), some (.int (p.2.num * q.num ^ k)), some (.int ((p.2.den : Int) * (q.den : Int) ^ k)), e6'], S, .inl ?_, rfl, _, _, _, _, rfl⟩
      rw [ev_take _ _ _ hp, hk]
      rw [hk] at ad fo
      rw [seq_eq, it]
      simp only [sSeq, sSet, sPar, sRet, sIf, sExpr, sNext, ofE, evCall, evL, evCons, evNil, ev1, ev2, evC, evVar, evIf, evTB, evT, evNot, tand, tor, tnot, Res.bind, Res.ofOpt, asB, List.getElem?_cons_zero, List.getElem?_cons_succ, List.set_cons_zero, List.set_cons_succ, Option.map_some, fo, ad])
  obtain ⟨rfl, e3, e4, e5, e6, rfl⟩ := hh
  rw [List.length_map, List.take_of_length_le (Nat.le_refl _)] at r
  unfold g__law_at b__law_at runS startD
  simp only [List.map_cons, List.map_nil, List.length_cons, List.length_nil, Nat.zero_add, Nat.reduceAdd, Nat.reduceSub, List.replicate_succ, List.replicate_zero, List.cons_append, List.nil_append]
  rw [seq_eq, show sSet 2 (evL mkTup (evCons (evC (.int 0)) (evCons (evC (.int 1)) evNil))) [some (tms a), some (fr q), none, none, none, none, none] S = .fl (.nx [some (tms a), some (fr q), some (fr 0), none, none, none, none]) S from rfl]
  simp only
  rw [seq_eq, r]
  simp only [sSeq, sSet, sPar, sRet, sIf, sExpr, sNext, ofE, evCall, evL, evCons, evNil, ev1, ev2, evC, evVar, evIf, evTB, evT, evNot, tand, tor, tnot, Res.bind, Res.ofOpt, asB, List.getElem?_cons_zero, List.getElem?_cons_succ, List.set_cons_zero, List.set_cons_succ, Option.map_some]

theorem rt_wd {m : Int} {a : W} (h : Rt m a) (hm : m ≤ 70) : Wd a := ⟨h.g, fun p hp => ⟨(h.k0 p hp).1, by have := (h.k0 p hp).2; omega⟩, sz_mono (h.sz.up (c := 7) (by omega)) (by omega) (by decide)⟩
theorem rt_ne {m : Int} {a : W} (h : Rt m a) : a ≠ [] := fun z => by
  have := h.s1
  rw [z] at this
  exact absurd this (by decide)
theorem lat_pw7 {q : Rat} {N : Nat} (h : Nb N q) {k : Nat} (hk : k ≤ 7) : Lat (q.den ^ 7) (N ^ 7) (pw q k) := by
  have l := lat_div (t := q.num ^ k) (b := (q.den : Int) ^ k) (den_pow_pos q k)
  rw [pw_div] at l
  have e1 : ((q.den : Int) ^ k).toNat = q.den ^ k := by
    have : ((q.den : Int) ^ k) = ((q.den ^ k : Nat) : Int) := by norm_cast
    rw [this]
    omega
  rw [e1, Int.natAbs_pow] at l
  have u := l.up (q.den ^ (7 - k))
  rw [← Nat.pow_add, show k + (7 - k) = 7 by omega] at u
  refine u.le ?_
  calc q.num.natAbs ^ k * q.den ^ (7 - k) ≤ N ^ k * N ^ (7 - k) := Nat.mul_le_mul (Nat.pow_le_pow_left h.1 k) (Nat.pow_le_pow_left h.2 _)
    _ = N ^ 7 := by rw [← Nat.pow_add, show k + (7 - k) = 7 by omega]
theorem n7 : (2 ^ 63) ^ 7 < 2 ^ 442 := by rw [← Nat.pow_mul]; exact Nat.pow_lt_pow_right (by omega) (by omega)
theorem at7 {a : W} {q : Rat} (h : Rt 8 a) (hq : Nb (2 ^ 63) q) : At7 a q := by
  have hden : q.den ^ 7 < 2 ^ 442 := Nat.lt_of_le_of_lt (Nat.pow_le_pow_left hq.2 7) n7
  have pos : 0 < 420 * q.den ^ 7 := Nat.mul_pos (by omega) (Nat.pow_pos q.den_pos)
  have lt : ∀ p ∈ a, Lat (420 * q.den ^ 7) (1260000000 * (2 ^ 63) ^ 7) (p.2 * pw q p.1.toNat) := fun p hp => (h.sz.lat p hp).mul (lat_pw7 hq (by have := h.k0 p hp; omega))
  have bL : 420 * q.den ^ 7 < 2 ^ 900 := small_mul (i := 9) (by decide) hden (by omega)
  have bB : 1260000000 * (2 ^ 63) ^ 7 < 2 ^ 500 := small_mul (i := 31) (by decide) n7 (by omega)
  have hlen := h.sz.len
  have p63 : 2 ^ 63 < 2 ^ 64 := by decide
  refine ⟨Nat.lt_of_le_of_lt hq.1 p63, ?_, fun p hp => h.k0 p hp, (rt_wd h (by omega)).bw.ok, fun i => ?_, fun p hp => Lat.ok (lt p hp) pos bL (small bB (by omega)), by omega⟩
  · show (q.den : Int).natAbs < 2 ^ 64
    rw [Int.natAbs_natCast]
    exact Nat.lt_of_le_of_lt hq.2 p63
  · have := lat_ev (q := q) (a := a.take i) (L := 420 * q.den ^ 7) (B := 1260000000 * (2 ^ 63) ^ 7) (fun p hp => lt p (List.mem_of_mem_take hp))
    refine Lat.ok this pos bL ?_
    have h1 : (a.take i).length < 2 ^ 10 := by simp; omega
    exact small_mul h1 bB (by omega)
theorem at4' {a : W} {q : Rat} (h : Rt 8 a) (hq : Nb (2 ^ 63) q) : At4 a q := (rt_wd h (by omega)).at4 (fun p hp => by have := (h.k0 p hp).2; omega) (hq.mono (by decide))
/-! ### the package's steps at a number -/
section
variable {ns : List Str} {xs : List Stp} {q : Rat} {S : Store}
def E2 (ns : List Str) (xs : List Stp) (q : Rat) : Nat → EnvD
  | 0 => [some (webD ns xs), some (fr q), none, none, none]
  | i + 1 => match xs[i]? with
    | some x => [some (webD ns xs), some (fr q), some (.str x.1), some (tms x.2.1), some (.str x.2.2)]
    | none => [some (webD ns xs), some (fr q), none, none, none]
theorem e2_two (i : Nat) : ∃ x2 x3 x4, E2 ns xs q i = [some (webD ns xs), some (fr q), x2, x3, x4] := by
  cases i with
  | zero => exact ⟨_, _, _, rfl⟩
  | succ i =>
    cases h : xs[i]? with
    | none => exact ⟨none, none, none, by unfold E2; simp only [h]⟩
    | some x => exact ⟨some (.str x.1), some (tms x.2.1), some (.str x.2.2), by unfold E2; simp only [h]⟩
theorem web_1 (S : Store) : subscD (webD ns xs) (.int 1) S = some (.tup false (xs.map stD), S) := ix1 _ _ _ _ _
theorem less_p {a : W} (h : Rt 8 a) (hq : Nb (2 ^ 63) q) (S : Store) : Pg g_is_less [fr q, fr (bnd a)] S (.bl (decide (q < bnd a))) := fun s _ => ⟨[], by
  have nb := ((rt_wd h (by omega)).nb (rt_ne h)).1
  have ok : ∀ {p : Rat}, Nb (2 ^ 63) p → Ok p := fun n => ⟨Nat.lt_of_le_of_lt n.1 (Nat.pow_lt_pow_right (by omega) (by omega)), by
    show (_ : Int).natAbs < 2 ^ 900
    rw [Int.natAbs_natCast]
    exact Nat.lt_of_le_of_lt n.2 (Nat.pow_lt_pow_right (by omega) (by omega))⟩
  rw [List.append_nil]
  exact is_less (ok hq) (ok nb) s⟩
theorem bound_p {a : W} (h : Rt 8 a) (S : Store) : Pg g_bound_of [tms a] S (fr (bnd a)) := fun s _ => ⟨[], by
  rw [List.append_nil]
  exact bound_of (rt_wd h (by omega)).bw (rt_ne h) s⟩
abbrev keptS : Ss := (sIf (tnot (evT (evCall g_is_less (evCons (evVar 1) (evCons (evCall g_bound_of (evCons (evVar 3) evNil)) evNil)))))
 (sRaise "NotKept" ["promise", "witness"] (evCons (evC (.str "kept")) (evCons (evL mkTup (evCons (evVar 2) (evCons (evVar 4) evNil))) evNil)))
 sNext)
abbrev envX (ns : List Str) (xs : List Stp) (q : Rat) (x : Stp) : EnvD := [some (webD ns xs), some (fr q), some (.str x.1), some (tms x.2.1), some (.str x.2.2)]
theorem kept_yes {x : Stp} (h : Rt 8 x.2.1) (hq : Nb (2 ^ 63) q) (k : q < bnd x.2.1) : Bd keptS (envX ns xs q x) S (.nx (envX ns xs q x)) := by
  have l := less_p h hq S
  rw [decide_eq_true k] at l
  exact bd_if (b := false) (pr_tnot (b := true) (pr_T (pr_call (pr2 (pr_var rfl) (pr_call (pr1 (pr_var rfl)) (bound_p h S))) l) (po_bl _ _))) bd_next
theorem kept_no {x : Stp} (h : Rt 8 x.2.1) (hq : Nb (2 ^ 63) q) (k : ¬ q < bnd x.2.1) : Bd keptS (envX ns xs q x) S (.exc "NotKept" [("witness", WG.prD x), ("promise", .str "kept")]) := by
  have l := less_p h hq S
  rw [decide_eq_false k] at l
  exact bd_if (b := true) (pr_tnot (b := false) (pr_T (pr_call (pr2 (pr_var rfl) (pr_call (pr1 (pr_var rfl)) (bound_p h S))) l) (po_bl _ _))) (bd_raise (pr2 pr_c (pr_L (pr2 (pr_var rfl) (pr_var rfl)) (fun _ _ => mkTup_ok (by simp)))) rfl)
end
end WI
set_option Elab.async false
set_option linter.all false
set_option maxRecDepth 100000
set_option maxHeartbeats 1000000
/-! WJ: web_at, whole. -/
namespace WJ
open PySem PySem.Spec PyProof.Rows L2 PP MA EV FB FC FD FE FF FG FH FI FJ FJ2 FK N1 FL QA QB QC WA WB WC WD WE WF WG WH WI G07
variable [Tbl]
theorem need_web_ok {d : D} {S : Store} (h : Pg g_is_web [d] S (.bl true)) : Pg g_need_web [d] S .non := pg_nx (bd_if (pr_nT (pr_call (pr1 (pr_var rfl)) h)) bd_next)
theorem need_web_bad {d : D} {S : Store} (h : Pg g_is_web [d] S (.bl false)) : Rer (g_need_web [d]) S "BadWeb" [("web", d)] := pg_exc (bd_if (pr_nT (pr_call (pr1 (pr_var rfl)) h)) (bd_raise (pr1 (pr_var rfl)) rfl))
/-- the worth that a tuple of terms is -/
def decT : D → Int × Rat
  | .tup _ [.int k, .int t, .int b] => (k, Rat.divInt t b)
  | _ => (0, 0)
theorem dec_tm (a : W) : (a.map tm).map decT = a := by
  rw [List.map_map]
  have : decT ∘ tm = id := by
    funext p
    exact Prod.ext rfl (Rat.num_divInt_den p.2)
  rw [this, List.map_id]
def stK (f : Str → W → Str → D) : D → D
  | .tup _ [.str a, .tup _ ts, .str b] => f a (ts.map decT) b
  | d => d
theorem stK_st (f : Str → W → Str → D) (x : Stp) : stK f (stD x) = f x.1 x.2.1 x.2.2 := by
  show f x.1 ((x.2.1.map tm).map decT) x.2.2 = _
  rw [dec_tm]
abbrev atD (q : Rat) (x : Stp) : D := .tup false [.str x.1, fr (ev x.2.1 q), .str x.2.2]
theorem map_stK (f : Str → W → Str → D) (xs : List Stp) : (((xs.map stD).filter fun _ => true).map (stK f)) = xs.map fun x => f x.1 x.2.1 x.2.2 := by
  rw [List.filter_eq_self.mpr (fun _ _ => rfl), List.map_map]
  refine List.map_congr_left fun x _ => stK_st f x
section
variable {ns : List Str} {xs : List Stp} {q : Rat} {S : Store}
theorem pos_num (h : 0 < q) (S : Store) : leD (.int q.num) (.int 0) S = some (.bl false, S) := by
  have := (num_pos q).mpr h
  rw [WG.leD_ii, decide_eq_true this]
  rfl
theorem is_fr (q : Rat) (S : Store) : Pg g_is_fraction [fr q] S (.bl true) := by
  have f := is_fraction_ii false q.num q.den S
  rw [isF_fr] at f
  exact f
theorem web_at_ok (w : ∀ s, Pg g_is_web [webD ns xs] s (.bl true)) (rt : ∀ x ∈ xs, Rt 8 x.2.1) (hx : xs.length ≤ 64) (hq : Nb (2 ^ 63) q) (q0 : 0 < q) (k : ∀ x ∈ xs, q < bnd x.2.1) : Pg g_web_at [webD ns xs, fr q] S (.tup false (xs.map (atD q))) := by
  have sz := szl
  obtain ⟨x2, x3, x4, ee⟩ := e2_two (ns := ns) (xs := xs) (q := q) (xs.map stD).length
  refine pg_val (n := 5) (bd_seq (bd_expr (pr_call (pr1 (pr_var rfl)) (need_web_ok (w S)))) (bd_seq (bd_if (b := false) (pr_tor (b := false) (b' := false) (pr_tnot (b := true) (pr_T (pr_call (pr1 (pr_var rfl)) (is_fr q S)) (po_bl _ _))) (fun _ => pr_TB (pr_2 (pr_2 (pr_var rfl) pr_c (fun _ _ => ix0 _ _ _ _)) pr_c (fun _ _ => pos_num q0 _)))) bd_next) (bd_seq (e1 := E2 ns xs q (xs.map stD).length) (bd_for (E2 ns xs q) (ds := xs.map stD) (by rw [List.length_map]; omega) (sd_tup (b := false) (pr_2 (pr_var rfl) pr_c (fun _ _ => web_1 _))) (fun i d hd => ?_)) (bd_ret ?_))))
  · rw [List.getElem?_map] at hd
    obtain ⟨x, hx', rfl⟩ := Option.map_eq_some_iff.mp hd
    have hm := List.mem_of_getElem? hx'
    obtain ⟨y2, y3, y4, ei⟩ := e2_two (ns := ns) (xs := xs) (q := q) i
    have en : E2 ns xs q (i + 1) = envX ns xs q x := by unfold E2; simp only [hx']
    rw [ei, en]
    exact ⟨envX ns xs q x, rfl, kept_yes (rt x hm) hq (k x hm)⟩
  · rw [ee]
    refine pr_lcL (op := tupleD) (xs.map stD) (fun _ => true) (stK fun a w b => .tup false [.str a, fr (ev w q), .str b]) (by rw [List.length_map]; omega) (src_tup (b := false) (pr_2 (pr_var rfl) pr_c (fun _ _ => web_1 _))) (fun d hd => ?_) (fun T l _ e => ?_)
    · obtain ⟨x, hx', rfl⟩ := List.mem_map.mp hd
      refine ⟨envX ns xs q x, rfl, Rpu.of_eq fun s _ => rfl, fun _ => ?_⟩
      rw [stK_st]
      exact pr_L (pr_cons (pr_var rfl) (pr_cons (pr_call (pr2 (pr_var rfl) (pr_var rfl)) (fun s _ => ⟨[], by rw [List.append_nil]; exact value_at4 (at4' (rt x hx') hq) s⟩)) (pr_cons (pr_var rfl) pr_nil))) (fun _ _ => mkTup_ok (by simp))
    · rw [map_stK] at e
      exact tuple_ref e
theorem web_at_kept (w : ∀ s, Pg g_is_web [webD ns xs] s (.bl true)) (rt : ∀ x ∈ xs, Rt 8 x.2.1) (hx : xs.length ≤ 64) (hq : Nb (2 ^ 63) q) (q0 : 0 < q) {n : Nat} {y : Stp} (hy : xs[n]? = some y) (hn : ¬ q < bnd y.2.1) (k : ∀ i x, i < n → xs[i]? = some x → q < bnd x.2.1) : Rer (g_web_at [webD ns xs, fr q]) S "NotKept" [("witness", WG.prD y), ("promise", .str "kept")] := by
  have sz := szl
  refine pg_exc (n := 5) (bd_seq (bd_expr (pr_call (pr1 (pr_var rfl)) (need_web_ok (w S)))) (bd_seq (bd_if (b := false) (pr_tor (b := false) (b' := false) (pr_tnot (b := true) (pr_T (pr_call (pr1 (pr_var rfl)) (is_fr q S)) (po_bl _ _))) (fun _ => pr_TB (pr_2 (pr_2 (pr_var rfl) pr_c (fun _ _ => ix0 _ _ _ _)) pr_c (fun _ _ => pos_num q0 _)))) bd_next) (bd_seqE (bd_forE (E2 ns xs q) n (ds := xs.map stD) (by rw [List.length_map]; omega) (sd_tup (b := false) (pr_2 (pr_var rfl) pr_c (fun _ _ => web_1 _))) (fun i d hi hd => ?_) ?_))))
  · rw [List.getElem?_map] at hd
    obtain ⟨x, hx', rfl⟩ := Option.map_eq_some_iff.mp hd
    have hm := List.mem_of_getElem? hx'
    obtain ⟨y2, y3, y4, ei⟩ := e2_two (ns := ns) (xs := xs) (q := q) i
    have en : E2 ns xs q (i + 1) = envX ns xs q x := by unfold E2; simp only [hx']
    rw [ei, en]
    exact ⟨envX ns xs q x, rfl, kept_yes (rt x hm) hq (k i x hi hx')⟩
  · obtain ⟨y2, y3, y4, ei⟩ := e2_two (ns := ns) (xs := xs) (q := q) n
    rw [ei]
    exact ⟨stD y, envX ns xs q y, by rw [List.getElem?_map, hy]; rfl, rfl, kept_no (rt y (List.mem_of_getElem? hy)) hq hn⟩
theorem web_at_bad {d e : D} (h : Pg g_is_web [d] S (.bl false)) : Rer (g_web_at [d, e]) S "BadWeb" [("web", d)] :=
  pg_exc (n := 5) (bd_seqE (bd_exprE (rer_call (pr1 (pr_var rfl)) (need_web_bad h))))
/-- a number that is none -/
theorem web_at_num {d e : D} (w : Pg g_is_web [d] S (.bl true)) (h : Pg g_is_fraction [e] S (.bl false)) : Rer (g_web_at [d, e]) S "BadNumber" [("number", e), ("what", .str "number")] :=
  pg_exc (n := 5) (bd_seq (bd_expr (pr_call (pr1 (pr_var rfl)) (need_web_ok w))) (bd_seqE (bd_if (b := true) (pr_tor (b := true) (b' := true) (pr_tnot (b := false) (pr_T (pr_call (pr1 (pr_var rfl)) h) (po_bl _ _))) (fun z => nomatch z)) (bd_raise (pr2 pr_c (pr_var rfl)) rfl))))
/-- a fraction that is not above 0 -/
theorem web_at_low {d : D} {t b : Int} (w : Pg g_is_web [d] S (.bl true)) (h : Pg g_is_fraction [.tup false [.int t, .int b]] S (.bl true)) (ht : t ≤ 0) : Rer (g_web_at [d, .tup false [.int t, .int b]]) S "BadNumber" [("number", .tup false [.int t, .int b]), ("what", .str "number")] :=
  pg_exc (n := 5) (bd_seq (bd_expr (pr_call (pr1 (pr_var rfl)) (need_web_ok w))) (bd_seqE (bd_if (b := true) (pr_tor (b := false) (b' := true) (pr_tnot (b := true) (pr_T (pr_call (pr1 (pr_var rfl)) h) (po_bl _ _))) (fun _ => pr_TB (pr_2 (pr_2 (pr_var rfl) pr_c (fun _ _ => ix0 _ _ _ _)) pr_c (fun _ _ => by rw [WG.leD_ii, decide_eq_false (by omega)]; rfl)))) (bd_raise (pr2 pr_c (pr_var rfl)) rfl))))
end
end WJ
set_option Elab.async false
set_option linter.all false
set_option maxRecDepth 100000
set_option maxHeartbeats 1000000
/-! WK: a lap of k07: the web, its bounds, the number, what is wrong. -/
namespace WK
open PySem PySem.Spec PyProof.Rows L2 PP MA EV FB FC FD FE FF FG FH FI FJ FJ2 FK N1 FL QA QB QC WA WB WC WD WE WF WG WH WI WJ G07
variable [Tbl]
structure Wx (ns : List Str) (xs : List Stp) : Prop where
  nm : ∀ s ∈ ns, Nm s
  u : ns.Pairwise Lt
  ne : ns ≠ []
  ln : ns.length ≤ 8
  st : ∀ x ∈ xs, WF.St 8 ns x
  up : xs.Pairwise PLt
  lx : xs.length ≤ 64
theorem Wx.is {ns : List Str} {xs : List Stp} (h : Wx ns xs) (S : Store) : Pg g_is_web [webD ns xs] S (.bl true) := is_web_ok h.nm h.u h.ne (by have := h.ln; omega) h.st h.up h.lx S
theorem Wx.rt {ns : List Str} {xs : List Stp} (h : Wx ns xs) : ∀ x ∈ xs, Rt 8 x.2.1 := fun x hx => (h.st x hx).rt
section
variable {n : Nat} {S : Store} {lp : Nat} {env : EnvD} {ns : List Str} {xs : List Stp} {q : Rat}
theorem u1 (g1 : G env 1 (.ref lp)) (hp : Pen (n + 1092) S lp) : ∃ ns xs S', sSet 3 (evCall g__law_web (evCons (evVar 1) (evCons (evCall g__law_names (evCons (evVar 1) (evCons (ev2 addD (evC (.int 2)) (evCall g__law_draw (evCons (evVar 1) (evCons (evC (.int 5)) evNil)))) evNil))) (evCons (ev2 addD (evC (.int 1)) (evCall g__law_draw (evCons (evVar 1) (evCons (evC (.int 8)) evNil)))) (evCons (evC (.int 5)) evNil))))) env S = .fl (.nx (env.set 3 (some (webD ns xs)))) S' ∧ Wx ns xs ∧ Pen n S' lp ∧ Kp lp S S' := by
  have lp1 := hp.lt1
  obtain ⟨k, S1, q1, k0, k1, p1, kk1⟩ := draw (n := n + 1091) (many := 5) hp (by omega) (by omega)
  obtain ⟨N, hN⟩ : ∃ N : Nat, 2 + k = (N : Int) := ⟨(2 + k).toNat, by omega⟩
  obtain ⟨r, ns, S2, q2, g2, nl, nm, u⟩ := law_names (n := n + 1025) (N := N) (p1.mono (by omega)) (by omega)
  obtain ⟨s, S3, q3, s0, s1, p3, kk3⟩ := draw (n := n + 1024) (many := 8) g2.pen (by omega) (by omega)
  have l1 := kk1.len
  have rn : r ≠ lp := by have := g2.new; omega
  obtain ⟨xs, S4, q4, st, up, lx, p4, kk4⟩ := law_web (n := n) (share := 1 + s) (o := 5) (m := 8) (ns := ns) (by omega) (by omega) (by omega) u nm (kk3.get g2.at_ rn) rn (by omega) p3
  refine ⟨ns, xs, S4, set_run ?_, ⟨nm, u, fun z => by rw [z] at nl; simp at nl; omega, by omega, st, up, lx⟩, p4, ((kk1.trans g2.kp).trans kk3).trans kk4⟩
  simp only [sSeq, sSet, sPar, sRet, sIf, sExpr, sNext, ofE, evCall, evL, evCons, evNil, ev1, ev2, evC, evVar, evIf, evTB, evT, evNot, tand, tor, tnot, Res.bind, Res.ofOpt, asB, List.getElem?_cons_zero, List.getElem?_cons_succ, List.set_cons_zero, List.set_cons_succ, Option.map_some, g1, q1, addD_ii, hN, q2, q3, q4]
abbrev bdD (x : Stp) : D := .tup false [.str x.1, .str x.2.2, fr (bnd x.2.1)]
theorem src_web {i : Nat} (g : G env i (webD ns xs)) : evSrc (ev2 subscD (evVar i) (evC (.int 1))) env S = .ok (srcS (xs.map stD)) S := by
  unfold evSrc
  simp only [sSeq, sSet, sPar, sRet, sIf, sExpr, sNext, ofE, evCall, evL, evCons, evNil, ev1, ev2, evC, evVar, evIf, evTB, evT, evNot, tand, tor, tnot, Res.bind, Res.ofOpt, asB, List.getElem?_cons_zero, List.getElem?_cons_succ, List.set_cons_zero, List.set_cons_succ, Option.map_some, g, web_1, srcD, Option.map_some]
theorem u2 (g3 : G env 3 (webD ns xs)) (el : env.length = 15) (h : Wx ns xs) : ∃ ex, sSet 4 (evLc (evSrc (ev2 subscD (evVar 3) (evC (.int 1)))) (tgT 3 (tgsCons (tgN 11) (tgsCons (tgN 12) (tgsCons (tgN 13) tgsNil)))) [11, 12, 13] tyes (evL mkTup (evCons (evVar 11) (evCons (evVar 13) (evCons (evCall g__law_bound (evCons (evVar 12) evNil)) evNil))))) env S = .fl (.nx (env.set 4 (some (.ref S.length)))) (S ++ (false, .lst (xs.map bdD)) :: ex) := by
  have sz := szl
  have lx := h.lx
  obtain ⟨ex, r⟩ := lc_run (src := evSrc (ev2 subscD (evVar 3) (evC (.int 1)))) (tg := (tgT 3 (tgsCons (tgN 11) (tgsCons (tgN 12) (tgsCons (tgN 13) tgsNil))))) (vs := [11, 12, 13]) (tt := tyes) (te := (evL mkTup (evCons (evVar 11) (evCons (evVar 13) (evCons (evCall g__law_bound (evCons (evVar 12) evNil)) evNil))))) (env := env) (st := S) (st1 := S) (g := srcS (xs.map stD)) (xs.map stD) (fun _ => true) (stK fun a w b => .tup false [.str a, .str b, fr (bnd w)]) (by rw [List.length_map]; omega) (src_web g3) (fun _ _ _ => rfl) (fun d hd => by
    obtain ⟨x, hx, rfl⟩ := List.mem_map.mp hd
    obtain ⟨E, hE⟩ : ∃ E, (((wipeD env [11, 12, 13]).set 11 (some (.str x.1))).set 12 (some (tms x.2.1))).set 13 (some (.str x.2.2)) = E := ⟨_, rfl⟩
    have wl : (wipeD env [11, 12, 13]).length = 15 := by simp [wipeD, el]
    have w1 : G E 11 (.str x.1) := by rw [← hE]; exact g_ne (g_ne (g_eq (by omega)) (by decide)) (by decide)
    have w2 : G E 12 (tms x.2.1) := by rw [← hE]; exact g_ne (g_eq (by rw [List.length_set]; omega)) (by decide)
    have w3 : G E 13 (.str x.2.2) := by rw [← hE]; exact g_eq (by rw [List.length_set, List.length_set]; omega)
    refine ⟨E, hE ▸ rfl, Rpu.of_eq fun s _ => rfl, fun _ => Rpu.of_eq fun T _ => ?_⟩
    rw [stK_st]
    have rx := h.rt x hx
    have lb := law_bound (rt_wd rx (by omega)).bw (rt_ne rx) T
    have mt : mkTup [.str x.1, .str x.2.2, fr (bnd x.2.1)] T = some (bdD x, T) := mkTup_ok (by simp)
    simp only [sSeq, sSet, sPar, sRet, sIf, sExpr, sNext, ofE, evCall, evL, evCons, evNil, ev1, ev2, evC, evVar, evIf, evTB, evT, evNot, tand, tor, tnot, Res.bind, Res.ofOpt, asB, List.getElem?_cons_zero, List.getElem?_cons_succ, List.set_cons_zero, List.set_cons_succ, Option.map_some, w1, w2, w3, lb, mt])
  rw [map_stK] at r
  exact ⟨ex, set_run r⟩
theorem u3 (g1 : G env 1 (.ref lp)) (hp : Pen (n + 3) S lp) : ∃ q S', sSet 5 (evCall g__law_fraction (evCons (ev2 addD (evC (.int 1)) (evCall g__law_draw (evCons (evVar 1) (evCons (evC (.int 40)) evNil)))) (evCons (ev2 addD (evC (.int 1)) (evCall g__law_draw (evCons (evVar 1) (evCons (evCall g__law_pick (evCons (evVar 1) (evCons (evL mkLst (evCons (evC (.int 20)) (evCons (evC (.int 60)) (evCons (ev2 powD (evC (.int 10)) (evC (.int 6))) evNil)))) evNil))) evNil)))) evNil))) env S = .fl (.nx (env.set 5 (some (fr q)))) S' ∧ Nb (2 ^ 63) q ∧ 0 < q ∧ Pen n S' lp ∧ Kp lp S S' := by
  obtain ⟨t, S1, q1, t0, t1, p1, k1⟩ := draw (n := n + 2) (many := 40) hp (by omega) (by omega)
  obtain ⟨v, S2, q2, m2, p2, k2⟩ := pick_new (n := n + 1) (ds := [.int 20, .int 60, .int 1000000]) p1 (by simp) (by simp)
  obtain ⟨m, rfl, m0, m1⟩ : ∃ m : Int, v = .int m ∧ 0 < m ∧ m ≤ 1000000 := by
    simp only [List.mem_cons, List.not_mem_nil, or_false] at m2
    rcases m2 with rfl | rfl | rfl <;> exact ⟨_, rfl, by omega, by omega⟩
  obtain ⟨b, S3, q3, b0, b1, p3, k3⟩ := draw (n := n) (many := m) p2 m0 (by omega)
  have ml := mkLst_new (ds := [.int 20, .int 60, .int 1000000]) (S := S1) (by simp)
  have bs : Bs 1990 (1 + b) := by
    have : Bs 20 (1 + b) := by unfold Bs; omega
    exact this.mono (by omega)
  have fq := FB.law_fraction (t := 1 + t) (b := 1 + b) (by omega) bs S3
  refine ⟨Rat.divInt (1 + t) (1 + b), S3, set_run ?_, nb_div (by omega) (by omega) (by omega), ?_, p3, (k1.trans k2).trans k3⟩
  · simp only [sSeq, sSet, sPar, sRet, sIf, sExpr, sNext, ofE, evCall, evL, evCons, evNil, ev1, ev2, evC, evVar, evIf, evTB, evT, evNot, tand, tor, tnot, Res.bind, Res.ofOpt, asB, List.getElem?_cons_zero, List.getElem?_cons_succ, List.set_cons_zero, List.set_cons_succ, Option.map_some, g1, q1, addD_ii, pow6, ml, q2, q3, fq]
  · rw [Rat.divInt_eq_div, Rat.div_def]
    have a1 : (0 : Rat) < ((1 + t : Int) : Rat) := by exact_mod_cast (show (0 : Int) < 1 + t by omega)
    have a2 : (0 : Rat) < ((1 + b : Int) : Rat) := by exact_mod_cast (show (0 : Int) < 1 + b by omega)
    exact Rat.mul_pos a1 (Rat.inv_pos.mpr a2)
theorem neX_nilL {l k : Nat} {ds : List D} {ps : List PyData} (e : S[l]? = some (false, .lst ds)) (f : S[k]? = some (false, .lst [])) (h : optAll (ds.map (toP S 29)) = some ps) : neX (.ref l) (.ref k) S = some (.bl (!ds.isEmpty), S) := by
  have hl : ds.isEmpty = ps.isEmpty := by
    cases ds with
    | nil => cases h; rfl
    | cons d ds =>
      obtain ⟨a, l', _, _, rfl⟩ := optAll_cons h
      rfl
  unfold neX neD empD
  simp only [f, rd_ref e h, rd_ref f (ps := []) rfl]
  rw [hl]
  cases ps <;> simp [PyData.eqv, PyData.eqvAll]
theorem rd_bds (nm : ∀ s ∈ ns, Nm s) (h : ∀ x ∈ xs, WF.St 8 ns x) : optAll ((xs.map bdD).map (toP S 29)) = some (xs.map fun x => .tuple [.str x.1, .str x.2.2, .tuple [.int (bnd x.2.1).num, .int ((bnd x.2.1).den : Int)]]) := by
  have : (xs.map bdD).map (toP S 29) = xs.map fun x => some (PyData.tuple [.str x.1, .str x.2.2, .tuple [.int (bnd x.2.1).num, .int ((bnd x.2.1).den : Int)]]) := by
    rw [List.map_map]
    refine List.map_congr_left fun x hx => ?_
    have t1 := (nm _ (h x hx).m1).tok
    have t2 := (nm _ (h x hx).m2).tok
    show (optAll [toP S 28 (.str x.1), toP S 28 (.str x.2.2), toP S 28 (fr (bnd x.2.1))]).map PyData.tuple = _
    have e1 : toP S 28 (.str x.1) = some (.str x.1) := by
      show (if PyData.strOk x.1 = true then some (PyData.str x.1) else none) = _
      rw [if_pos t1.str]
    have e2 : toP S 28 (.str x.2.2) = some (.str x.2.2) := by
      show (if PyData.strOk x.2.2 = true then some (PyData.str x.2.2) else none) = _
      rw [if_pos t2.str]
    rw [e1, e2]
    rfl
  rw [this, optAll_some]
abbrev U4 : Ss := (sIf (tand (evTB (ev2 neX (evVar 4) (evL mkLst evNil))) (evTB (ev2 eqX (evCall g__law_draw (evCons (evVar 1) (evCons (evC (.int 3)) evNil))) (evC (.int 0)))))
 (sSet 5 (ev2 subscD (evCall g__law_pick (evCons (evVar 1) (evCons (evVar 4) evNil))) (evC (.int 2))))
 sNext)
theorem u4 {l : Nat} (g1 : G env 1 (.ref lp)) (g4 : G env 4 (.ref l)) (g5 : G env 5 (fr q)) (el : env.length = 15) (h : Wx ns xs) (e : S[l]? = some (false, .lst (xs.map bdD))) (ln : l ≠ lp) (hp : Pen (n + 2) S lp) (nq : Nb (2 ^ 63) q) (q0 : 0 < q) :
    ∃ q' v S', U4 env S = .fl (.nx (env.set 5 v)) S' ∧ G (env.set 5 v) 5 (fr q') ∧ Nb (2 ^ 63) q' ∧ 0 < q' ∧ Pen n S' lp ∧ Kp lp S S' := by
  have lt := hp.lt
  have m0 := mkLst_new (ds := []) (S := S) (by simp)
  have e' := app_at e [(false, Cell.lst [])]
  have nn := neX_nilL e' (at_end S [] _) (rd_bds h.nm h.st)
  have stay : env.set 5 (some (fr q)) = env := by
    refine List.ext_getElem? fun i => ?_
    rw [List.getElem?_set]
    split
    · rename_i hi
      subst hi
      rw [if_pos (by omega)]
      exact g5.symm
    · rfl
  by_cases em : (xs.map bdD).isEmpty = true
  · rw [em] at nn
    refine ⟨q, some (fr q), S ++ [(false, .lst [])], ?_, g_eq (by omega), nq, q0, (hp.app _).mono (by omega), Kp.app lp S _⟩
    rw [stay]
    refine if_no ?_
    simp only [sSeq, sSet, sPar, sRet, sIf, sExpr, sNext, ofE, evCall, evL, evCons, evNil, ev1, ev2, evC, evVar, evIf, evTB, evT, evNot, tand, tor, tnot, Res.bind, Res.ofOpt, asB, List.getElem?_cons_zero, List.getElem?_cons_succ, List.set_cons_zero, List.set_cons_succ, Option.map_some, g4, m0, nn, Bool.not_true, Bool.false_eq_true, if_false]
  · rw [Bool.not_eq_true] at em
    rw [em] at nn
    obtain ⟨k, S1, q1, k0, k1, p1, kk1⟩ := draw (n := n + 1) (many := 3) (hp.app [(false, .lst [])]) (by omega) (by omega)
    have kk := (Kp.app lp S [(false, .lst [])]).trans kk1
    by_cases z : k = 0
    · obtain ⟨d, S2, q2, m2, p2, kk2⟩ := law_pick (n := n) p1 (kk.get e ln) ln (by
        intro z
        rw [z] at em
        cases em) (by rw [List.length_map]; have := h.lx; omega)
      obtain ⟨x, hx, rfl⟩ := List.mem_map.mp m2
      have rx := h.rt x hx
      obtain ⟨nb, pos⟩ := (rt_wd rx (by omega)).nb (rt_ne rx)
      refine ⟨bnd x.2.1, some (fr (bnd x.2.1)), S2, ?_, g_eq (by omega), nb, pos, p2, kk.trans kk2⟩
      refine (if_then (S' := S1) (by simp only [sSeq, sSet, sPar, sRet, sIf, sExpr, sNext, ofE, evCall, evL, evCons, evNil, ev1, ev2, evC, evVar, evIf, evTB, evT, evNot, tand, tor, tnot, Res.bind, Res.ofOpt, asB, List.getElem?_cons_zero, List.getElem?_cons_succ, List.set_cons_zero, List.set_cons_succ, Option.map_some, g1, g4, m0, nn, Bool.not_false, if_true, q1, eqX_ii, z, decide_true])).trans (set_run ?_)
      have i2 := ix2' (.str x.1) (.str x.2.2) (fr (bnd x.2.1)) S2
      simp only [sSeq, sSet, sPar, sRet, sIf, sExpr, sNext, ofE, evCall, evL, evCons, evNil, ev1, ev2, evC, evVar, evIf, evTB, evT, evNot, tand, tor, tnot, Res.bind, Res.ofOpt, asB, List.getElem?_cons_zero, List.getElem?_cons_succ, List.set_cons_zero, List.set_cons_succ, Option.map_some, g1, g4, q2, i2]
    · refine ⟨q, some (fr q), S1, ?_, g_eq (by omega), nq, q0, p1.mono (by omega), kk⟩
      rw [stay]
      refine if_no ?_
      simp only [sSeq, sSet, sPar, sRet, sIf, sExpr, sNext, ofE, evCall, evL, evCons, evNil, ev1, ev2, evC, evVar, evIf, evTB, evT, evNot, tand, tor, tnot, Res.bind, Res.ofOpt, asB, List.getElem?_cons_zero, List.getElem?_cons_succ, List.set_cons_zero, List.set_cons_succ, Option.map_some, g1, g4, m0, nn, Bool.not_false, if_true, q1, eqX_ii, z, decide_false]
end
end WK
set_option Elab.async false
set_option linter.all false
set_option maxRecDepth 100000
set_option maxHeartbeats 1000000
/-! WL: names shown; what is wrong; what is due. -/
namespace WL
open PySem PySem.Spec PyProof.Rows L2 PP MA EV FB FC FD FE FF FG FH FI FJ FJ2 FK N1 N2 FL QA QB QC WA WB WC WD WE WF WG WH WI WJ WK G07
variable [Tbl]
/-! ### names shown -/
theorem rep_fold {q : Nat} (hq : q = 34 ∨ q = 39) : ∀ (l : List Nat) (acc : Array Nat), (∀ c ∈ l, c ∈ AL) → (l.foldl (fun out c => out ++ (Builtin.Str.reprChar q c).toArray) acc).toList = acc.toList ++ l
  | [], acc, _ => by simp
  | c :: l, acc, h => by
    have key : ∀ c ∈ AL, Builtin.Str.reprChar 34 c = [c] ∧ Builtin.Str.reprChar 39 c = [c] := by decide +kernel
    have hc : Builtin.Str.reprChar q c = [c] := by
      rcases hq with rfl | rfl
      · exact (key c (h c List.mem_cons_self)).1
      · exact (key c (h c List.mem_cons_self)).2
    rw [List.foldl_cons, rep_fold hq l _ (fun x hx => h x (List.mem_cons_of_mem _ hx)), hc]
    simp
theorem rep_cps {s : Str} (h : ∀ c ∈ s.cps.toList, c ∈ AL) : ∃ q, (q = 34 ∨ q = 39) ∧ (reprText s).cps.toList = q :: (s.cps.toList ++ [q]) := by
  have hq : reprQuote s = 34 ∨ reprQuote s = 39 := by unfold reprQuote; split <;> simp
  refine ⟨reprQuote s, hq, ?_⟩
  unfold reprText
  show ((s.cps.foldl (fun out c => out ++ (Builtin.Str.reprChar (reprQuote s) c).toArray) #[reprQuote s]).push (reprQuote s)).toList = _
  rw [Array.toList_push, ← Array.foldl_toList, rep_fold hq _ _ h]
  simp
theorem shows_nm {s : Str} (h : Nm s) (S : Store) (k : Nat) : Shows S (.str s) (k + 1) 1921 := by
  have ok := h.tok
  obtain ⟨q, hq, e⟩ := rep_cps h.al
  have l := h.len
  refine ⟨.str s, ?_, ⟨by simp only [PyData.showable, ok.str], ?_, ?_⟩⟩
  · show (if PyData.strOk s = true then some (PyData.str s) else none) = _
    rw [if_pos ok.str]
  · simp only [PyData.shown]
    show (reprText s).cps.toList.length ≤ 1921
    rw [e]
    simp only [List.length_cons, List.length_append, List.length_nil]
    omega
  · simp only [PyData.shown]
    intro c hc
    rw [e] at hc
    rcases List.mem_cons.mp hc with rfl | z
    · rcases hq with rfl | rfl <;> omega
    · rcases List.mem_append.mp z with z | z
      · exact ok c z
      · rw [List.mem_singleton.mp z]
        rcases hq with rfl | rfl <;> omega
theorem shows_fr {q : Rat} (h : Ok q) (S : Store) (k : Nat) : Shows S (fr q) (k + 2) 5772 := (shows_tup (B := 1921) (fun d hd => by
  simp only [List.mem_cons, List.not_mem_nil, or_false] at hd
  rcases hd with rfl | rfl
  · exact shows_int h.num
  · exact shows_int h.den)).mono (by simp)
section
variable {n : Nat} {S : Store} {lp : Nat} {env : EnvD} {ns : List Str} {xs : List Stp} {q : Rat}
theorem at7_full {a : W} (h : At7 a q) : Ok (ev a q) := by
  have := h.tk a.length
  rw [List.take_of_length_le (Nat.le_refl _)] at this
  exact this
theorem shows_at (h : Wx ns xs) (hq : Nb (2 ^ 63) q) (T : Store) : Shows T (.tup false (xs.map (atD q))) 30 3000000 := by
  refine (shows_tup (k := 29) (B := 17325) (fun d hd => ?_)).mono (by
    rw [List.length_map]
    have : xs.length * (17325 + 2) ≤ 64 * 17327 := Nat.mul_le_mul_right _ h.lx
    omega)
  obtain ⟨x, hx, rfl⟩ := List.mem_map.mp hd
  have s := h.st x hx
  refine (shows_tup (k := 28) (B := 5772) (fun d hd => ?_)).mono (by simp)
  simp only [List.mem_cons, List.not_mem_nil, or_false] at hd
  rcases hd with rfl | rfl | rfl
  · exact (shows_nm (h.nm _ s.m1) T 27).mono (by omega)
  · exact shows_fr (at7_full (at7 s.rt hq)) T 26
  · exact (shows_nm (h.nm _ s.m2) T 27).mono (by omega)
theorem op_run {op : OpL} {F : Ev D} {T T2 : Store} {d z : D} (h : F env S = .ok d T) (h2 : op [d] T = some (z, T2)) : evL op (evCons F evNil) env S = .ok z T2 := by
  unfold evL evCons evNil
  simp only [h, Res.bind, h2, Res.ofOpt]
/-! ### what is wrong -/
def pW (q : Rat) : D → Bool
  | .tup _ [_, _, .tup _ [.int a, .int b]] => !decide (q.num * b < a * (q.den : Int))
  | _ => false
def kW : D → D
  | .tup _ [a, b, _] => .tup false [a, b]
  | d => d
def wrg (q : Rat) (x : Stp) : Bool := !decide (q < bnd x.2.1)
theorem wrong_eq (xs : List Stp) : ((xs.map bdD).filter (pW q)).map kW = (xs.filter (wrg q)).map WG.prD := by
  rw [List.filter_map, List.map_map]
  have e : (pW q ∘ bdD) = wrg q := by
    funext x
    show (!decide (q.num * ((bnd x.2.1).den : Int) < (bnd x.2.1).num * (q.den : Int))) = _
    rw [lt_dec]
    rfl
  rw [e]
  rfl
theorem ok_nb {p : Rat} (n : Nb (2 ^ 63) p) : Ok p := ⟨Nat.lt_of_le_of_lt n.1 (Nat.pow_lt_pow_right (by omega) (by omega)), by
    show (_ : Int).natAbs < 2 ^ 900
    rw [Int.natAbs_natCast]
    exact Nat.lt_of_le_of_lt n.2 (Nat.pow_lt_pow_right (by omega) (by omega))⟩
abbrev wrongL : Ev D := (evLc (evSrc (evVar 4)) (tgT 3 (tgsCons (tgN 11) (tgsCons (tgN 13) (tgsCons (tgN 14) tgsNil)))) [11, 13, 14] (evTB (ev2 geD (ev2 mulD (ev2 subscD (evVar 5) (evC (.int 0))) (ev2 subscD (evVar 14) (evC (.int 1)))) (ev2 mulD (ev2 subscD (evVar 14) (evC (.int 0))) (ev2 subscD (evVar 5) (evC (.int 1)))))) (evL mkTup (evCons (evVar 11) (evCons (evVar 13) evNil))))
theorem u5 {l : Nat} (g4 : G env 4 (.ref l)) (g5 : G env 5 (fr q)) (el : env.length = 15) (h : Wx ns xs) (e : S[l]? = some (false, .lst (xs.map bdD))) (hq : Nb (2 ^ 63) q) : ∃ ex, sSet 6 wrongL env S = .fl (.nx (env.set 6 (some (.ref S.length)))) (S ++ (false, .lst ((xs.filter (wrg q)).map WG.prD)) :: ex) := by
  have sz := szl
  have lx := h.lx
  obtain ⟨ex, r⟩ := lc_run (src := evSrc (evVar 4)) (tg := (tgT 3 (tgsCons (tgN 11) (tgsCons (tgN 13) (tgsCons (tgN 14) tgsNil))))) (vs := [11, 13, 14]) (tt := (evTB (ev2 geD (ev2 mulD (ev2 subscD (evVar 5) (evC (.int 0))) (ev2 subscD (evVar 14) (evC (.int 1)))) (ev2 mulD (ev2 subscD (evVar 14) (evC (.int 0))) (ev2 subscD (evVar 5) (evC (.int 1))))))) (te := (evL mkTup (evCons (evVar 11) (evCons (evVar 13) evNil)))) (env := env) (st := S) (st1 := S) (g := srcL l) (xs.map bdD) (pW q) kW (by rw [List.length_map]; omega) (src_ref g4 e) (fun s i x => srcL_at e x i) (fun d hd => by
    obtain ⟨x, hx, rfl⟩ := List.mem_map.mp hd
    obtain ⟨E, hE⟩ : ∃ E, (((wipeD env [11, 13, 14]).set 11 (some (.str x.1))).set 13 (some (.str x.2.2))).set 14 (some (fr (bnd x.2.1))) = E := ⟨_, rfl⟩
    have wl : (wipeD env [11, 13, 14]).length = 15 := by simp [wipeD, el]
    have w1 : G E 11 (.str x.1) := by rw [← hE]; exact g_ne (g_ne (g_eq (by omega)) (by decide)) (by decide)
    have w3 : G E 13 (.str x.2.2) := by rw [← hE]; exact g_ne (g_eq (by rw [List.length_set]; omega)) (by decide)
    have w4 : G E 14 (fr (bnd x.2.1)) := by rw [← hE]; exact g_eq (by rw [List.length_set, List.length_set]; omega)
    have w5 : G E 5 (fr q) := by
      rw [← hE]
      refine g_ne (g_ne (g_ne ?_ (by decide)) (by decide)) (by decide)
      show G (((env.set 14 none).set 13 none).set 11 none) 5 (fr q)
      exact g_ne (g_ne (g_ne g5 (by decide)) (by decide)) (by decide)
    have rx := h.rt x hx
    have ob := ok_nb ((rt_wd rx (by omega)).nb (rt_ne rx)).1
    have oq := ok_nb hq
    refine ⟨E, hE ▸ rfl, Rpu.of_eq fun T _ => ?_, fun _ => Rpu.of_eq fun T _ => ?_⟩
    · have m1 := mulD_ii oq.k1 ob.k2 T
      have m2 := mulD_ii ob.k1 oq.k2 T
      show _ = Res.ok (!decide (q.num * ((bnd x.2.1).den : Int) < (bnd x.2.1).num * (q.den : Int))) T
      simp only [sSeq, sSet, sPar, sRet, sIf, sExpr, sNext, ofE, evCall, evL, evCons, evNil, ev1, ev2, evC, evVar, evIf, evTB, evT, evNot, tand, tor, tnot, Res.bind, Res.ofOpt, asB, List.getElem?_cons_zero, List.getElem?_cons_succ, List.set_cons_zero, List.set_cons_succ, Option.map_some, w5, w4, ix0, ix1, m1, m2, geD_ii]
    · have mt : mkTup [.str x.1, .str x.2.2] T = some (WG.prD x, T) := mkTup_ok (by simp)
      show _ = Res.ok (WG.prD x) T
      simp only [sSeq, sSet, sPar, sRet, sIf, sExpr, sNext, ofE, evCall, evL, evCons, evNil, ev1, ev2, evC, evVar, evIf, evTB, evT, evNot, tand, tor, tnot, Res.bind, Res.ofOpt, asB, List.getElem?_cons_zero, List.getElem?_cons_succ, List.set_cons_zero, List.set_cons_succ, Option.map_some, w1, w3, mt])
  rw [wrong_eq] at r
  exact ⟨ex, set_run r⟩
/-! ### what is due -/
theorem u6 (g3 : G env 3 (webD ns xs)) (g5 : G env 5 (fr q)) (el : env.length = 15) (h : Wx ns xs) (hq : Nb (2 ^ 63) q) {p : PyData} (rp : ∀ T, rdP T (.tup false (xs.map (atD q))) = some p) (sp : Sh p 3000000) : ∃ ex, sSet 7 (evL reprD (evCons (evL tupleD (evCons (evLc (evSrc (ev2 subscD (evVar 3) (evC (.int 1)))) (tgT 3 (tgsCons (tgN 11) (tgsCons (tgN 12) (tgsCons (tgN 13) tgsNil)))) [11, 12, 13] tyes (evL mkTup (evCons (evVar 11) (evCons (evCall g__law_at (evCons (evVar 12) (evCons (evVar 5) evNil))) (evCons (evVar 13) evNil))))) evNil)) evNil)) env S = .fl (.nx (env.set 7 (some (.str p.shown)))) (S ++ ex) := by
  have sz := szl
  have lx := h.lx
  obtain ⟨ex, r⟩ := lc_run (src := evSrc (ev2 subscD (evVar 3) (evC (.int 1)))) (tg := (tgT 3 (tgsCons (tgN 11) (tgsCons (tgN 12) (tgsCons (tgN 13) tgsNil))))) (vs := [11, 12, 13]) (tt := tyes) (te := (evL mkTup (evCons (evVar 11) (evCons (evCall g__law_at (evCons (evVar 12) (evCons (evVar 5) evNil))) (evCons (evVar 13) evNil))))) (env := env) (st := S) (st1 := S) (g := srcS (xs.map stD)) (xs.map stD) (fun _ => true) (stK fun a w b => .tup false [.str a, fr (ev w q), .str b]) (by rw [List.length_map]; omega) (src_web g3) (fun _ _ _ => rfl) (fun d hd => by
    obtain ⟨x, hx, rfl⟩ := List.mem_map.mp hd
    obtain ⟨E, hE⟩ : ∃ E, (((wipeD env [11, 12, 13]).set 11 (some (.str x.1))).set 12 (some (tms x.2.1))).set 13 (some (.str x.2.2)) = E := ⟨_, rfl⟩
    have wl : (wipeD env [11, 12, 13]).length = 15 := by simp [wipeD, el]
    have w1 : G E 11 (.str x.1) := by rw [← hE]; exact g_ne (g_ne (g_eq (by omega)) (by decide)) (by decide)
    have w2 : G E 12 (tms x.2.1) := by rw [← hE]; exact g_ne (g_eq (by rw [List.length_set]; omega)) (by decide)
    have w3 : G E 13 (.str x.2.2) := by rw [← hE]; exact g_eq (by rw [List.length_set, List.length_set]; omega)
    have w5 : G E 5 (fr q) := by
      rw [← hE]
      refine g_ne (g_ne (g_ne ?_ (by decide)) (by decide)) (by decide)
      show G (((env.set 13 none).set 12 none).set 11 none) 5 (fr q)
      exact g_ne (g_ne (g_ne g5 (by decide)) (by decide)) (by decide)
    refine ⟨E, hE ▸ rfl, Rpu.of_eq fun s _ => rfl, fun _ => Rpu.of_eq fun T _ => ?_⟩
    rw [stK_st]
    have la := law_at7 (at7 (h.rt x hx) hq) T
    have mt : mkTup [.str x.1, fr (ev x.2.1 q), .str x.2.2] T = some (atD q x, T) := mkTup_ok (by simp)
    simp only [sSeq, sSet, sPar, sRet, sIf, sExpr, sNext, ofE, evCall, evL, evCons, evNil, ev1, ev2, evC, evVar, evIf, evTB, evT, evNot, tand, tor, tnot, Res.bind, Res.ofOpt, asB, List.getElem?_cons_zero, List.getElem?_cons_succ, List.set_cons_zero, List.set_cons_succ, Option.map_some, w1, w2, w3, w5, la, mt])
  rw [map_stK] at r
  have t := tuple_ref (at_end S ex (false, Cell.lst (xs.map (atD q))))
  have rr := repr_big (rp (S ++ (false, .lst (xs.map (atD q))) :: ex)) (sp.mono (by omega))
  refine ⟨(false, .lst (xs.map (atD q))) :: ex, set_run ?_⟩
  exact op_run (op_run r t) rr
end
end WL
set_option Elab.async false
set_option linter.all false
set_option maxRecDepth 100000
set_option maxHeartbeats 1000000
/-! WM: web_at asked; values that are none. -/
namespace WM
open PySem PySem.Spec PyProof.Rows L2 PP MA EV FB FC FD FE FF FG FH FI FJ FJ2 FK N1 N2 FL QA QB QC WA WB WC WD WE WF WG WH WI WJ WK WL G07
variable [Tbl]
/-! ### tried calls -/
theorem ref_kept {fb : Ev D} {env : EnvD} {S : Store} {d : D} {n : Str} {p : PyData} (h : Rer (fb env) S "NotKept" [("witness", d), ("promise", .str n)]) (e : rdP S d = some p) (k : Sh p 10000000) : Pr (evRef exT hs__law_refused fb) env S (.tup false [.str n, .str p.shown]) := fun s x => by
  obtain ⟨ex, q⟩ := h s x
  refine ⟨ex, ?_⟩
  have t1 : exT "NotKept" "BadNumber" = some false := by decide +kernel
  have t2 : exT "NotKept" "NotKept" = some true := by decide +kernel
  have r := repr_big (toP_keep (Lk.ext (x.app ex)) _ _ _ e) k
  unfold evRef hs__law_refused
  rw [q]
  simp only [pickH, t1, t2]
  have f : List.lookup ("witness" : Str) [(("witness" : Str), d), (("promise" : Str), D.str n)] = some d := rfl
  have f2 : List.lookup ("promise" : Str) [(("witness" : Str), d), (("promise" : Str), D.str n)] = some (.str n) := rfl
  simp only [sSeq, sSet, sPar, sRet, sIf, sExpr, sNext, ofE, evCall, evL, evCons, evNil, ev1, ev2, evC, evVar, evIf, evTB, evT, evNot, tand, tor, tnot, Res.bind, Res.ofOpt, asB, List.getElem?_cons_zero, List.getElem?_cons_succ, List.set_cons_zero, List.set_cons_succ, Option.map_some, evFld, f, f2, r, mkTup_ok (show [D.str n, D.str p.shown].length ≤ 1000 by simp)]
theorem ref_num {fb : Ev D} {env : EnvD} {S : Store} {d : D} {n : Str} {p : PyData} (h : Rer (fb env) S "BadNumber" [("number", d), ("what", .str n)]) (e : rdP S d = some p) (k : Sh p 10000000) : Pr (evRef exT hs__law_refused fb) env S (.tup false [.str n, .str p.shown]) := fun s x => by
  obtain ⟨ex, q⟩ := h s x
  refine ⟨ex, ?_⟩
  have t1 : exT "BadNumber" "BadNumber" = some true := by decide +kernel
  have r := repr_big (toP_keep (Lk.ext (x.app ex)) _ _ _ e) k
  unfold evRef hs__law_refused
  rw [q]
  simp only [pickH, t1]
  have f : List.lookup ("number" : Str) [(("number" : Str), d), (("what" : Str), D.str n)] = some d := rfl
  have f2 : List.lookup ("what" : Str) [(("number" : Str), d), (("what" : Str), D.str n)] = some (.str n) := rfl
  simp only [sSeq, sSet, sPar, sRet, sIf, sExpr, sNext, ofE, evCall, evL, evCons, evNil, ev1, ev2, evC, evVar, evIf, evTB, evT, evNot, tand, tor, tnot, Res.bind, Res.ofOpt, asB, List.getElem?_cons_zero, List.getElem?_cons_succ, List.set_cons_zero, List.set_cons_succ, Option.map_some, evFld, f, f2, r, mkTup_ok (show [D.str n, D.str p.shown].length ≤ 1000 by simp)]
theorem ref_web {fb : Ev D} {env : EnvD} {S : Store} {d : D} {p : PyData} (h : Rer (fb env) S "BadWeb" [("web", d)]) (e : rdP S d = some p) (k : Sh p 10000000) : Pr (evRef exT hs__law_refused fb) env S (.tup false [.str "web", .str p.shown]) := fun s x => by
  obtain ⟨ex, q⟩ := h s x
  refine ⟨ex, ?_⟩
  have t1 : exT "BadWeb" "BadNumber" = some false := by decide +kernel
  have t2 : exT "BadWeb" "NotKept" = some false := by decide +kernel
  have t3 : exT "BadWeb" "BadWeb" = some true := by decide +kernel
  have r := repr_big (toP_keep (Lk.ext (x.app ex)) _ _ _ e) k
  unfold evRef hs__law_refused
  rw [q]
  simp only [pickH, t1, t2, t3]
  have f : List.lookup ("web" : Str) [(("web" : Str), d)] = some d := rfl
  simp only [sSeq, sSet, sPar, sRet, sIf, sExpr, sNext, ofE, evCall, evL, evCons, evNil, ev1, ev2, evC, evVar, evIf, evTB, evT, evNot, tand, tor, tnot, Res.bind, Res.ofOpt, asB, List.getElem?_cons_zero, List.getElem?_cons_succ, List.set_cons_zero, List.set_cons_succ, Option.map_some, evFld, f, r, mkTup_ok (show [D.str "web", D.str p.shown].length ≤ 1000 by simp)]
abbrev tx (s t : Str) : D := .tup false [.str s, .str t]
theorem pr_tx {f g : Ev D} {env : EnvD} {S : Store} {s t : Str} (h : Pr f env S (.str s)) (k : Pr g env S (.str t)) : Pr (evL mkTup (evCons f (evCons g evNil))) env S (tx s t) := pr_L (pr2 h k) (fun _ _ => rfl)
theorem rd_tx {s t : Str} (hs : TOk s) (ht : TOk t) (S : Store) (k : Nat) : toP S (k + 2) (tx s t) = some (.tuple [.str s, .str t]) := by
  show (optAll [toP S (k + 1) (.str s), toP S (k + 1) (.str t)]).map PyData.tuple = _
  have e1 : toP S (k + 1) (.str s) = some (.str s) := by
    show (if PyData.strOk s = true then some (PyData.str s) else none) = _
    rw [if_pos hs.str]
  have e2 : toP S (k + 1) (.str t) = some (.str t) := by
    show (if PyData.strOk t = true then some (PyData.str t) else none) = _
    rw [if_pos ht.str]
  rw [e1, e2]
  rfl
theorem neX_tx {s t : Str} (hs : TOk s) (ht : TOk t) (S : Store) : neX (tx s t) (tx s t) S = some (.bl false, S) := neX_same (rd_tx hs ht S 28) (rd_tx hs ht S 28) rfl
section
variable {n : Nat} {S : Store} {lp : Nat} {env : EnvD} {ns : List Str} {xs : List Stp} {q : Rat}
theorem rd_prs {ys : List Stp} (h : ∀ y ∈ ys, TOk y.1 ∧ TOk y.2.2) : optAll ((ys.map WG.prD).map (toP S 29)) = some (ys.map fun y => .tuple [.str y.1, .str y.2.2]) := by
  have : (ys.map WG.prD).map (toP S 29) = ys.map fun y => some (PyData.tuple [.str y.1, .str y.2.2]) := by
    rw [List.map_map]
    refine List.map_congr_left fun y hy => ?_
    exact rd_tx (h y hy).1 (h y hy).2 S 27
  rw [this, optAll_some]
/-- the first that is wrong -/
theorem first_wrong {y : Stp} {ys : List Stp} : ∀ {xs : List Stp}, xs.filter (wrg q) = y :: ys → ∃ n, xs[n]? = some y ∧ ¬ q < bnd y.2.1 ∧ ∀ (i : Nat) (x : Stp), i < n → xs[i]? = some x → q < bnd x.2.1
  | [], h => by cases h
  | x :: xs, h => by
    rw [List.filter_cons] at h
    by_cases c : q < bnd x.2.1
    · have w : wrg q x = false := by unfold wrg; rw [decide_eq_true c]; rfl
      rw [w, if_neg Bool.false_ne_true] at h
      obtain ⟨n, h1, h2, h3⟩ := first_wrong h
      refine ⟨n + 1, h1, h2, fun i z hi hz => ?_⟩
      cases i with
      | zero =>
        have : x = z := Option.some.inj hz
        rw [← this]; exact c
      | succ i => exact h3 i z (by omega) hz
    · have w : wrg q x = true := by unfold wrg; rw [decide_eq_false c]; rfl
      rw [w, if_pos rfl] at h
      have e : x = y := (List.cons.inj h).1
      exact ⟨0, by rw [e]; rfl, by rw [← e]; exact c, fun i z hi => by omega⟩
theorem none_wrong (h : xs.filter (wrg q) = []) : ∀ x ∈ xs, q < bnd x.2.1 := fun x hx => by
  have := List.filter_eq_nil_iff.mp h x hx
  unfold wrg at this
  simpa using this
abbrev U7 : Ss := (sIf (evTB (ev2 neX (evVar 6) (evL mkLst evNil)))
 (sIf (evTB (ev2 neX (evRef exT hs__law_refused (evCall g_web_at (evCons (evVar 3) (evCons (evVar 5) evNil)))) (evL mkTup (evCons (evC (.str "kept")) (evCons (evL reprD (evCons (ev2 subscD (evVar 6) (evC (.int 0))) evNil)) evNil)))))
 (sRet (evC (.bl false)))
 sNext)
 (sIf (evTB (ev2 neX (evL reprD (evCons (evCall g_web_at (evCons (evVar 3) (evCons (evVar 5) evNil))) evNil)) (evVar 7)))
 (sRet (evC (.bl false)))
 sNext))
theorem if_else {c : Ev Bool} {f g : Ss} {S' : Store} (h : c env S = .ok false S') : sIf c f g env S = g env S' := by
  unfold sIf ofE
  rw [h]
  rfl
theorem u7 {l : Nat} {p : PyData} (g3 : G env 3 (webD ns xs)) (g5 : G env 5 (fr q)) (g6 : G env 6 (.ref l)) (g7 : G env 7 (.str p.shown)) (h : Wx ns xs) (hq : Nb (2 ^ 63) q) (q0 : 0 < q) (e6 : S[l]? = some (false, .lst ((xs.filter (wrg q)).map WG.prD))) (rp : ∀ T, rdP T (.tup false (xs.map (atD q))) = some p) (sp : Sh p 3000000) :
    ∃ ex, U7 env S = .fl (.nx env) (S ++ ex) := by
  have m0 := mkLst_new (ds := []) (S := S) (by simp)
  have tks : ∀ y ∈ xs.filter (wrg q), TOk y.1 ∧ TOk y.2.2 := fun y hy => by
    have s := h.st y (List.mem_filter.mp hy).1
    exact ⟨(h.nm _ s.m1).tok, (h.nm _ s.m2).tok⟩
  have nn := neX_nilL (app_at e6 [(false, Cell.lst [])]) (at_end S [] _) (rd_prs tks)
  cases hf : xs.filter (wrg q) with
  | nil =>
    rw [hf] at nn e6
    have ok := web_at_ok (S := S ++ [(false, Cell.lst [])]) h.is h.rt h.lx hq q0 (none_wrong hf)
    obtain ⟨x1, q1⟩ := pr_repr (pr_call (pr2 (pr_var g3) (pr_var g5)) ok) (rp _) (sp.mono (by omega)) (S ++ [(false, Cell.lst [])]) ⟨[], by simp⟩
    refine ⟨[(false, .lst [])] ++ x1, ?_⟩
    rw [← List.append_assoc]
    refine (if_else (S' := S ++ [(false, .lst [])]) ?_).trans (if_no ?_)
    · simp only [sSeq, sSet, sPar, sRet, sIf, sExpr, sNext, ofE, evCall, evL, evCons, evNil, ev1, ev2, evC, evVar, evIf, evTB, evT, evNot, tand, tor, tnot, Res.bind, Res.ofOpt, asB, List.getElem?_cons_zero, List.getElem?_cons_succ, List.set_cons_zero, List.set_cons_succ, Option.map_some, g6, m0, nn, List.map_nil, List.isEmpty_nil, Bool.not_true]
    · unfold evTB ev2
      simp only [q1, Res.bind, evVar, g7, neX_str sp.txt, Res.ofOpt, asB, Option.map_some]
  | cons y ys =>
    rw [hf] at nn e6
    obtain ⟨k, h1, h2, h3⟩ := first_wrong hf
    have ty := tks y (by rw [hf]; exact List.mem_cons_self)
    have sy := h.st y (List.mem_of_getElem? h1)
    have er := web_at_kept (S := S ++ [(false, Cell.lst [])]) h.is h.rt h.lx hq q0 h1 h2 h3
    obtain ⟨py, ry, sh⟩ := shows_all (S := S) (k := 29) (B := 1921) (ds := [.str y.1, .str y.2.2]) (fun d hd => by
      simp only [List.mem_cons, List.not_mem_nil, or_false] at hd
      rcases hd with rfl | rfl
      · exact shows_nm (h.nm _ sy.m1) S 28
      · exact shows_nm (h.nm _ sy.m2) S 28) (by simp) (by omega)
    have ry2 : ∀ T, rdP T (WG.prD y) = some py := fun T => by
      have a := rd_tx ty.1 ty.2 S 28
      have b := rd_tx ty.1 ty.2 T 28
      have : some py = some (.tuple [.str y.1, .str y.2.2]) := ry.symm.trans a
      rw [this]
      exact b
    obtain ⟨x1, q1⟩ := ref_kept (env := env) (fb := evCall g_web_at (evCons (evVar 3) (evCons (evVar 5) evNil))) (rer_call (pr2 (pr_var g3) (pr_var g5)) er) (ry2 _) (sh.mono (by omega)) (S ++ [(false, Cell.lst [])]) ⟨[], by simp⟩
    have e6' := app_at (app_at e6 [(false, Cell.lst [])]) x1
    have r2 := repr_big (ry2 (S ++ [(false, Cell.lst [])] ++ x1)) (sh.mono (by omega))
    have i0 : subscD (.ref l) (.int 0) (S ++ [(false, Cell.lst [])] ++ x1) = some (WG.prD y, S ++ [(false, Cell.lst [])] ++ x1) := by
      have a0 : L2.atI ((y :: ys).map WG.prD) 0 = some (WG.prD y) := by simp [L2.atI, L2.ixN]
      unfold subscD ixD
      simp only [e6', a0, Option.map_some]
    refine ⟨[(false, .lst [])] ++ x1, ?_⟩
    rw [← List.append_assoc]
    refine (if_then (S' := S ++ [(false, .lst [])]) ?_).trans (if_no ?_)
    · simp only [sSeq, sSet, sPar, sRet, sIf, sExpr, sNext, ofE, evCall, evL, evCons, evNil, ev1, ev2, evC, evVar, evIf, evTB, evT, evNot, tand, tor, tnot, Res.bind, Res.ofOpt, asB, List.getElem?_cons_zero, List.getElem?_cons_succ, List.set_cons_zero, List.set_cons_succ, Option.map_some, g6, m0, nn, List.map_cons, List.isEmpty_cons, Bool.not_false]
    · have mt : mkTup [.str "kept", .str py.shown] (S ++ [(false, Cell.lst [])] ++ x1) = some (tx "kept" py.shown, S ++ [(false, Cell.lst [])] ++ x1) := mkTup_ok (by simp)
      have nt := neX_tx (tok_of "kept") sh.txt (S ++ [(false, Cell.lst [])] ++ x1)
      refine ne_run (d := tx "kept" py.shown) (e := tx "kept" py.shown) q1 ?_ nt
      simp only [sSeq, sSet, sPar, sRet, sIf, sExpr, sNext, ofE, evCall, evL, evCons, evNil, ev1, ev2, evC, evVar, evIf, evTB, evT, evNot, tand, tor, tnot, Res.bind, Res.ofOpt, asB, List.getElem?_cons_zero, List.getElem?_cons_succ, List.set_cons_zero, List.set_cons_succ, Option.map_some, g6, i0, r2, mt]
end
end WM
set_option Elab.async false
set_option linter.all false
set_option maxRecDepth 100000
set_option maxHeartbeats 1000000
/-! WN: odd values of k07. -/
namespace WN
open PySem PySem.Spec PyProof.Rows L2 PP MA EV FB FC FD FE FF FG FH FI FJ FJ2 FK N1 N2 FL QA QB QC WA WB WC WD WE WF WG WH WI WJ WK WL WM G07
variable [Tbl]
section
variable {n : Nat} {S : Store} {lp : Nat} {env : EnvD} {ns : List Str} {xs : List Stp} {q : Rat} {d : D}
def oddW (lw : Nat) : List D := [.non, .tup false [], .ref lw, .tup false [.tup false [], .tup false []]]
abbrev webL (ns : List Str) (xs : List Stp) : List D := [.tup false (ns.map D.str), .tup false (xs.map stD)]
theorem shows_names (h : Wx ns xs) (T : Store) (k : Nat) : Shows T (.tup false (ns.map D.str)) (k + 2) 20000 := (shows_tup (k := k + 1) (B := 1921) (fun d hd => by
  obtain ⟨s, hs, rfl⟩ := List.mem_map.mp hd
  exact shows_nm (h.nm s hs) T k)).mono (by
    rw [List.length_map]
    have : ns.length * (1921 + 2) ≤ 8 * 1923 := Nat.mul_le_mul_right _ h.ln
    omega)
theorem shows_steps (h : Wx ns xs) (T : Store) (k : Nat) : Shows T (.tup false (xs.map stD)) (k + 5) 3400000 := (shows_tup (k := k + 4) (B := 51984) (fun d hd => by
  obtain ⟨x, hx, rfl⟩ := List.mem_map.mp hd
  have s := h.st x hx
  have wd := rt_wd s.rt (by omega)
  have rk := rok_of wd.sz (small b2940 (by omega)) (Nat.pow_lt_pow_right (by omega) (by omega)) (fun p hp => (wd.k0 p hp).1) (fun p hp => by have := (wd.k0 p hp).2; omega)
  have st : Shows T (tms x.2.1) (k + 3) 17325 := (shows_tup (k := k + 2) (B := 5772) (fun d hd => by
    obtain ⟨p, hp, rfl⟩ := List.mem_map.mp hd
    exact shows_tm (k := k) (rk _ (List.mem_map_of_mem hp)))).mono (by
      rw [List.length_map]
      have : x.2.1.length * (5772 + 2) ≤ 3 * 5774 := Nat.mul_le_mul_right _ s.rt.sz.len
      omega)
  refine (shows_tup (k := k + 3) (B := 17325) (fun d hd => ?_)).mono (by simp)
  simp only [List.mem_cons, List.not_mem_nil, or_false] at hd
  rcases hd with rfl | rfl | rfl
  · exact (shows_nm (h.nm _ s.m1) T (k + 2)).mono (by omega)
  · exact st
  · exact (shows_nm (h.nm _ s.m2) T (k + 2)).mono (by omega))).mono (by
    rw [List.length_map]
    exact Nat.le_trans (Nat.add_le_add_right (Nat.mul_le_mul_right (51984 + 2) h.lx) 3) (by decide))
theorem odd_all {lw : Nat} (h : Wx ns xs) (e : S[lw]? = some (false, .lst (webL ns xs))) (hd : d ∈ oddW lw) : Pg g_is_web [d] S (.bl false) ∧ ∃ p, rdP S d = some p ∧ Sh p 10000000 := by
  simp only [oddW, List.mem_cons, List.not_mem_nil, or_false] at hd
  have se : ∀ k, Shows S (.tup false []) (k + 1) 3 := fun k => (shows_tup (B := 0) (fun d hd => by cases hd)).mono (by simp)
  rcases hd with rfl | rfl | rfl | rfl
  · exact ⟨is_web_no (isi_of (n := 0) (show Kd S 1 .non from True.intro) rfl), PyData.none, rfl, sh_none.mono (show 1921 ≤ 10000000 by omega)⟩
  · obtain ⟨p, r, s⟩ := se 29
    exact ⟨is_web_e S, p, r, s.mono (by omega)⟩
  · refine ⟨is_web_no (isi_of (n := 0) (show Kd S 1 (.ref lw) from ⟨_, _, e⟩) rfl), ?_⟩
    · obtain ⟨p, r, s⟩ := shows_lst (k := 29) (B := 3400000) e (fun d hd => by
        simp only [List.mem_cons, List.not_mem_nil, or_false] at hd
        rcases hd with rfl | rfl
        · exact (shows_names h S 27).mono (by omega)
        · exact shows_steps h S 24)
      exact ⟨p, r, s.mono (by simp)⟩
  · obtain ⟨p, r, s⟩ := shows_tup (S := S) (b := false) (ds := [.tup false [], .tup false []]) (k := 29) (B := 3) (fun d hd => by
      simp only [List.mem_cons, List.not_mem_nil, or_false] at hd
      rcases hd with rfl | rfl <;> exact se 28)
    exact ⟨is_web_ee S, p, r, s.mono (by simp)⟩
abbrev t2 (x y : Int) : D := .tup false [.int x, .int y]
def badL (lb : Nat) : List D := [.non, t2 0 1, t2 (-1) 2, t2 2 4, t2 1 0, .int 1, .ref lb, .tup false [.bl true, .int 2], .str "1/2"]
theorem shows_t2 (S : Store) (x y : Int) (h : x.natAbs < 1000 ∧ y.natAbs < 1000) : ∃ p, rdP S (t2 x y) = some p ∧ Sh p 10000000 := by
  obtain ⟨p, r, s⟩ := shows_all (S := S) (k := 29) (B := 1921) (ds := [.int x, .int y]) (fun d hd => by
    simp only [List.mem_cons, List.not_mem_nil, or_false] at hd
    rcases hd with rfl | rfl
    · exact shows_i S 28 x h.1
    · exact shows_i S 28 y h.2) (by simp) (by omega)
  exact ⟨p, r, s.mono (by omega)⟩
theorem kd_t2 (S : Store) (x y : D) (hx : Kd S 1 x) (hy : Kd S 1 y) : Kd S 2 (.tup false [x, y]) := kd_tup fun d hd => by
  simp only [List.mem_cons, List.not_mem_nil, or_false] at hd
  rcases hd with rfl | rfl
  · exact hx
  · exact hy
theorem bad_all {lb : Nat} (h : Wx ns xs) (e : S[lb]? = some (false, .lst [.int 1, .int 2])) (hd : d ∈ badL lb) : Rer (g_web_at [webD ns xs, d]) S "BadNumber" [("number", d), ("what", .str "number")] ∧ ∃ p, rdP S d = some p ∧ Sh p 10000000 := by
  have no : ∀ {d}, Kd S 2 d → isFD d = false → Rer (g_web_at [webD ns xs, d]) S "BadNumber" [("number", d), ("what", .str "number")] := fun {d} kd hf => by
    have f := is_fraction_d (n := 0) kd
    rw [hf] at f
    exact web_at_num (h.is S) f
  have low : ∀ {t b : Int}, isFD (t2 t b) = true → t ≤ 0 → Rer (g_web_at [webD ns xs, t2 t b]) S "BadNumber" [("number", t2 t b), ("what", .str "number")] := fun {t b} hf ht => by
    have f := is_fraction_d (n := 0) (kd_t2 S (.int t) (.int b) True.intro True.intro)
    rw [hf] at f
    exact web_at_low (h.is S) f ht
  simp only [badL, List.mem_cons, List.not_mem_nil, or_false] at hd
  rcases hd with rfl | rfl | rfl | rfl | rfl | rfl | rfl | rfl | rfl
  · exact ⟨no True.intro rfl, PyData.none, rfl, sh_none.mono (show 1921 ≤ 10000000 by omega)⟩
  · exact ⟨low (by decide +kernel) (by omega), shows_t2 S _ _ (by decide)⟩
  · exact ⟨low (by decide +kernel) (by omega), shows_t2 S _ _ (by decide)⟩
  · exact ⟨no (kd_t2 S _ _ True.intro True.intro) (by decide +kernel), shows_t2 S _ _ (by decide)⟩
  · exact ⟨no (kd_t2 S _ _ True.intro True.intro) (by decide +kernel), shows_t2 S _ _ (by decide)⟩
  · obtain ⟨p, r, s⟩ := shows_i S 29 1 (by decide)
    exact ⟨no True.intro rfl, p, r, s.mono (by omega)⟩
  · obtain ⟨p, r, s⟩ := shows_lst (k := 29) (B := 1921) e (fun d hd => by
      simp only [List.mem_cons, List.not_mem_nil, or_false] at hd
      rcases hd with rfl | rfl <;> exact shows_i S 28 _ (by decide))
    exact ⟨no ⟨_, _, e⟩ rfl, p, r, s.mono (by simp)⟩
  · obtain ⟨p, r, s⟩ := shows_all (S := S) (k := 29) (B := 1921) (ds := [.bl true, .int 2]) (fun d hd => by
      simp only [List.mem_cons, List.not_mem_nil, or_false] at hd
      rcases hd with rfl | rfl
      · exact shows_bl S true 28
      · exact shows_i S 28 2 (by decide)) (by simp) (by omega)
    exact ⟨no (kd_t2 S _ _ True.intro True.intro) rfl, p, r, s.mono (by omega)⟩
  · obtain ⟨p, r, s⟩ := shows_s S 29 "1/2" "'1/2'" (by decide +kernel) (by decide +kernel)
    exact ⟨no True.intro rfl, p, r, s.mono (by omega)⟩
end
end WN
set_option Elab.async false
set_option linter.all false
set_option maxRecDepth 100000
set_option maxHeartbeats 1000000
/-! WO: the lap of k07, and the law. -/
namespace WO
open PySem PySem.Spec PyProof.Rows L2 PP MA EV FB FC FD FE FF FG FH FI FJ FJ2 FK N1 N2 FL QA QB QC WA WB WC WD WE WF WG WH WI WJ WK WL WM WN G07
variable [Tbl]
section
variable {n : Nat} {S : Store} {lp : Nat} {env : EnvD} {ns : List Str} {xs : List Stp} {q : Rat} {d b : D}
abbrev L8 : Ev (List D) := (evCons (evC .non) (evCons (evL mkTup evNil) (evCons (evL listD (evCons (evVar 3) evNil)) (evCons (evL mkTup (evCons (evL mkTup evNil) (evCons (evL mkTup evNil) evNil))) evNil))))
theorem u8 (g1 : G env 1 (.ref lp)) (g3 : G env 3 (webD ns xs)) (hp : Pen (n + 1) S lp) : ∃ d lw S', sSet 8 (evCall g__law_pick (evCons (evVar 1) (evCons (evL mkLst L8) evNil))) env S = .fl (.nx (env.set 8 (some d))) S' ∧ d ∈ oddW lw ∧ S'[lw]? = some (false, .lst (webL ns xs)) ∧ lw ≠ lp ∧ Pen n S' lp ∧ Kp lp S S' := by
  have lt := hp.lt
  have hL : L8 env S = .ok (oddW S.length) (S ++ [(false, .lst (webL ns xs))]) := by
    have m0 : ∀ s, mkTup [] s = some (.tup false [], s) := fun s => mkTup_ok (by simp)
    have m2 : ∀ (x y : D) s, mkTup [x, y] s = some (.tup false [x, y], s) := fun x y s => mkTup_ok (by simp)
    have ld : listD [webD ns xs] S = some (.ref S.length, S ++ [(false, .lst (webL ns xs))]) := rfl
    unfold L8
    simp only [sSeq, sSet, sPar, sRet, sIf, sExpr, sNext, ofE, evCall, evL, evCons, evNil, ev1, ev2, evC, evVar, evIf, evTB, evT, evNot, tand, tor, tnot, Res.bind, Res.ofOpt, asB, List.getElem?_cons_zero, List.getElem?_cons_succ, List.set_cons_zero, List.set_cons_succ, Option.map_some, m0, m2, g3, ld]
    rfl
  obtain ⟨d, S', q, m, p, k⟩ := pick_new (n := n) (ds := oddW S.length) (hp.app [(false, .lst (webL ns xs))]) (by simp [oddW]) (by simp [oddW])
  have ml := mkLst_new (ds := oddW S.length) (S := S ++ [(false, .lst (webL ns xs))]) (by simp [oddW])
  refine ⟨d, S.length, S', set_run ?_, m, k.get (at_end S [] _) (by omega), by omega, p, (Kp.app lp S _).trans k⟩
  unfold evCall evCons evL evNil
  simp only [evVar, g1, Res.bind, hL, ml, Res.ofOpt, q]
abbrev L9 : Ev (List D) := (evCons (evC .non) (evCons (evL mkTup (evCons (evC (.int 0)) (evCons (evC (.int 1)) evNil))) (evCons (evL mkTup (evCons (ev1 negD (evC (.int 1))) (evCons (evC (.int 2)) evNil))) (evCons (evL mkTup (evCons (evC (.int 2)) (evCons (evC (.int 4)) evNil))) (evCons (evL mkTup (evCons (evC (.int 1)) (evCons (evC (.int 0)) evNil))) (evCons (evC (.int 1)) (evCons (evL mkLst (evCons (evC (.int 1)) (evCons (evC (.int 2)) evNil))) (evCons (evL mkTup (evCons (evC (.bl true)) (evCons (evC (.int 2)) evNil))) (evCons (evC (.str "1/2")) evNil)))))))))
theorem u9 (g1 : G env 1 (.ref lp)) (hp : Pen (n + 1) S lp) : ∃ b lb S', sSet 9 (evCall g__law_pick (evCons (evVar 1) (evCons (evL mkLst L9) evNil))) env S = .fl (.nx (env.set 9 (some b))) S' ∧ b ∈ badL lb ∧ S'[lb]? = some (false, .lst [.int 1, .int 2]) ∧ Pen n S' lp ∧ Kp lp S S' := by
  have lt := hp.lt
  have hL : L9 env S = .ok (badL S.length) (S ++ [(false, .lst [.int 1, .int 2])]) := rfl
  obtain ⟨d, S', q, m, p, k⟩ := pick_new (n := n) (ds := badL S.length) (hp.app [(false, .lst [.int 1, .int 2])]) (by simp [badL]) (by simp [badL])
  have ml := mkLst_new (ds := badL S.length) (S := S ++ [(false, .lst [.int 1, .int 2])]) (by simp [badL])
  refine ⟨d, S.length, S', set_run ?_, m, k.get (at_end S [] _) (by omega), p, (Kp.app lp S _).trans k⟩
  unfold evCall evCons evL evNil
  simp only [evVar, g1, Res.bind, hL, ml, Res.ofOpt, q]
theorem mk_run {fl : Ev (List D)} {T U : Store} {ds : List D} (q : fl env T = .ok ds U) (h : ds.length ≤ 1000) : evL mkLst fl env T = .ok (.ref U.length) (U ++ [(false, .lst ds)]) := by
  have ml := mkLst_new (ds := ds) (S := U) h
  unfold evL
  simp only [q, Res.bind, ml, Res.ofOpt]
abbrev TailB : Ss := (sSeq (sSet 10 (evL mkLst (evCons (evRef exT hs__law_refused (evCall g_web_at (evCons (evVar 8) (evCons (evVar 9) evNil)))) evNil)))
 (sSeq (sExpr (evM isLst appendM (evVar 10) (evCons (evRef exT hs__law_refused (evCall g_web_at (evCons (evVar 3) (evCons (evVar 9) evNil)))) evNil)))
 (sIf (evTB (ev2 neX (evVar 10) (evL mkLst (evCons (evL mkTup (evCons (evC (.str "web")) (evCons (evL reprD (evCons (evVar 8) evNil)) evNil))) (evCons (evL mkTup (evCons (evC (.str "number")) (evCons (evL reprD (evCons (evVar 9) evNil)) evNil))) evNil)))))
 (sRet (evC (.bl false)))
 sNext)))
theorem tail_run {p pb : PyData} (g3 : G env 3 (webD ns xs)) (g8 : G env 8 d) (g9 : G env 9 b) (el : env.length = 15) (w0 : Pg g_is_web [d] S (.bl false)) (rb : Rer (g_web_at [webD ns xs, b]) S "BadNumber" [("number", b), ("what", .str "number")]) (rp : rdP S d = some p) (sp : Sh p 10000000) (rpb : rdP S b = some pb) (spb : Sh pb 10000000) :
    ∃ env' S', TailB env S = .fl (.nx env') S' ∧ Ext S S' ∧ env'.length = 15 ∧ env'[1]? = env[1]? := by
  obtain ⟨f, S1, q1, k1⟩ := found0 (i := 10) (ref_web (env := env) (fb := evCall g_web_at (evCons (evVar 8) (evCons (evVar 9) evNil))) (rer_call (pr2 (pr_var g8) (pr_var g9)) (web_at_bad w0)) rp sp)
  obtain ⟨E, hE⟩ : ∃ E, env.set 10 (some (.ref f)) = E := ⟨_, rfl⟩
  have h10 : G E 10 (.ref f) := by rw [← hE]; exact g_eq (by omega)
  have h3 : G E 3 (webD ns xs) := by rw [← hE]; exact g_ne g3 (by decide)
  have h8 : G E 8 d := by rw [← hE]; exact g_ne g8 (by decide)
  have h9 : G E 9 b := by rw [← hE]; exact g_ne g9 (by decide)
  rw [hE] at q1
  obtain ⟨ex2, q2, k2⟩ := found1 h10 (ref_num (env := E) (fb := evCall g_web_at (evCons (evVar 3) (evCons (evVar 9) evNil))) (rer_call (pr2 (pr_var h3) (pr_var h9)) rb) rpb spb) k1 (by simp)
  obtain ⟨T, hT⟩ : ∃ T, (S1 ++ ex2).set f (false, .lst ([D.tup false [.str "web", .str p.shown]] ++ [D.tup false [.str "number", .str pb.shown]])) = T := ⟨_, rfl⟩
  rw [hT] at q2 k2
  have w1 : Pr (evCons (evL mkTup (evCons (evC (.str "web")) (evCons (evL reprD (evCons (evVar 8) evNil)) evNil))) (evCons (evL mkTup (evCons (evC (.str "number")) (evCons (evL reprD (evCons (evVar 9) evNil)) evNil))) evNil)) E S [tx "web" p.shown, tx "number" pb.shown] := pr2 (pr_tx pr_c (pr_repr (pr_var h8) rp sp)) (pr_tx pr_c (pr_repr (pr_var h9) rpb spb))
  obtain ⟨k, ex3, q3, e3⟩ : ∃ k ex, evL mkLst (evCons (evL mkTup (evCons (evC (.str "web")) (evCons (evL reprD (evCons (evVar 8) evNil)) evNil))) (evCons (evL mkTup (evCons (evC (.str "number")) (evCons (evL reprD (evCons (evVar 9) evNil)) evNil))) evNil)) E T = .ok (.ref k) (T ++ ex) ∧ (T ++ ex)[k]? = some (false, .lst [tx "web" p.shown, tx "number" pb.shown]) := by
    obtain ⟨x, q⟩ := w1 T k2.ext
    refine ⟨(T ++ x).length, x ++ [(false, .lst [tx "web" p.shown, tx "number" pb.shown])], ?_, ?_⟩
    · rw [← List.append_assoc]
      exact mk_run q (by simp)
    · rw [← List.append_assoc]
      exact at_end _ [] _
  have ne := neX_lst (l := f) (k := k) (ds := [tx "web" p.shown, tx "number" pb.shown]) (ps := [.tuple [.str "web", .str p.shown], .tuple [.str "number", .str pb.shown]]) (app_at k2.at_ ex3) e3 (by
    simp only [List.map_cons, List.map_nil]
    rw [rd_tx (tok_of "web") sp.txt, rd_tx (tok_of "number") spb.txt]
    rfl) (by simp)
  refine ⟨E, T ++ ex3, ?_, k2.ext.app ex3, by rw [← hE, List.length_set]; exact el, by rw [← hE, List.getElem?_set_ne (by decide)]⟩
  unfold TailB
  rw [seq_nx q1, seq_nx q2]
  refine if_no (ne_run (d := .ref f) (S1 := T) ?_ q3 ne)
  unfold evVar
  rw [h10]
abbrev w1 : Ss := sSet 3 (evCall g__law_web (evCons (evVar 1) (evCons (evCall g__law_names (evCons (evVar 1) (evCons (ev2 addD (evC (.int 2)) (evCall g__law_draw (evCons (evVar 1) (evCons (evC (.int 5)) evNil)))) evNil))) (evCons (ev2 addD (evC (.int 1)) (evCall g__law_draw (evCons (evVar 1) (evCons (evC (.int 8)) evNil)))) (evCons (evC (.int 5)) evNil)))))
abbrev w2 : Ss := sSet 4 (evLc (evSrc (ev2 subscD (evVar 3) (evC (.int 1)))) (tgT 3 (tgsCons (tgN 11) (tgsCons (tgN 12) (tgsCons (tgN 13) tgsNil)))) [11, 12, 13] tyes (evL mkTup (evCons (evVar 11) (evCons (evVar 13) (evCons (evCall g__law_bound (evCons (evVar 12) evNil)) evNil)))))
abbrev w3 : Ss := sSet 5 (evCall g__law_fraction (evCons (ev2 addD (evC (.int 1)) (evCall g__law_draw (evCons (evVar 1) (evCons (evC (.int 40)) evNil)))) (evCons (ev2 addD (evC (.int 1)) (evCall g__law_draw (evCons (evVar 1) (evCons (evCall g__law_pick (evCons (evVar 1) (evCons (evL mkLst (evCons (evC (.int 20)) (evCons (evC (.int 60)) (evCons (ev2 powD (evC (.int 10)) (evC (.int 6))) evNil)))) evNil))) evNil)))) evNil)))
abbrev w6 : Ss := sSet 7 (evL reprD (evCons (evL tupleD (evCons (evLc (evSrc (ev2 subscD (evVar 3) (evC (.int 1)))) (tgT 3 (tgsCons (tgN 11) (tgsCons (tgN 12) (tgsCons (tgN 13) tgsNil)))) [11, 12, 13] tyes (evL mkTup (evCons (evVar 11) (evCons (evCall g__law_at (evCons (evVar 12) (evCons (evVar 5) evNil))) (evCons (evVar 13) evNil))))) evNil)) evNil))
abbrev w8 : Ss := sSet 8 (evCall g__law_pick (evCons (evVar 1) (evCons (evL mkLst L8) evNil)))
abbrev w9 : Ss := sSet 9 (evCall g__law_pick (evCons (evVar 1) (evCons (evL mkLst L9) evNil)))
abbrev lapB : Ss := sSeq w1 (sSeq w2 (sSeq w3 (sSeq U4 (sSeq (sSet 6 wrongL) (sSeq w6 (sSeq U7 (sSeq w8 (sSeq w9 TailB))))))))
theorem lap (g1 : G env 1 (.ref lp)) (el : env.length = 15) (hp : Pen (n + 1100) S lp) : ∃ env' S', lapB env S = .fl (.nx env') S' ∧ G env' 1 (.ref lp) ∧ env'.length = 15 ∧ Pen n S' lp := by
  obtain ⟨ns, xs, S1, c1, wx, p1, k1⟩ := u1 (n := n + 8) g1 hp
  obtain ⟨E1, e1⟩ : ∃ E, env.set 3 (some (webD ns xs)) = E := ⟨_, rfl⟩
  have a1 : G E1 1 (.ref lp) := by rw [← e1]; exact g_ne g1 (by decide)
  have a3 : G E1 3 (webD ns xs) := by rw [← e1]; exact g_eq (by omega)
  have al : E1.length = 15 := by rw [← e1, List.length_set]; exact el
  rw [e1] at c1
  obtain ⟨x2, c2⟩ := u2 (S := S1) a3 al wx
  have lt1 := p1.lt
  have b4e := at_end S1 x2 (false, Cell.lst (xs.map bdD))
  have p2 : Pen (n + 8) (S1 ++ (false, .lst (xs.map bdD)) :: x2) lp := p1.app _
  generalize hS2 : S1 ++ (false, Cell.lst (xs.map bdD)) :: x2 = S2 at c2 b4e p2
  obtain ⟨E2, e2⟩ : ∃ E, E1.set 4 (some (.ref S1.length)) = E := ⟨_, rfl⟩
  have b1 : G E2 1 (.ref lp) := by rw [← e2]; exact g_ne a1 (by decide)
  have b3 : G E2 3 (webD ns xs) := by rw [← e2]; exact g_ne a3 (by decide)
  have b4 : G E2 4 (.ref S1.length) := by rw [← e2]; exact g_eq (by omega)
  have bl : E2.length = 15 := by rw [← e2, List.length_set]; exact al
  rw [e2] at c2
  obtain ⟨q0, S3, c3, n0, pos0, p3, k3⟩ := u3 (n := n + 5) b1 p2
  obtain ⟨E3, e3⟩ : ∃ E, E2.set 5 (some (fr q0)) = E := ⟨_, rfl⟩
  have d1 : G E3 1 (.ref lp) := by rw [← e3]; exact g_ne b1 (by decide)
  have d3 : G E3 3 (webD ns xs) := by rw [← e3]; exact g_ne b3 (by decide)
  have d4 : G E3 4 (.ref S1.length) := by rw [← e3]; exact g_ne b4 (by decide)
  have d5 : G E3 5 (fr q0) := by rw [← e3]; exact g_eq (by omega)
  have dl : E3.length = 15 := by rw [← e3, List.length_set]; exact bl
  rw [e3] at c3
  have l4n : S1.length ≠ lp := by omega
  have l3 := k3.get b4e l4n
  obtain ⟨q, v, S4, c4, f5, nq, pos, p4, k4⟩ := u4 (n := n + 3) d1 d4 d5 dl wx l3 l4n p3 n0 pos0
  obtain ⟨E4, e4⟩ : ∃ E, E3.set 5 v = E := ⟨_, rfl⟩
  have f1 : G E4 1 (.ref lp) := by rw [← e4]; exact g_ne d1 (by decide)
  have f3 : G E4 3 (webD ns xs) := by rw [← e4]; exact g_ne d3 (by decide)
  have f4 : G E4 4 (.ref S1.length) := by rw [← e4]; exact g_ne d4 (by decide)
  have fl : E4.length = 15 := by rw [← e4, List.length_set]; exact dl
  rw [e4] at c4 f5
  obtain ⟨x5, c5⟩ := u5 f4 f5 fl wx (k4.get l3 l4n) nq
  have e6 := at_end S4 x5 (false, Cell.lst ((xs.filter (wrg q)).map WG.prD))
  have p5 : Pen (n + 3) (S4 ++ (false, .lst ((xs.filter (wrg q)).map WG.prD)) :: x5) lp := p4.app _
  generalize hS5 : S4 ++ (false, Cell.lst ((xs.filter (wrg q)).map WG.prD)) :: x5 = S5 at c5 e6 p5
  obtain ⟨E5, e5⟩ : ∃ E, E4.set 6 (some (.ref S4.length)) = E := ⟨_, rfl⟩
  have h1 : G E5 1 (.ref lp) := by rw [← e5]; exact g_ne f1 (by decide)
  have h3 : G E5 3 (webD ns xs) := by rw [← e5]; exact g_ne f3 (by decide)
  have h5 : G E5 5 (fr q) := by rw [← e5]; exact g_ne f5 (by decide)
  have h6 : G E5 6 (.ref S4.length) := by rw [← e5]; exact g_eq (by omega)
  have hl : E5.length = 15 := by rw [← e5, List.length_set]; exact fl
  rw [e5] at c5
  obtain ⟨p, rp, sp⟩ : ∃ p, (∀ T, rdP T (.tup false (xs.map (atD q))) = some p) ∧ Sh p 3000000 := by
    obtain ⟨p, r, s⟩ := shows_at wx nq []
    exact ⟨p, fun T => toP_keep (Lk.ext ⟨T, rfl⟩) _ _ _ r, s⟩
  obtain ⟨x6, c6⟩ := u6 (S := S5) h3 h5 hl wx nq rp sp
  obtain ⟨E6, e6'⟩ : ∃ E, E5.set 7 (some (.str p.shown)) = E := ⟨_, rfl⟩
  have i1 : G E6 1 (.ref lp) := by rw [← e6']; exact g_ne h1 (by decide)
  have i3 : G E6 3 (webD ns xs) := by rw [← e6']; exact g_ne h3 (by decide)
  have i5 : G E6 5 (fr q) := by rw [← e6']; exact g_ne h5 (by decide)
  have i6 : G E6 6 (.ref S4.length) := by rw [← e6']; exact g_ne h6 (by decide)
  have i7 : G E6 7 (.str p.shown) := by rw [← e6']; exact g_eq (by omega)
  have il : E6.length = 15 := by rw [← e6', List.length_set]; exact hl
  rw [e6'] at c6
  obtain ⟨x7, c7⟩ := u7 i3 i5 i6 i7 wx nq pos (app_at e6 x6) rp sp
  obtain ⟨d, lw, S8, c8, md, ed, lwn, p8, k8⟩ := u8 (n := n + 2) i1 i3 ((p5.app x6).app x7)
  obtain ⟨E8, e8⟩ : ∃ E, E6.set 8 (some d) = E := ⟨_, rfl⟩
  have j1 : G E8 1 (.ref lp) := by rw [← e8]; exact g_ne i1 (by decide)
  have j3 : G E8 3 (webD ns xs) := by rw [← e8]; exact g_ne i3 (by decide)
  have j8 : G E8 8 d := by rw [← e8]; exact g_eq (by omega)
  have jl : E8.length = 15 := by rw [← e8, List.length_set]; exact il
  rw [e8] at c8
  obtain ⟨b, lb, S9, c9, mb, eb, p9, k9⟩ := u9 (n := n + 1) j1 p8
  obtain ⟨E9, e9⟩ : ∃ E, E8.set 9 (some b) = E := ⟨_, rfl⟩
  have m1 : G E9 1 (.ref lp) := by rw [← e9]; exact g_ne j1 (by decide)
  have m3 : G E9 3 (webD ns xs) := by rw [← e9]; exact g_ne j3 (by decide)
  have m8 : G E9 8 d := by rw [← e9]; exact g_ne j8 (by decide)
  have m9 : G E9 9 b := by rw [← e9]; exact g_eq (by omega)
  have ml : E9.length = 15 := by rw [← e9, List.length_set]; exact jl
  rw [e9] at c9
  obtain ⟨w0, pd, rd, sd⟩ := odd_all wx (k9.get ed lwn) md
  obtain ⟨rb, pb, rdb, sb⟩ := bad_all wx eb mb
  obtain ⟨Ez, Sz, cz, xz, zl, z1⟩ := tail_run m3 m8 m9 ml w0 rb rd sd rdb sb
  refine ⟨Ez, Sz, ?_, ?_, zl, ?_⟩
  · unfold lapB
    rw [seq_nx c1, seq_nx c2, seq_nx c3, seq_nx c4, seq_nx c5, seq_nx c6, seq_nx c7, seq_nx c8, seq_nx c9]
    exact cz
  · show Ez[1]? = _
    rw [z1]
    exact m1
  · obtain ⟨ex, rfl⟩ := xz
    exact (p9.app ex).mono (by omega)
end
theorem law_true (ns : List Int) (hn : ns.length ≤ 63) : PP.LawTrue G07.g_law ns := by
  obtain ⟨lp, S1, k1, p1⟩ := law_pen ns hn
  obtain ⟨e, s, q, _⟩ := sFor_inv (src := evRg1 (evCons (evC (.int 4)) evNil)) (tg := tgN 2) (body := lapB)
    (env := [some (.ref 0), some (.ref lp), none, none, none, none, none, none, none, none, none, none, none, none, none]) (st := S1) (st1 := S1) (g := srcS (rangeL 0 4)) (rangeL 0 4)
    (fun i env st => G env 1 (.ref lp) ∧ env.length = 15 ∧ (i ≤ 4 → Pen (1100 * (4 - i)) st lp)) (show 4 < sizeLine by decide)
    (by exact rg1 (j := 4) (small_lt (j := 4) (by omega) (by omega)) rfl) ⟨rfl, rfl, fun _ => p1.mono (by omega)⟩ (fun _ _ _ _ => rfl) (fun i d env st hd h => by
      obtain ⟨g1, el, hp⟩ := h
      have hi : i < 4 := (List.getElem?_eq_some_iff.mp hd).1
      obtain ⟨env', S', q, g1', el', p'⟩ := lap (n := 1100 * (4 - (i + 1))) (env := env.set 2 (some d)) (g_ne g1 (by decide)) (by rw [List.length_set]; exact el) ((hp (by omega)).mono (by omega))
      exact ⟨_, rfl, env', S', .inl q, g1', el', fun _ => p'⟩)
  refine ⟨s, ?_⟩
  refine run_rt (n := 15) ?_
  show b_law [some (.ref 0), none, none, none, none, none, none, none, none, none, none, none, none, none, none] [(true, .lst (ns.map D.int))] = _
  unfold b_law
  rw [seq_nx (show sSet 1 (evCall g__law_pen (evCons (evVar 0) evNil)) [some (.ref 0), none, none, none, none, none, none, none, none, none, none, none, none, none, none] [(true, .lst (ns.map D.int))] = .fl (.nx [some (.ref 0), some (.ref lp), none, none, none, none, none, none, none, none, none, none, none, none, none]) S1 by
    unfold sSet ofE evCall evCons evNil
    simp only [evVar, List.getElem?_cons_zero, Res.bind, k1, List.set_cons_succ, List.set_cons_zero])]
  rw [seq_nx q]
  rfl
end WO
set_option maxRecDepth 100000 in
theorem PySem.Challenge.cw_raresteps_k07_rates_at_numbers_holds : PySem.Challenge.rw_raresteps_k07_rates_at_numbers.Holds := by
  exact HG07.holds_of fun ns hn => @WO.law_true ⟨[]⟩ ns hn
