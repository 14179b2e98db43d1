import PyProof.Rows.All
import Wide.All
import OpenK.AllK
import Wide.FinOn
import HandS.ForMost
import HandS.Exc
import HandS.ExcOwn
import HandS.TryMany
import HandS.Wide
import HandS.TupAny
import HandS.Gcd
import HandS.Deep
import KE.DataCmp
import KE.SortData
import HandS.IsInst
import HandS.Style
import HandS.WordsDict
import HandS.More
import HandS.Conv
import HandS.TupSets
import PyProof.Transfer
import PyProof.ReprRoads
import HandS.Zip
import HandS.Comp
import HandS.Flow
import HandS.Text
import HandS.StrSplit
import HandS.DictComp
import HandS.ForExc
import HandS.WordsExc
import HandS.HeadEnd
import HandS.ExcInit
import HandS.ExcField
import HandS.DictEq
import HandS.Head0
import HandS.Head1
import HandS.Head2
import HandS.Head3
import HandS.HeadHook1
import HandS.HeadHook2
import HandS.Defaults
import KE.KStateDown
import PyProof.ReprLen
import PyProof.Rows.RegStrFacts
import PyProof.Rows.ReprOcc
import PyProof.ReprText
import PySem.Challenge.RW_raresteps_k24_quotients
set_option Elab.async false
set_option linter.all false
set_option maxRecDepth 100000
set_option maxHeartbeats 2000000
/-! PP0: pure data D, a store of lists and dicts, and how they lie in the hand layer's heap. -/
namespace PP
open PySem PySem.Spec PyProof.Rows L2

/-- pure data; tup true: a tuple that may be written at the top; ref: a place of the store; fn: a def of the text; ty: a built-in type -/
inductive D where
  | non | bl (b : Bool) | int (i : Int) | str (s : Str)
  | tup (k : Bool) (ds : List D)
  | ref (l : Nat)
  | fn (x : Str)
  | ty (n : String)
instance : Inhabited D := ⟨.non⟩

inductive Cell where
  | lst (ds : List D)
  | dct (kvs : List (D × D))
  /-- a dict of simple keys that a comprehension fills -/
  | dcK (kvs : List (D × D))
/-- a place: locked (read only) or not -/
abbrev Store := List (Bool × Cell)
abbrev EnvD := List (Option D)

inductive Res (α : Type) where
  | ok (a : α) (st : Store)
  | err (c : Str) (fs : List (Str × D)) (st : Store)
  | stuck

/-! ### how data lies in the heap -/
section
variable (K : PySem.W.Frag) (mg : Str → Option Value)
/-- a tuple that never changes, tracked (or one of the written part) -/
def TupAt (K : PySem.W.Frag) (k : Bool) (H : Hp) (a : Addr) (xs : List V) : Prop := match k with
  | true => SqT K H a xs
  | false => H a = some (.tup xs)
theorem TupAt.sq {K : PySem.W.Frag} {k : Bool} {H : Hp} {a : Addr} {xs : List V} (h : TupAt K k H a xs) : SqT K H a xs := by
  cases k with
  | true => exact h
  | false => exact .inl (.inl h)
theorem TupAt.any {K : PySem.W.Frag} {k : Bool} {H : Hp} {a : Addr} {xs : List V} (h : TupAt K false H a xs) : TupAt K k H a xs := by
  cases k with
  | true => exact .inl (.inl h)
  | false => exact h
theorem TupAt.orL {K : PySem.W.Frag} {k k' : Bool} {H : Hp} {a : Addr} {xs : List V} (h : TupAt K k H a xs) : TupAt K (k || k') H a xs := by
  cases k with
  | true => exact h
  | false => exact h.any
theorem TupAt.orR {K : PySem.W.Frag} {k k' : Bool} {H : Hp} {a : Addr} {xs : List V} (h : TupAt K k' H a xs) : TupAt K (k || k') H a xs := by
  rw [Bool.or_comm]
  exact h.orL
mutual
def Rp (m : List Addr) (H : Hp) : D → V → Prop
  | .non, v => v = .non
  | .bl b, v => v = .bl b
  | .int i, v => v = .int i
  | .str s, v => v = .str s
  | .tup k ds, v => ∃ a xs, v = .ref a ∧ TupAt K k H a xs ∧ RpL m H ds xs
  | .ref l, v => ∃ a, v = .ref a ∧ m[l]? = some a
  | .fn x, v => ∃ a, v = .ref a ∧ mg x = some (.ref a)
  | .ty n, v => v = .ty n
def RpL (m : List Addr) (H : Hp) : List D → List V → Prop
  | [], xs => xs = []
  | d :: ds, xs => ∃ x r, xs = x :: r ∧ Rp m H d x ∧ RpL m H ds r
end
/-- what never changes -/
def Stays : HO → Prop
  | .tup _ => True
  | .frz _ _ => True
  | .xd _ => True
  | _ => False
/-- tuples stay, and locked things, and the dicts of exceptions -/
def Pers (H H' : Hp) : Prop := ∀ a o, Stays o → H a = some o → H' a = some o
theorem Pers.refl (H : Hp) : Pers H H := fun _ _ _ h => h
variable {K mg}
theorem Pers.trans {H H1 H2 : Hp} (a : Pers H H1) (b : Pers H1 H2) : Pers H H2 := fun c o w h => b c o w (a c o w h)
theorem Pers.rd {H H' : Hp} {a : Addr} {xs : List V} (p : Pers H H') (h : Rd H a (.tup xs)) : Rd H' a (.tup xs) := by
  rcases h with h | ⟨o, h⟩
  · exact .inl (p _ _ True.intro h)
  · exact .inr ⟨o, p _ _ True.intro h⟩
theorem Pers.sqT {H H' : Hp} {a : Addr} {xs : List V} (p : Pers H H') (h : SqT K H a xs) : SqT K H' a xs := by
  rcases h with h | h
  · exact .inl (p.rd h)
  · exact .inr h
/-- tuples alone stay -/
structure PersT (H H' : Hp) : Prop where
  tp : ∀ a xs, H a = some (.tup xs) → H' a = some (.tup xs)
  fz : ∀ a o xs, H a = some (.frz o (.tup xs)) → H' a = some (.frz o (.tup xs))
theorem Pers.toT {H H' : Hp} (p : Pers H H') : PersT H H' := ⟨fun a xs h => p a _ True.intro h, fun a o xs h => p a _ (show Stays (.frz _ _) from True.intro) h⟩
theorem TupAt.monoT {k : Bool} {H H' : Hp} {a : Addr} {xs : List V} (p : PersT H H') (h : TupAt K k H a xs) : TupAt K k H' a xs := by
  cases k with
  | true =>
    rcases h with (h | ⟨o, h⟩) | h
    · exact .inl (.inl (p.tp _ _ h))
    · exact .inl (.inr ⟨o, p.fz _ _ _ h⟩)
    · exact .inr h
  | false => exact p.tp _ _ h
theorem TupAt.mono {k : Bool} {H H' : Hp} {a : Addr} {xs : List V} (p : Pers H H') (h : TupAt K k H a xs) : TupAt K k H' a xs := h.monoT p.toT
/-- places go on -/
def Pre (m m' : List Addr) : Prop := ∀ (l : Nat) a, m[l]? = some a → m'[l]? = some a
theorem Pre.refl (m : List Addr) : Pre m m := fun _ _ h => h
theorem Pre.trans {m m1 m2 : List Addr} (a : Pre m m1) (b : Pre m1 m2) : Pre m m2 := fun l c h => b l c (a l c h)
theorem Pre.snoc (m : List Addr) (p : Addr) : Pre m (m ++ [p]) := fun l a h => by
  have hl := (List.getElem?_eq_some_iff.mp h).1
  rw [List.getElem?_append_left hl]; exact h
section
variable {m m' : List Addr} {H H' : Hp}
mutual
theorem Rp.monoT (pm : Pre m m') (p : PersT H H') : ∀ (d : D) (v : V), Rp K mg m H d v → Rp K mg m' H' d v
  | .non, _, h => h
  | .bl _, _, h => h
  | .int _, _, h => h
  | .str _, _, h => h
  | .tup _ ds, _, ⟨a, xs, e, t, r⟩ => ⟨a, xs, e, t.monoT p, RpL.monoT pm p ds xs r⟩
  | .ref l, _, ⟨a, e, h⟩ => ⟨a, e, pm l a h⟩
  | .fn _, _, h => h
  | .ty _, _, h => h
theorem RpL.monoT (pm : Pre m m') (p : PersT H H') : ∀ (ds : List D) (xs : List V), RpL K mg m H ds xs → RpL K mg m' H' ds xs
  | [], _, h => h
  | d :: ds, _, ⟨x, r, e, h1, h2⟩ => ⟨x, r, e, Rp.monoT pm p d x h1, RpL.monoT pm p ds r h2⟩
end
theorem Rp.mono (pm : Pre m m') (p : Pers H H') (d : D) (v : V) (h : Rp K mg m H d v) : Rp K mg m' H' d v := Rp.monoT pm p.toT d v h
theorem RpL.mono (pm : Pre m m') (p : Pers H H') (ds : List D) (xs : List V) (h : RpL K mg m H ds xs) : RpL K mg m' H' ds xs := RpL.monoT pm p.toT ds xs h
theorem RpL.nil {xs : List V} (h : RpL K mg m H [] xs) : xs = [] := h
theorem RpL.mk_nil : RpL K mg m H [] [] := rfl
theorem RpL.mk_cons {d : D} {ds : List D} {x : V} {xs : List V} (h : Rp K mg m H d x) (t : RpL K mg m H ds xs) : RpL K mg m H (d :: ds) (x :: xs) := ⟨x, xs, rfl, h, t⟩
theorem RpL.length : ∀ {ds : List D} {xs : List V}, RpL K mg m H ds xs → xs.length = ds.length
  | [], _, h => by rw [RpL.nil h]; rfl
  | d :: ds, _, ⟨x, r, e, _, h2⟩ => by subst e; exact congrArg Nat.succ (RpL.length h2)
theorem RpL.get : ∀ {ds : List D} {xs : List V} {i : Nat} {d : D}, RpL K mg m H ds xs → ds[i]? = some d → ∃ x, xs[i]? = some x ∧ Rp K mg m H d x
  | [], _, _, _, _, e => by simp at e
  | d :: ds, _, 0, _, ⟨x, r, e, h, _⟩, q => by subst e; cases q; exact ⟨x, rfl, h⟩
  | d :: ds, _, i + 1, _, ⟨x, r, e, _, h⟩, q => by subst e; exact RpL.get (i := i) h q
theorem RpL.getV : ∀ {ds : List D} {xs : List V} {i : Nat} {x : V}, RpL K mg m H ds xs → xs[i]? = some x → ∃ d, ds[i]? = some d ∧ Rp K mg m H d x
  | [], _, _, _, h, e => by rw [RpL.nil h] at e; simp at e
  | d :: ds, _, 0, _, ⟨x, r, e, h, _⟩, q => by subst e; cases q; exact ⟨d, rfl, h⟩
  | d :: ds, _, i + 1, _, ⟨x, r, e, _, h⟩, q => by subst e; exact RpL.getV (i := i) h q
theorem RpL.append : ∀ {ds es : List D} {xs ys : List V}, RpL K mg m H ds xs → RpL K mg m H es ys → RpL K mg m H (ds ++ es) (xs ++ ys)
  | [], _, _, _, h, k => by rw [RpL.nil h]; exact k
  | d :: ds, _, _, _, ⟨x, r, e, h1, h2⟩, k => by subst e; exact ⟨x, _, rfl, h1, RpL.append h2 k⟩
theorem RpL.take : ∀ (n : Nat) {ds : List D} {xs : List V}, RpL K mg m H ds xs → RpL K mg m H (ds.take n) (xs.take n)
  | 0, _, _, _ => rfl
  | n + 1, [], _, h => by rw [RpL.nil h]; rfl
  | n + 1, d :: ds, _, ⟨x, r, e, h1, h2⟩ => by subst e; exact ⟨x, _, rfl, h1, RpL.take n h2⟩
theorem RpL.drop : ∀ (n : Nat) {ds : List D} {xs : List V}, RpL K mg m H ds xs → RpL K mg m H (ds.drop n) (xs.drop n)
  | 0, _, _, h => h
  | n + 1, [], _, h => by rw [RpL.nil h]; rfl
  | n + 1, d :: ds, _, ⟨x, r, e, h1, h2⟩ => by subst e; exact RpL.drop n h2
theorem RpL.set {d : D} {x : V} (h : Rp K mg m H d x) : ∀ (i : Nat) {ds : List D} {xs : List V}, RpL K mg m H ds xs → RpL K mg m H (ds.set i d) (xs.set i x)
  | _, [], _, k => by rw [RpL.nil k]; rfl
  | 0, _ :: _, _, ⟨y, r, e, _, k⟩ => by subst e; exact ⟨x, r, rfl, h, k⟩
  | i + 1, _ :: _, _, ⟨y, r, e, k1, k2⟩ => by subst e; exact ⟨y, _, rfl, k1, RpL.set h i k2⟩
theorem RpL.reverse : ∀ {ds : List D} {xs : List V}, RpL K mg m H ds xs → RpL K mg m H ds.reverse xs.reverse
  | [], _, h => by rw [RpL.nil h]; rfl
  | d :: ds, _, ⟨x, r, e, h1, h2⟩ => by subst e; rw [List.reverse_cons, List.reverse_cons]; exact RpL.append (RpL.reverse h2) (RpL.mk_cons h1 RpL.mk_nil)

/-! ### keys -/
def kD : Key → D
  | .inl i => .int i
  | .inr s => .str s
/-- the key that a datum is -/
def keyD : D → Option Key
  | .int i => some (.inl i)
  | .str s => some (.inr s)
  | _ => none
def keysD : List D → Option (List Key)
  | [] => some []
  | d :: ds => match keyD d, keysD ds with
    | some k, some ks => some (k :: ks)
    | _, _ => none
theorem keyD_kD (k : Key) : keyD (kD k) = some k := by cases k <;> rfl
theorem kD_of {d : D} {k : Key} (h : keyD d = some k) : d = kD k := by
  cases d <;> simp only [keyD, reduceCtorEq, Option.some.injEq] at h <;> subst h <;> rfl
theorem keysD_map : ∀ ks : List Key, keysD (ks.map kD) = some ks
  | [] => rfl
  | k :: ks => by rw [List.map_cons, keysD, keyD_kD, keysD_map ks]
theorem kDs_of : ∀ {ds : List D} {ks : List Key}, keysD ds = some ks → ds = ks.map kD
  | [], ks, h => by cases h; rfl
  | d :: ds, ks, h => by
    rw [keysD] at h
    cases e1 : keyD d with
    | none => rw [e1] at h; simp at h
    | some k =>
      cases e2 : keysD ds with
      | none => rw [e1, e2] at h; simp at h
      | some r =>
        rw [e1, e2] at h
        cases h
        rw [kD_of e1, kDs_of e2]; rfl
theorem kD_inj {a b : Key} (e : kD a = kD b) : a = b := Option.some.inj (by rw [← keyD_kD a, ← keyD_kD b, e])
theorem Rp_kD {k : Key} {v : V} : Rp K mg m H (kD k) v ↔ v = kV k := by cases k <;> exact Iff.rfl
theorem RpL_kD : ∀ {ks : List Key} {vs : List V}, RpL K mg m H (ks.map kD) vs → vs = ks.map kV
  | [], _, h => RpL.nil h
  | k :: ks, _, ⟨x, r, e, h1, h2⟩ => by subst e; rw [Rp_kD.mp h1, RpL_kD h2]; rfl
end

/-! ### places -/
/-- o stands at a, locked or not -/
def CellAt (H : Hp) (a : Addr) (lk : Bool) (o : HO) : Prop := if lk = true then ∃ ob, H a = some (.frz ob o) else H a = some o
theorem CellAt.rd {H : Hp} {a : Addr} {lk : Bool} {o : HO} (h : CellAt H a lk o) : Rd H a o := by
  cases lk with
  | true => exact .inr h
  | false => exact .inl h
variable (K mg)
def Kvs (m : List Addr) (H : Hp) {κ : Type} (f : κ → D) (kvs : List (D × D)) (kv' : List (κ × V)) : Prop := Paired (fun (p : D × D) (q : κ × V) => p.1 = f q.1 ∧ Rp K mg m H p.2 q.2) kvs kv'
def CellOk (m : List Addr) (H : Hp) (a : Addr) (lk : Bool) : Cell → Prop
  | .lst ds => ∃ xs, RpL K mg m H ds xs ∧ CellAt H a lk (.lst xs)
  | .dct kvs => (∃ kv' : List (Key × V), Kvs K mg m H kD kvs kv' ∧ CellAt H a lk (.dK kv')) ∨ (∃ kv' : List (List Key × V), Kvs K mg m H (fun ks => .tup false (ks.map kD)) kvs kv' ∧ CellAt H a lk (.dT kv'))
  | .dcK kvs => ∃ kv' : List (Key × V), Kvs K mg m H kD kvs kv' ∧ CellAt H a lk (.dK kv')
structure StOk (m : List Addr) (H : Hp) (st : Store) : Prop where
  len : m.length = st.length
  nd : m.Nodup
  at_ : ∀ (l : Nat) (lk : Bool) (c : Cell) (a : Addr), st[l]? = some (lk, c) → m[l]? = some a → CellOk K mg m H a lk c
structure EnvOk (m : List Addr) (H : Hp) (env : EnvD) (σ : L2.St) : Prop where
  len : env.length = σ.length
  at_ : ∀ (i : Nat) (d : D), env[i]? = some (some d) → ∃ v, σ[i]? = some (some v) ∧ Rp K mg m H d v
variable {K mg}
section
variable {m m' : List Addr} {H H' : Hp} {st st' : Store} {env : EnvD} {σ : L2.St}
theorem EnvOk.mono (pm : Pre m m') (p : Pers H H') (h : EnvOk K mg m H env σ) : EnvOk K mg m' H' env σ :=
  ⟨h.len, fun i d e => let ⟨v, e1, r⟩ := h.at_ i d e; ⟨v, e1, Rp.mono pm p d v r⟩⟩
theorem EnvOk.monoT (pm : Pre m m') (p : PersT H H') (h : EnvOk K mg m H env σ) : EnvOk K mg m' H' env σ :=
  ⟨h.len, fun i d e => let ⟨v, e1, r⟩ := h.at_ i d e; ⟨v, e1, Rp.monoT pm p d v r⟩⟩
theorem EnvOk.set (h : EnvOk K mg m H env σ) {i : Nat} {d : D} {v : V} (r : Rp K mg m H d v) : EnvOk K mg m H (env.set i (some d)) (σ.set i (some v)) := by
  refine ⟨by rw [List.length_set, List.length_set, h.len], fun j e hj => ?_⟩
  by_cases hji : i = j
  · subst hji
    by_cases hl : i < env.length
    · rw [List.getElem?_set_self hl] at hj
      cases hj
      exact ⟨v, by rw [List.getElem?_set_self (by rw [← h.len]; exact hl)], r⟩
    · rw [List.getElem?_eq_none (by rw [List.length_set]; omega)] at hj; cases hj
  · rw [List.getElem?_set_ne hji] at hj
    rw [List.getElem?_set_ne hji]
    exact h.at_ j e hj
theorem EnvOk.forget (h : EnvOk K mg m H env σ) (i : Nat) {x : Option V} : EnvOk K mg m H (env.set i none) (σ.set i x) := by
  refine ⟨by rw [List.length_set, List.length_set, h.len], fun j e hj => ?_⟩
  by_cases hji : i = j
  · subst hji
    by_cases hl : i < env.length
    · rw [List.getElem?_set_self hl] at hj; cases hj
    · rw [List.getElem?_eq_none (by rw [List.length_set]; omega)] at hj; cases hj
  · rw [List.getElem?_set_ne hji] at hj
    rw [List.getElem?_set_ne hji]
    exact h.at_ j e hj
def wipeD (env : EnvD) : List Nat → EnvD
  | [] => env
  | v :: vs => (wipeD env vs).set v none
theorem EnvOk.wipe (h : EnvOk K mg m H env σ) : ∀ vs : List Nat, EnvOk K mg m H (wipeD env vs) (wipe σ vs)
  | [] => h
  | v :: vs => (EnvOk.wipe h vs).forget v
theorem Kvs.monoT {κ : Type} {f : κ → D} {kvs : List (D × D)} {kv' : List (κ × V)} (pm : Pre m m') (p : PersT H H') (h : Kvs K mg m H f kvs kv') : Kvs K mg m' H' f kvs kv' :=
  Paired.mapP h fun a b ⟨e, r⟩ => ⟨e, Rp.monoT pm p _ _ r⟩
theorem CellAt.to {a : Addr} {lk : Bool} {o : HO} (h : CellAt H a lk o) (e : H' a = H a) : CellAt H' a lk o := by
  unfold CellAt at h ⊢
  rw [e]; exact h
theorem CellOk.monoT {a : Addr} {lk : Bool} {c : Cell} (pm : Pre m m') (p : PersT H H') (e : H' a = H a) (h : CellOk K mg m H a lk c) : CellOk K mg m' H' a lk c := by
  cases c with
  | lst ds => obtain ⟨xs, r, q⟩ := h; exact ⟨xs, RpL.monoT pm p _ _ r, q.to e⟩
  | dct kvs =>
    rcases h with ⟨kv', r, q⟩ | ⟨kv', r, q⟩
    · exact .inl ⟨kv', r.monoT pm p, q.to e⟩
    · exact .inr ⟨kv', r.monoT pm p, q.to e⟩
  | dcK kvs => obtain ⟨kv', r, q⟩ := h; exact ⟨kv', r.monoT pm p, q.to e⟩
theorem Kvs.mono {κ : Type} {f : κ → D} {kvs : List (D × D)} {kv' : List (κ × V)} (pm : Pre m m') (p : Pers H H') (h : Kvs K mg m H f kvs kv') : Kvs K mg m' H' f kvs kv' := h.monoT pm p.toT
theorem CellOk.mono {a : Addr} {lk : Bool} {c : Cell} (pm : Pre m m') (p : Pers H H') (e : H' a = H a) (h : CellOk K mg m H a lk c) : CellOk K mg m' H' a lk c := h.monoT pm p.toT e
theorem CellOk.is {a : Addr} {lk : Bool} {c : Cell} (h : CellOk K mg m H a lk c) : ∃ o, H a = some o ∧ ∀ xs, o ≠ .tup xs := by
  have aux : ∀ o : HO, (∀ xs, o ≠ .tup xs) → CellAt H a lk o → ∃ o, H a = some o ∧ ∀ xs, o ≠ .tup xs := fun o ho q => by
    cases lk with
    | true => obtain ⟨ob, e⟩ := q; exact ⟨_, e, fun xs z => by cases z⟩
    | false => exact ⟨o, q, ho⟩
  cases c with
  | lst ds => obtain ⟨xs, r, q⟩ := h; exact aux _ (fun _ z => by cases z) q
  | dct kvs =>
    rcases h with ⟨kv', r, q⟩ | ⟨kv', r, q⟩
    · exact aux _ (fun _ z => by cases z) q
    · exact aux _ (fun _ z => by cases z) q
  | dcK kvs => obtain ⟨kv', r, q⟩ := h; exact aux _ (fun _ z => by cases z) q
theorem StOk.get (h : StOk K mg m H st) {l : Nat} {lk : Bool} {c : Cell} (e : st[l]? = some (lk, c)) : ∃ a, m[l]? = some a ∧ CellOk K mg m H a lk c := by
  have hl := (List.getElem?_eq_some_iff.mp e).1
  have hm : l < m.length := by rw [h.len]; exact hl
  exact ⟨m[l], List.getElem?_eq_getElem hm, h.at_ l lk c _ e (List.getElem?_eq_getElem hm)⟩
theorem StOk.cell (h : StOk K mg m H st) {l : Nat} {a : Addr} (e : m[l]? = some a) : ∃ lk c, st[l]? = some (lk, c) ∧ CellOk K mg m H a lk c := by
  have hl := (List.getElem?_eq_some_iff.mp e).1
  have hm : l < st.length := by rw [← h.len]; exact hl
  refine ⟨st[l].1, st[l].2, List.getElem?_eq_getElem hm, h.at_ l _ _ a (List.getElem?_eq_getElem hm) e⟩
theorem StOk.tracked (h : StOk K mg m H st) {a : Addr} (ha : a ∈ m) : ∃ o, H a = some o ∧ ∀ xs, o ≠ .tup xs := by
  obtain ⟨l, hl⟩ := List.getElem?_of_mem ha
  obtain ⟨lk, c, _, k⟩ := h.cell hl
  exact k.is
/-- the heap changed elsewhere -/
theorem StOk.heap (h : StOk K mg m H st) (e : ∀ a ∈ m, H' a = H a) (p : Pers H H') : StOk K mg m H' st :=
  ⟨h.len, h.nd, fun l lk c a e1 e2 => (h.at_ l lk c a e1 e2).mono (Pre.refl m) p (e a (List.mem_of_getElem? e2))⟩
theorem Pers.new {p : Addr} {o : HO} (h : H p = none) : Pers H (upd H p o) := fun a xs _ e => by rw [upd_ne (ne_of_none e h)]; exact e
/-- a new thing beside the store -/
theorem StOk.beside (h : StOk K mg m H st) {p : Addr} {o : HO} (hp : H p = none) : StOk K mg m (upd H p o) st :=
  h.heap (fun a ha => by obtain ⟨u, e, _⟩ := h.tracked ha; exact upd_ne (ne_of_none e hp)) (Pers.new hp)
theorem Pers.write {a : Addr} {o u : HO} (h : H a = some u) (nt : Stays u → False) : Pers H (upd H a o) := fun b xs w e => by
  have : b ≠ a := fun z => by
    subst z
    rw [h] at e
    cases e
    exact nt w
  rw [upd_ne this]; exact e
/-- a new place -/
theorem StOk.snoc (h : StOk K mg m H st) {p : Addr} {o : HO} {c : Cell} (hp : H p = none) (k : CellOk K mg (m ++ [p]) (upd H p o) p false c) : StOk K mg (m ++ [p]) (upd H p o) (st ++ [(false, c)]) := by
  have np : ∀ a ∈ m, a ≠ p := fun a ha => by obtain ⟨u, e, _⟩ := h.tracked ha; exact ne_of_none e hp
  refine ⟨by rw [List.length_append, List.length_append, h.len]; rfl, ?_, fun l lk c' a e1 e2 => ?_⟩
  · rw [List.nodup_append]
    exact ⟨h.nd, by simp, fun a ha b hb => by rw [List.mem_singleton] at hb; subst hb; exact np a ha⟩
  · by_cases hl : l < st.length
    · rw [List.getElem?_append_left hl] at e1
      rw [List.getElem?_append_left (by rw [h.len]; exact hl)] at e2
      exact (h.at_ l lk c' a e1 e2).mono (Pre.snoc m p) (Pers.new hp) (upd_ne (np a (List.mem_of_getElem? e2)))
    · have e3 : l = st.length := by
        have := (List.getElem?_eq_some_iff.mp e1).1
        rw [List.length_append] at this
        have h1 : ([(false, c)] : Store).length = 1 := rfl
        omega
      subst e3
      rw [List.getElem?_append_right (Nat.le_refl _), Nat.sub_self] at e1
      rw [List.getElem?_append_right (by rw [h.len]; exact Nat.le_refl _), h.len, Nat.sub_self] at e2
      cases e1; cases e2
      exact k
theorem Pre.last {p : Addr} (h : m.length = st.length) : (m ++ [p])[st.length]? = some p := by
  rw [List.getElem?_append_right (by rw [h]; exact Nat.le_refl _), h, Nat.sub_self]; rfl
/-- a place written -/
theorem StOk.write (h : StOk K mg m H st) {l : Nat} {lk lk' : Bool} {c c' : Cell} {a : Addr} {o : HO} (e : st[l]? = some (lk, c)) (ea : m[l]? = some a) (p : Pers H (upd H a o)) (k : CellOk K mg m (upd H a o) a lk' c') :
    StOk K mg m (upd H a o) (st.set l (lk', c')) := by
  refine ⟨by rw [List.length_set, h.len], h.nd, fun j lk2 c2 b e1 e2 => ?_⟩
  by_cases hj : l = j
  · subst hj
    rw [List.getElem?_set_self (List.getElem?_eq_some_iff.mp e).1] at e1
    rw [ea] at e2
    cases e1; cases e2
    exact k
  · rw [List.getElem?_set_ne hj] at e1
    have nb : b ≠ a := fun z => by
      subst z
      obtain ⟨h1, q1⟩ := List.getElem?_eq_some_iff.mp ea
      obtain ⟨h2, q2⟩ := List.getElem?_eq_some_iff.mp e2
      exact hj ((List.getElem_inj h.nd).mp (q1.trans q2.symm))
    exact (h.at_ j lk2 c2 b e1 e2).mono (Pre.refl m) p (upd_ne nb)
end
end
end PP
set_option Elab.async false
set_option linter.all false
set_option maxRecDepth 100000
set_option maxHeartbeats 2000000
/-! PP1: readings of evaluators; composition. -/
namespace PP
open PySem PySem.Spec PyProof.Rows L2

namespace Res
def bind {α β : Type} (r : Res α) (k : α → Store → Res β) : Res β := match r with
  | .ok a st => k a st
  | .err c fs st => .err c fs st
  | .stuck => .stuck
def ofOpt {α : Type} : Option (α × Store) → Res α
  | some (a, st) => .ok a st
  | none => .stuck
end Res
/-- an evaluator of an expression -/
abbrev Ev (α : Type) := EnvD → Store → Res α
/-- an operation on data -/
abbrev Op1 := D → Store → Option (D × Store)
abbrev Op2 := D → D → Store → Option (D × Store)
abbrev OpL := List D → Store → Option (D × Store)

section
variable (K : PySem.W.Frag) (mg : Str → Option Value)
/-- an exception: its class by name, its fields -/
def FldOk (m : List Addr) (H : Hp) : List (Str × D) → List (Str × V) → Prop := Paired fun p q => p.1 = q.1 ∧ Rp K mg m H p.2 q.2
def ExOk (m : List Addr) (H : Hp) (c : Str) (fs : List (Str × D)) (cls : Value) (dd : Option Addr) : Prop :=
  ∃ a, cls = .ref a ∧ mg c = some (.ref a) ∧ ((fs = [] ∧ dd = none) ∨ ∃ ad xs, dd = some ad ∧ H ad = some (.xd xs) ∧ FldOk K mg m H fs xs)
abbrev RL (α β : Type) := List Addr → Hp → α → β → Prop
def Fin {α β : Type} (R : RL α β) (W : WX) (σ : L2.St) (m : List Addr) (H : Hp) (r : Res α) (Q : β → Hp → Prop) : Prop := match r with
  | .ok a st' => ∀ m' H' v, Pre m m' → Pers H H' → StOk K mg m' H' st' → R m' H' a v → Q v H'
  | .err c fs st' => ∀ m' H' cls dd, Pre m m' → Pers H H' → StOk K mg m' H' st' → ExOk K mg m' H' c fs cls dd → W cls dd σ H'
  | .stuck => False
/-- an operation's end -/
def Out {α β : Type} (R : RL α β) (m : List Addr) (H : Hp) (r : Option (α × Store)) (Q : β → Hp → Prop) : Prop := match r with
  | some (a, st') => ∀ m' H' v, Pre m m' → Pers H H' → StOk K mg m' H' st' → R m' H' a v → Q v H'
  | none => False
def rdG {α β : Type} (R : RL α β) (W : WX) (f : Ev α) : L2.St → Hp → (β → Hp → Prop) → Prop := fun σ H Q =>
  ∃ m env st, EnvOk K mg m H env σ ∧ StOk K mg m H st ∧ Fin K mg R W σ m H (f env st) Q
def rEq (α : Type) : RL α α := fun _ _ a b => a = b
abbrev rdE (W : WX) (f : Ev D) : TE := rdG K mg (Rp K mg) W f
abbrev rdT (W : WX) (f : Ev Bool) : TT := rdG K mg (rEq Bool) W f
abbrev rdA (W : WX) (f : Ev (List D)) : TA := rdG K mg (RpL K mg) W f
def rdOp2 (f : Op2) : R2 := fun x y H Q => ∃ m st d e, StOk K mg m H st ∧ Rp K mg m H d x ∧ Rp K mg m H e y ∧ Out K mg (Rp K mg) m H (f d e st) Q
def rdOp1 (f : Op1) : V → Hp → VK → Prop := fun x H Q => ∃ m st d, StOk K mg m H st ∧ Rp K mg m H d x ∧ Out K mg (Rp K mg) m H (f d st) Q
def rdOpL (f : OpL) : List V → Hp → VK → Prop := fun xs H Q => ∃ m st ds, StOk K mg m H st ∧ RpL K mg m H ds xs ∧ Out K mg (Rp K mg) m H (f ds st) Q
/-- a value's truth -/
def rdTru (f : D → Store → Option (Bool × Store)) : V → Hp → (Bool → Hp → Prop) → Prop := fun x H Q => ∃ m st d, StOk K mg m H st ∧ Rp K mg m H d x ∧ Out K mg (rEq Bool) m H (f d st) Q
variable {K mg}
variable {α β γ δ : Type} {R : RL α β} {R2 : RL γ δ} {W : WX} {σ : L2.St} {m m1 : List Addr} {H H1 : Hp}

theorem Fin.mono {r : Res α} {Q : β → Hp → Prop} (pm : Pre m m1) (p : Pers H H1) (h : Fin K mg R W σ m H r Q) : Fin K mg R W σ m1 H1 r Q := by
  cases r with
  | ok a st => exact fun m' H' v a1 a2 => h m' H' v (pm.trans a1) (p.trans a2)
  | err c fs st => exact fun m' H' cls dd a1 a2 => h m' H' cls dd (pm.trans a1) (p.trans a2)
  | stuck => exact h
theorem Fin.imp {r : Res α} {Q Q' : β → Hp → Prop} (h : Fin K mg R W σ m H r Q) (i : ∀ v H', Pers H H' → Q v H' → Q' v H') : Fin K mg R W σ m H r Q' := by
  cases r with
  | ok a st => exact fun m' H' v a1 a2 a3 a4 => i v H' a2 (h m' H' v a1 a2 a3 a4)
  | err c fs st => exact h
  | stuck => exact h
/-- one after another -/
theorem Fin.bind {r : Res α} {k : α → Store → Res γ} {Q : δ → Hp → Prop} (h : Fin K mg R2 W σ m H (r.bind k) Q) :
    Fin K mg R W σ m H r (fun y H1 => ∃ m1 st1 a, Pre m m1 ∧ Pers H H1 ∧ StOk K mg m1 H1 st1 ∧ R m1 H1 a y ∧ Fin K mg R2 W σ m1 H1 (k a st1) Q) := by
  cases r with
  | ok a st => exact fun m' H' v a1 a2 a3 a4 => ⟨m', st, a, a1, a2, a3, a4, Fin.mono a1 a2 h⟩
  | err c fs st => exact h
  | stuck => exact h
theorem Fin.out {o : Option (α × Store)} {Q : β → Hp → Prop} (h : Fin K mg R W σ m H (Res.ofOpt o) Q) : Out K mg R m H o Q := by
  cases o with
  | none => exact h
  | some p => exact h
theorem Out.mono {o : Option (α × Store)} {Q : β → Hp → Prop} (pm : Pre m m1) (p : Pers H H1) (h : Out K mg R m H o Q) : Out K mg R m1 H1 o Q := by
  cases o with
  | none => exact h
  | some q => exact fun m' H' v a1 a2 => h m' H' v (pm.trans a1) (p.trans a2)

/-! ### evaluators put together -/
def ev1 (f : Op1) (a : Ev D) : Ev D := fun env st => (a env st).bind fun x st1 => .ofOpt (f x st1)
def ev2 (f : Op2) (a b : Ev D) : Ev D := fun env st => (a env st).bind fun x st1 => (b env st1).bind fun y st2 => .ofOpt (f x y st2)
def evL (f : OpL) (a : Ev (List D)) : Ev D := fun env st => (a env st).bind fun xs st1 => .ofOpt (f xs st1)
def evNil : Ev (List D) := fun _ st => .ok [] st
def evCons (a : Ev D) (b : Ev (List D)) : Ev (List D) := fun env st => (a env st).bind fun x st1 => (b env st1).bind fun xs st2 => .ok (x :: xs) st2

variable {Q : VK}
theorem rd1 {f : Op1} {a : Ev D} (h : rdE K mg W (ev1 f a) σ H Q) : tUn (rdOp1 K mg f) (rdE K mg W a) σ H Q := by
  obtain ⟨m, env, st, he, hs, h⟩ := h
  refine ⟨m, env, st, he, hs, (Fin.bind (R := Rp K mg) h).imp fun v H' p ⟨m1, st1, a1, pm, _, s1, r1, h1⟩ => ?_⟩
  exact ⟨m1, st1, a1, s1, r1, h1.out⟩
theorem rd2 {f : Op2} {a b : Ev D} (h : rdE K mg W (ev2 f a b) σ H Q) : tOp (rdOp2 K mg f) (rdE K mg W a) (rdE K mg W b) σ H Q := by
  obtain ⟨m, env, st, he, hs, h⟩ := h
  refine ⟨m, env, st, he, hs, (Fin.bind (R := Rp K mg) h).imp fun v H' p ⟨m1, st1, a1, pm, _, s1, r1, h1⟩ => ?_⟩
  refine ⟨m1, env, st1, he.mono pm p, s1, (Fin.bind (R := Rp K mg) h1).imp fun v2 H2 p2 ⟨m2, st2, a2, pm2, _, s2, r2, h2⟩ => ?_⟩
  exact ⟨m2, st2, a1, a2, s2, Rp.mono pm2 p2 _ _ r1, r2, h2.out⟩
theorem rdL {f : OpL} {a : Ev (List D)} (h : rdE K mg W (evL f a) σ H Q) : tCB (rdOpL K mg f) (rdA K mg W a) σ H Q := by
  obtain ⟨m, env, st, he, hs, h⟩ := h
  refine ⟨m, env, st, he, hs, (Fin.bind (R := RpL K mg) h).imp fun v H' p ⟨m1, st1, a1, pm, _, s1, r1, h1⟩ => ?_⟩
  exact ⟨m1, st1, a1, s1, r1, h1.out⟩
theorem rdNil {QA : List V → Hp → Prop} (h : rdA K mg W evNil σ H QA) : tNil σ H QA := by
  obtain ⟨m, env, st, he, hs, h⟩ := h
  exact h m H [] (Pre.refl m) (Pers.refl H) hs rfl
theorem rdCons {a : Ev D} {b : Ev (List D)} {QA : List V → Hp → Prop} (h : rdA K mg W (evCons a b) σ H QA) : tCons (rdE K mg W a) (rdA K mg W b) σ H QA := by
  obtain ⟨m, env, st, he, hs, h⟩ := h
  refine ⟨m, env, st, he, hs, (Fin.bind (R := Rp K mg) h).imp fun v H' p ⟨m1, st1, a1, pm, _, s1, r1, h1⟩ => ?_⟩
  refine ⟨m1, env, st1, he.mono pm p, s1, (Fin.bind (R := RpL K mg) h1).imp fun v2 H2 p2 ⟨m2, st2, a2, pm2, _, s2, r2, h2⟩ => ?_⟩
  exact h2 m2 H2 (v :: v2) (Pre.refl _) (Pers.refl _) s2 (RpL.mk_cons (Rp.mono pm2 p2 _ _ r1) r2)
end

/-! ### weaker readings -/
section
variable {X : Cx}
theorem PE.weak {e : Expr} {t t' : TE} (h : PE X e t) (i : ∀ σ H Q, t' σ H Q → t σ H Q) : PE X e t' := ⟨fun pins s σ H Q I q => h.run pins s σ H Q I (i σ H Q q)⟩
theorem PT.weak {e : Expr} {t t' : TT} (h : PT X e t) (i : ∀ σ H Q, t' σ H Q → t σ H Q) : PT X e t' := ⟨fun pins s σ H Q I q => h.run pins s σ H Q I (i σ H Q q)⟩
theorem PA.weak {es : List Expr} {t t' : TA} (h : PA X es t) (i : ∀ σ H Q, t' σ H Q → t σ H Q) : PA X es t' := ⟨fun pos pins s σ H Q I q => h.run pos pins s σ H Q I (i σ H Q q)⟩
theorem PS.weak {st : Stmt} {t t' : TS} (h : PS X st t) (i : ∀ D σ H, t' D σ H → t D σ H) : PS X st t' := ⟨fun pins s σ H D I q => h.run pins s σ H D I (i D σ H q)⟩
theorem PSs.weak {st : List Stmt} {t t' : TS} (h : PSs X st t) (i : ∀ D σ H, t' D σ H → t D σ H) : PSs X st t' := ⟨fun pins s σ H D I q => h.run pins s σ H D I (i D σ H q)⟩
theorem OpR.weak {f : Value → Value → Sem Value} {r r' : R2} (h : OpR X f r) (i : ∀ x y H Q, r' x y H Q → r x y H Q) : OpR X f r' := fun pins s σ H x y v u Q I rx ry q => h pins s σ H x y v u Q I rx ry (i x y H Q q)
theorem UnR.weak {f : Value → Sem Value} {r r' : V → Hp → VK → Prop} (h : UnR X f r) (i : ∀ x H Q, r' x H Q → r x H Q) : UnR X f r' := fun pins s σ H x v Q I rx q => h pins s σ H x v Q I rx (i x H Q q)
theorem CallR.weak {f : Value} {r r' : List V → Hp → VK → Prop} (h : CallR X f r) (i : ∀ xs H Q, r' xs H Q → r xs H Q) : CallR X f r' := fun pins s σ H xs us Q I rx q => h pins s σ H xs us Q I rx (i xs H Q q)
theorem CallR.or {f : Value} {r r' : List V → Hp → VK → Prop} (h : CallR X f r) (h' : CallR X f r') : CallR X f (fun xs H Q => r xs H Q ∨ r' xs H Q) := fun pins s σ H xs us Q I rx q =>
  q.elim (h pins s σ H xs us Q I rx) (h' pins s σ H xs us Q I rx)
theorem OpR.no {f : Value → Value → Sem Value} : OpR X f (fun _ _ _ _ => False) := fun _ _ _ _ _ _ _ _ _ _ _ _ q => q.elim
theorem CallR.no {f : Value} : CallR X f (fun _ _ _ => False) := fun _ _ _ _ _ _ _ _ _ q => q.elim

/-! ### expressions by operations -/
variable {a b : Expr} {fa fb : Ev D} {pos : Pos} {W : WX}
theorem pe_ev2 {op : Operator} {f : Op2} (ho : OpR X (binaryOp op) (rdOp2 X.K X.mg f)) (ha : PE X a (rdE X.K X.mg W fa)) (hb : PE X b (rdE X.K X.mg W fb)) : PE X (.BinOp a op b pos) (rdE X.K X.mg W (ev2 f fa fb)) :=
  PE.weak (pe_op ho ha hb) fun _ _ _ h => rd2 h
theorem pe_cmp2 {op : CmpOp} {f : Op2} (ho : OpR X (compareOp op) (rdOp2 X.K X.mg f)) (ha : PE X a (rdE X.K X.mg W fa)) (hb : PE X b (rdE X.K X.mg W fb)) (hm : behindInMarks op b = false) :
    PE X (.Compare a [op] [b] pos) (rdE X.K X.mg W (ev2 f fa fb)) := PE.weak (pe_cmpR ho ha hb hm) fun _ _ _ h => rd2 h
theorem pe_ev1 {op : UnaryOp} {f : Op1} (ho : UnR X (unaryOp op) (rdOp1 X.K X.mg f)) (ha : PE X a (rdE X.K X.mg W fa)) : PE X (.UnaryOp op a pos) (rdE X.K X.mg W (ev1 f fa)) :=
  PE.weak (pe_un ho ha) fun _ _ _ h => rd1 h
theorem pe_ix2 {f : Op2} (ho : IxR X (rdOp2 X.K X.mg f)) (ha : PE X a (rdE X.K X.mg W fa)) (hb : PE X b (rdE X.K X.mg W fb)) (hs : PlainIx b) : PE X (.Subscript a b pos) (rdE X.K X.mg W (ev2 f fa fb)) :=
  PE.weak (pe_ix ho ha hb hs) fun _ _ _ h => rd2 h
end
end PP
set_option Elab.async false
set_option linter.all false
set_option maxRecDepth 100000
set_option maxHeartbeats 2000000
/-! PP2: operations on data, and that the machine does them. -/
namespace PP
open PySem PySem.Spec PyProof.Rows L2

/-! ### numbers -/
def smallI (i : Int) : Bool := decide (i.natAbs.log2 < 400000)
def addD : Op2 := fun d e st => match d, e with
  | .int a, .int b => some (.int (a + b), st)
  | .str a, .str b => if a.length + b.length ≤ sizeLine then some (.str (a ++ b), st) else none
  | .tup k a, .tup k' b => if a.length + b.length ≤ sizeLine then some (.tup (k || k') (a ++ b), st) else none
  | .ref l, .ref k => match st[l]?, st[k]? with
    | some (false, .lst xs), some (false, .lst ys) => if xs.length + ys.length ≤ sizeLine then some (.ref st.length, st ++ [(false, .lst (xs ++ ys))]) else none
    | _, _ => none
  | _, _ => none
def subD : Op2 := fun d e st => match d, e with
  | .int a, .int b => some (.int (a - b), st)
  | _, _ => none
def mulD : Op2 := fun d e st => match d, e with
  | .int a, .int b => if smallI a && smallI b then some (.int (a * b), st) else none
  | _, _ => none
def floorD : Op2 := fun d e st => match d, e with
  | .int a, .int b => if b ≠ 0 ∧ b.natAbs.log2 < 9000 then some (.int (a.fdiv b), st) else none
  | _, _ => none
def modD : Op2 := fun d e st => match d, e with
  | .int a, .int b => if b ≠ 0 then some (.int (a.fmod b), st) else none
  | _, _ => none
def powD : Op2 := fun d e st => match d, e with
  | .int a, .int b => if 0 ≤ b ∧ b ≤ 1000000 ∧ a.natAbs < 2 ^ 64 then some (.int (a ^ b.toNat), st) else none
  | _, _ => none
def negD : Op1 := fun d st => match d with
  | .int a => some (.int (-a), st)
  | _ => none
section
variable {X : Cx} {K : PySem.W.Frag} {mg : Str → Option Value} {m : List Addr} {H : Hp} {st : Store} {Q : VK}
theorem Out.here {d : D} {v : V} {st' : Store} (h : Out K mg (Rp K mg) m H (some (d, st')) Q) (s : StOk K mg m H st') (r : Rp K mg m H d v) : Q v H := h m H v (Pre.refl m) (Pers.refl H) s r
/-- a new tuple -/
theorem Out.tup {k : Bool} {ds : List D} {xs : List V} (h : Out K mg (Rp K mg) m H (some (.tup k ds, st)) Q) (s : StOk K mg m H st) (r : RpL K mg m H ds xs) {p : Addr} (hp : H p = none) : Q (.ref p) (upd H p (.tup xs)) :=
  h m _ _ (Pre.refl m) (Pers.new hp) (s.beside hp) ⟨p, xs, rfl, TupAt.any upd_same, RpL.mono (Pre.refl m) (Pers.new hp) _ _ r⟩
/-- a new list -/
theorem Out.lst {ds : List D} {xs : List V} (h : Out K mg (Rp K mg) m H (some (.ref st.length, st ++ [(false, .lst ds)])) Q) (s : StOk K mg m H st) (r : RpL K mg m H ds xs) {p : Addr} (hp : H p = none) : Q (.ref p) (upd H p (.lst xs)) :=
  h (m ++ [p]) _ _ (Pre.snoc m p) (Pers.new hp) (s.snoc hp ⟨xs, RpL.mono (Pre.snoc m p) (Pers.new hp) _ _ r, upd_same⟩) ⟨p, rfl, Pre.last s.len⟩
theorem CellOk.lst_rd {a : Addr} {lk : Bool} {ds : List D} (h : CellOk K mg m H a lk (.lst ds)) : ∃ xs, RpL K mg m H ds xs ∧ SqL K H a xs := by
  obtain ⟨xs, r, c⟩ := h
  exact ⟨xs, r, .inl c.rd⟩
theorem RpL.nil_iff {ds : List D} {xs : List V} (r : RpL K mg m H ds xs) : xs = [] ↔ ds = [] := by
  have := r.length
  constructor
  · intro e; subst e; exact List.eq_nil_of_length_eq_zero this.symm
  · intro e; subst e; exact List.eq_nil_of_length_eq_zero this
theorem smallI_ok {i j : Int} (h : (smallI i && smallI j) = true) : CMulW i j := by
  obtain ⟨h1, h2⟩ := Bool.and_eq_true_iff.mp h
  have h1 := of_decide_eq_true h1
  have h2 := of_decide_eq_true h2
  unfold CMulW; omega
theorem op_addD : OpR X (binaryOp .Add) (rdOp2 X.K X.mg addD) := by
  refine OpR.weak ((op_add (X := X)).or (op_add_str.or (op_catA.or op_cat))) fun x y H Q h => ?_
  obtain ⟨m, st, d, e, s, rd, re, o⟩ := h
  unfold addD at o
  split at o
  · cases rd; cases re
    exact .inl ⟨_, _, rfl, rfl, o.here s rfl⟩
  · cases rd; cases re
    split at o
    · rename_i hl
      exact .inr (.inl ⟨_, _, rfl, rfl, hl, o.here s rfl⟩)
    · exact o.elim
  · split at o
    · rename_i k a k' b hl
      obtain ⟨pa, xs, rfl, ta, ra⟩ := rd
      obtain ⟨pb, ys, rfl, tb, rb⟩ := re
      refine .inr (.inr (.inl ⟨pa, pb, xs, ys, rfl, rfl, ta.sq, tb.sq, by rw [ra.length, rb.length]; exact hl, fun e => ?_, fun _ e => ?_, fun _ _ p hp => ?_⟩))
      · have ea : a = [] := ra.nil_iff.mp e
        subst ea
        exact o.here s ⟨pb, ys, rfl, tb.orR, rb⟩
      · have eb : b = [] := rb.nil_iff.mp e
        subst eb
        rw [List.append_nil] at o
        exact o.here s ⟨pa, xs, rfl, ta.orL, ra⟩
      · exact o.tup s (ra.append rb) hp
    · exact o.elim
  · rename_i l k
    split at o
    · rename_i xs ys e1 e2
      split at o
      · rename_i hl
        obtain ⟨pa, rfl, ea⟩ := rd
        obtain ⟨pb, rfl, eb⟩ := re
        obtain ⟨us, ru, cu⟩ := s.at_ l _ _ pa e1 ea
        obtain ⟨ws, rw', cw⟩ := s.at_ k _ _ pb e2 eb
        exact .inr (.inr (.inr ⟨pa, pb, us, ws, rfl, rfl, cu, cw, by rw [ru.length, rw'.length]; exact hl, fun p hp => o.lst s (ru.append rw') hp⟩))
      · exact o.elim
    · exact o.elim
  · exact o.elim
theorem op_subD : OpR X (binaryOp .Sub) (rdOp2 X.K X.mg subD) := by
  refine OpR.weak op_sub fun x y H Q h => ?_
  obtain ⟨m, st, d, e, s, rd, re, o⟩ := h
  unfold subD at o
  split at o
  · cases rd; cases re
    exact ⟨_, _, rfl, rfl, o.here s rfl⟩
  · exact o.elim
theorem op_mulD : OpR X (binaryOp .Mult) (rdOp2 X.K X.mg mulD) := by
  refine OpR.weak op_mulW fun x y H Q h => ?_
  obtain ⟨m, st, d, e, s, rd, re, o⟩ := h
  unfold mulD at o
  split at o
  · split at o
    · rename_i hs
      cases rd; cases re
      exact ⟨_, _, rfl, rfl, smallI_ok hs, o.here s rfl⟩
    · exact o.elim
  · exact o.elim
theorem op_fdivA : OpR X (binaryOp .FloorDiv) (rI (fun _ j => j ≠ 0 ∧ j.natAbs.log2 < 9000) fun i j => .int (i.fdiv j)) := opI fun i j _ _ _ _ _ hc q => floordiv_int hc.1 q (.inl (PyProof.noPylong_of_log2 hc.2))
theorem op_floorD : OpR X (binaryOp .FloorDiv) (rdOp2 X.K X.mg floorD) := by
  refine OpR.weak op_fdivA fun x y H Q h => ?_
  obtain ⟨m, st, d, e, s, rd, re, o⟩ := h
  unfold floorD at o
  split at o
  · split at o
    · rename_i hs
      cases rd; cases re
      exact ⟨_, _, rfl, rfl, hs, o.here s rfl⟩
    · exact o.elim
  · exact o.elim
theorem op_modD : OpR X (binaryOp .Mod) (rdOp2 X.K X.mg modD) := by
  refine OpR.weak op_modN fun x y H Q h => ?_
  obtain ⟨m, st, d, e, s, rd, re, o⟩ := h
  unfold modD at o
  split at o
  · split at o
    · rename_i hs
      cases rd; cases re
      exact ⟨_, _, rfl, rfl, hs, o.here s rfl⟩
    · exact o.elim
  · exact o.elim
theorem op_powD : OpR X (binaryOp .Pow) (rdOp2 X.K X.mg powD) := by
  refine OpR.weak op_pow fun x y H Q h => ?_
  obtain ⟨m, st, d, e, s, rd, re, o⟩ := h
  unfold powD at o
  split at o
  · split at o
    · rename_i hs
      cases rd; cases re
      exact ⟨_, _, rfl, rfl, hs, o.here s rfl⟩
    · exact o.elim
  · exact o.elim
theorem un_negD : UnR X (unaryOp .USub) (rdOp1 X.K X.mg negD) := by
  refine UnR.weak un_neg fun x H Q h => ?_
  obtain ⟨m, st, d, s, rd, o⟩ := h
  unfold negD at o
  split at o
  · cases rd
    exact ⟨_, rfl, o.here s rfl⟩
  · exact o.elim
end

/-! ### data as a whole -/
def optAll {α : Type} : List (Option α) → Option (List α)
  | [] => some []
  | none :: _ => none
  | some a :: r => (optAll r).map fun l => a :: l
/-- what a datum reads as: lists are read off the store -/
def toP (st : Store) : Nat → D → Option PyData
  | 0, _ => none
  | n + 1, d => match d with
    | .non => some .none
    | .bl b => some (.bool b)
    | .int i => some (.int i)
    | .str s => if PyData.strOk s = true then some (.str s) else none
    | .tup _ ds => (optAll (ds.map (toP st n))).map .tuple
    | .ref l => match st[l]? with
      | some (_, .lst ds) => (optAll (ds.map (toP st n))).map .list
      | _ => none
    | .fn _ => none
    | .ty _ => none
section
variable {X : Cx} {K : PySem.W.Frag} {mg : Str → Option Value} {m : List Addr} {H : Hp} {st : Store} {Q : VK}
theorem optAll_cons {α : Type} {o : Option α} {r : List (Option α)} {l : List α} (h : optAll (o :: r) = some l) : ∃ a l', o = some a ∧ optAll r = some l' ∧ l = a :: l' := by
  cases o with
  | none => cases h
  | some a =>
    unfold optAll at h
    cases e : optAll r with
    | none => rw [e] at h; cases h
    | some l' => rw [e] at h; cases h; exact ⟨a, l', rfl, rfl, rfl⟩
theorem dpAll_of {n : Nat} (ih : ∀ d p v, toP st n d = some p → Rp K mg m H d v → Dp K H v p ∧ p.canLay0 = true ∧ p.depth ≤ n) : ∀ (ds : List D) (ps : List PyData) (vs : List V), optAll (ds.map (toP st n)) = some ps → RpL K mg m H ds vs →
    DpAll K H vs ps ∧ PyData.canLayAll0 ps = true ∧ PyData.depthAll ps ≤ n
  | [], ps, vs, h, r => by
    cases h
    rw [r.nil]
    exact ⟨.nil, by simp only [PyData.canLayAll0], by simp only [PyData.depthAll]; omega⟩
  | d :: ds, ps, vs, h, r => by
    obtain ⟨p, ps', e1, e2, rfl⟩ := optAll_cons h
    obtain ⟨x, xs, rfl, r1, r2⟩ := r
    obtain ⟨a1, a2, a3⟩ := ih d p x e1 r1
    obtain ⟨b1, b2, b3⟩ := dpAll_of ih ds ps' xs e2 r2
    exact ⟨.cons a1 b1, by simp only [PyData.canLayAll0, a2, b2, Bool.and_self], by simp only [PyData.depthAll]; omega⟩
theorem dp_of (s : StOk K mg m H st) : ∀ (n : Nat) (d : D) (p : PyData) (v : V), toP st n d = some p → Rp K mg m H d v → Dp K H v p ∧ p.canLay0 = true ∧ p.depth ≤ n
  | 0, _, _, _, h, _ => by cases h
  | n + 1, d, p, v, h, r => by
    unfold toP at h
    cases d with
    | non => cases h; cases r; exact ⟨.non, by simp only [PyData.canLay0], by simp only [PyData.depth]; omega⟩
    | bl b => cases h; cases r; exact ⟨.bl b, by simp only [PyData.canLay0], by simp only [PyData.depth]; omega⟩
    | int i => cases h; cases r; exact ⟨.int i, by simp only [PyData.canLay0], by simp only [PyData.depth]; omega⟩
    | str x =>
      simp only at h
      split at h
      · rename_i hx
        cases h; cases r
        exact ⟨.str x, by simp only [PyData.canLay0, hx], by simp only [PyData.depth]; omega⟩
      · cases h
    | tup k ds =>
      simp only at h
      cases e : optAll (ds.map (toP st n)) with
      | none => rw [e] at h; cases h
      | some ps =>
        rw [e] at h; cases h
        obtain ⟨a, xs, rfl, t, rl⟩ := r
        obtain ⟨h1, h2, h3⟩ := dpAll_of (dp_of s n) ds ps xs e rl
        exact ⟨.tup t.sq h1, by simp only [PyData.canLay0, h2], by simp only [PyData.depth]; omega⟩
    | ref l =>
      simp only at h
      split at h
      · rename_i lk ds es
        cases e : optAll (ds.map (toP st n)) with
        | none => rw [e] at h; cases h
        | some ps =>
          rw [e] at h; cases h
          obtain ⟨a, rfl, em⟩ := r
          obtain ⟨xs, rl, sq⟩ := (s.at_ l lk _ a es em).lst_rd
          obtain ⟨h1, h2, h3⟩ := dpAll_of (dp_of s n) ds ps xs e rl
          exact ⟨.lst sq h1, by simp only [PyData.canLay0, h2], by simp only [PyData.depth]; omega⟩
      · cases h
    | fn x => cases h
    | ty x => cases h
/-- how deep data are read -/
abbrev dpt : Nat := 30
abbrev rdP (st : Store) (d : D) : Option PyData := toP st dpt d
theorem rdP_of (s : StOk K mg m H st) {d : D} {p : PyData} {v : V} (h : rdP st d = some p) (r : Rp K mg m H d v) : Dp K H v p ∧ SeqAt.shaped p = true ∧ p.depth ≤ dpt := by
  obtain ⟨h1, h2, h3⟩ := dp_of s _ d p v h r
  refine ⟨h1, ?_, h3⟩
  unfold SeqAt.shaped
  rw [h2, Bool.true_and]
  exact decide_eq_true (by have : dpt = 30 := rfl; omega)
end

/-! ### comparisons -/
def eqD : Op2 := fun d e st => match rdP st d, rdP st e with
  | some p, some q => some (.bl (PyData.eqv p q), st)
  | _, _ => none
def neD : Op2 := fun d e st => match rdP st d, rdP st e with
  | some p, some q => some (.bl (!PyData.eqv p q), st)
  | _, _ => none
/-- may be compared by order -/
def ordOk (p q : PyData) : Bool := PySem.W.alike p q && (match p with | .none => false | _ => true)
def ltD : Op2 := fun d e st => match rdP st d, rdP st e with
  | some p, some q => if ordOk p q = true then some (.bl (PySem.W.dataLt p q), st) else none
  | _, _ => none
def gtD : Op2 := fun d e st => match rdP st d, rdP st e with
  | some p, some q => if ordOk p q = true then some (.bl (PySem.W.dataLt q p), st) else none
  | _, _ => none
def leD : Op2 := fun d e st => match rdP st d, rdP st e with
  | some p, some q => if ordOk p q = true then some (.bl (!PySem.W.dataLt q p), st) else none
  | _, _ => none
def geD : Op2 := fun d e st => match rdP st d, rdP st e with
  | some p, some q => if ordOk p q = true then some (.bl (!PySem.W.dataLt p q), st) else none
  | _, _ => none
section
variable {X : Cx}
theorem op_eqDd (hu : X.A.units + 64 < cLine) : OpR X (compareOp .Eq) (rdOp2 X.K X.mg eqD) := by
  refine OpR.weak (op_eqD hu) fun x y H Q h => ?_
  obtain ⟨m, st, d, e, s, rd, re, o⟩ := h
  unfold eqD at o
  split at o
  · rename_i p q e1 e2
    obtain ⟨h1, h2, _⟩ := rdP_of s e1 rd
    obtain ⟨k1, k2, _⟩ := rdP_of s e2 re
    exact ⟨p, q, h1, k1, h2, k2, o.here s rfl⟩
  · exact o.elim
theorem op_neDd (hu : X.A.units + 64 < cLine) : OpR X (compareOp .NotEq) (rdOp2 X.K X.mg neD) := by
  refine OpR.weak (op_neD hu) fun x y H Q h => ?_
  obtain ⟨m, st, d, e, s, rd, re, o⟩ := h
  unfold neD at o
  split at o
  · rename_i p q e1 e2
    obtain ⟨h1, h2, _⟩ := rdP_of s e1 rd
    obtain ⟨k1, k2, _⟩ := rdP_of s e2 re
    exact ⟨p, q, h1, k1, h2, k2, o.here s rfl⟩
  · exact o.elim
theorem ordOk_and {p q : PyData} (h : ordOk p q = true) : PySem.W.alike p q = true ∧ p ≠ .none := by
  unfold ordOk at h
  obtain ⟨h1, h2⟩ := Bool.and_eq_true_iff.mp h
  exact ⟨h1, fun e => by subst e; cases h2⟩
theorem ord_room {A : Around} {p q : PyData} (hu : A.units + 64 < cLine) (h : p.depth ≤ dpt) : A.units + min p.depth q.depth < cLine := by
  have h1 : min p.depth q.depth ≤ p.depth := Nat.min_le_left _ _
  have : dpt = 30 := rfl
  omega
theorem op_ltDd (hu : X.A.units + 64 < cLine) : OpR X (compareOp .Lt) (rdOp2 X.K X.mg ltD) := by
  intro pins s σ H x y v u Q I rx ry h
  obtain ⟨m, st, d, e, so, rd, re, o⟩ := h
  unfold ltD at o
  split at o
  · rename_i p q e1 e2
    split at o
    · rename_i ok
      obtain ⟨h1, h2, h3⟩ := rdP_of so e1 rd
      obtain ⟨k1, k2, k3⟩ := rdP_of so e2 re
      obtain ⟨al, ne⟩ := ordOk_and ok
      obtain ⟨as, r1⟩ := Dp.reads I p x v h1 rx
      obtain ⟨bs, r2⟩ := Dp.reads I q y u k1 ry
      exact PySem.W.lt_data r1 r2 al ne (ord_room hu h3) ⟨.bl _, H, I, rfl, o.here so rfl⟩
    · exact o.elim
  · exact o.elim
theorem op_gtDd (hu : X.A.units + 64 < cLine) : OpR X (compareOp .Gt) (rdOp2 X.K X.mg gtD) := by
  intro pins s σ H x y v u Q I rx ry h
  obtain ⟨m, st, d, e, so, rd, re, o⟩ := h
  unfold gtD at o
  split at o
  · rename_i p q e1 e2
    split at o
    · rename_i ok
      obtain ⟨h1, h2, h3⟩ := rdP_of so e1 rd
      obtain ⟨k1, k2, k3⟩ := rdP_of so e2 re
      obtain ⟨al, ne⟩ := ordOk_and ok
      obtain ⟨as, r1⟩ := Dp.reads I p x v h1 rx
      obtain ⟨bs, r2⟩ := Dp.reads I q y u k1 ry
      exact PySem.W.gt_data r1 r2 al ne (ord_room hu h3) ⟨.bl _, H, I, rfl, o.here so rfl⟩
    · exact o.elim
  · exact o.elim
theorem op_leDd (hu : X.A.units + 64 < cLine) : OpR X (compareOp .LtE) (rdOp2 X.K X.mg leD) := by
  intro pins s σ H x y v u Q I rx ry h
  obtain ⟨m, st, d, e, so, rd, re, o⟩ := h
  unfold leD at o
  split at o
  · rename_i p q e1 e2
    split at o
    · rename_i ok
      obtain ⟨h1, h2, h3⟩ := rdP_of so e1 rd
      obtain ⟨k1, k2, k3⟩ := rdP_of so e2 re
      obtain ⟨al, ne⟩ := ordOk_and ok
      obtain ⟨as, r1⟩ := Dp.reads I p x v h1 rx
      obtain ⟨bs, r2⟩ := Dp.reads I q y u k1 ry
      exact PySem.W.le_data r1 r2 al ne (ord_room hu h3) ⟨.bl _, H, I, rfl, o.here so rfl⟩
    · exact o.elim
  · exact o.elim
theorem op_geDd (hu : X.A.units + 64 < cLine) : OpR X (compareOp .GtE) (rdOp2 X.K X.mg geD) := by
  intro pins s σ H x y v u Q I rx ry h
  obtain ⟨m, st, d, e, so, rd, re, o⟩ := h
  unfold geD at o
  split at o
  · rename_i p q e1 e2
    split at o
    · rename_i ok
      obtain ⟨h1, h2, h3⟩ := rdP_of so e1 rd
      obtain ⟨k1, k2, k3⟩ := rdP_of so e2 re
      obtain ⟨al, ne⟩ := ordOk_and ok
      obtain ⟨as, r1⟩ := Dp.reads I p x v h1 rx
      obtain ⟨bs, r2⟩ := Dp.reads I q y u k1 ry
      exact PySem.W.ge_data r1 r2 al ne (ord_room hu h3) ⟨.bl _, H, I, rfl, o.here so rfl⟩
    · exact o.elim
  · exact o.elim
end
end PP
set_option Elab.async false
set_option linter.all false
set_option maxRecDepth 100000
set_option maxHeartbeats 2000000
/-! PP3: keys and dicts, subscripts, stores, slices, in. -/
namespace PP
open PySem PySem.Spec PyProof.Rows L2

/-! ### keys and dicts -/
def keyOf : D → Option (Sum Key (List Key))
  | .int i => some (.inl (.inl i))
  | .str s => some (.inl (.inr s))
  | .tup _ ds => (keysD ds).map .inr
  | _ => none
def keq (a b : D) : Bool := match keyOf a, keyOf b with
  | some x, some y => decide (x = y)
  | _, _ => false
def dget (kvs : List (D × D)) (k : D) : Option D := (kvs.find? fun p => keq p.1 k).map (·.2)
def dput (kvs : List (D × D)) (k v : D) : List (D × D) := if (kvs.any fun p => keq p.1 k) = true then kvs.map fun p => if keq p.1 k = true then (p.1, v) else p else kvs ++ [(k, v)]
def ddel (kvs : List (D × D)) (k : D) : List (D × D) := kvs.filter fun p => !keq p.1 k
/-- a simple key -/
def isK (d : D) : Bool := (keyD d).isSome
/-- a tuple of simple ones -/
def isT : D → Bool
  | .tup false ds => (keysD ds).isSome
  | _ => false
abbrev fK : Key → D := kD
abbrev fT : List Key → D := fun ks => .tup false (ks.map kD)
theorem isK_of {d : D} (h : isK d = true) : ∃ k, d = fK k := by
  obtain ⟨k, e⟩ := Option.isSome_iff_exists.mp h
  exact ⟨k, kD_of e⟩
theorem isT_of {d : D} (h : isT d = true) : ∃ k, d = fT k := by
  cases d with
  | tup b ds =>
    cases b with
    | true => cases h
    | false =>
      obtain ⟨k, e⟩ := Option.isSome_iff_exists.mp (show (keysD ds).isSome = true from h)
      exact ⟨k, congrArg (D.tup false) (kDs_of e)⟩
  | _ => cases h
theorem isT_fK (k : Key) : isT (kD k) = false := by cases k <;> rfl
theorem keyOf_fK (k : Key) : keyOf (fK k) = some (.inl k) := by cases k <;> rfl
theorem keyOf_fT (k : List Key) : keyOf (fT k) = some (.inr k) := by
  show (keysD (k.map kD)).map Sum.inr = _
  rw [keysD_map]; rfl
theorem keq_fK (a b : Key) : keq (fK a) (fK b) = decide (a = b) := by
  unfold keq
  rw [keyOf_fK, keyOf_fK]
  simp
theorem keq_fT (a b : List Key) : keq (fT a) (fT b) = decide (a = b) := by
  unfold keq
  rw [keyOf_fT, keyOf_fT]
  simp
section
variable {K : PySem.W.Frag} {mg : Str → Option Value} {m : List Addr} {H : Hp} {κ : Type} [DecidableEq κ] {f : κ → D}
/-- both there, or none -/
def RO (m : List Addr) (H : Hp) : Option D → Option V → Prop
  | some d, some v => Rp K mg m H d v
  | none, none => True
  | _, _ => False
theorem Kvs.get (hf : ∀ a b, keq (f a) (f b) = decide (a = b)) (k : κ) : ∀ {kvs : List (D × D)} {kv' : List (κ × V)}, Kvs K mg m H f kvs kv' → RO (K := K) (mg := mg) m H (dget kvs (f k)) (valV kv' k)
  | _, _, .nil => True.intro
  | p :: kvs, q :: kv', .cons ⟨e, r⟩ t => by
    unfold dget
    rw [List.find?_cons, e, hf]
    by_cases h : q.1 = k
    · rw [decide_eq_true h, valV_pos h]; exact r
    · rw [decide_eq_false h, valV_neg h]
      exact Kvs.get hf k t
theorem Kvs.any (hf : ∀ a b, keq (f a) (f b) = decide (a = b)) (k : κ) : ∀ {kvs : List (D × D)} {kv' : List (κ × V)}, Kvs K mg m H f kvs kv' → (kvs.any fun p => keq p.1 (f k)) = kv'.any fun q => decide (q.1 = k)
  | _, _, .nil => rfl
  | p :: kvs, q :: kv', .cons ⟨e, r⟩ t => by rw [List.any_cons, List.any_cons, e, hf, Kvs.any hf k t]
theorem Kvs.snoc {kvs : List (D × D)} {kv' : List (κ × V)} {p : D × D} {q : κ × V} (h : Kvs K mg m H f kvs kv') (e : p.1 = f q.1 ∧ Rp K mg m H p.2 q.2) : Kvs K mg m H f (kvs ++ [p]) (kv' ++ [q]) := by
  induction h with
  | nil => exact .cons e .nil
  | cons r t ih => exact .cons r ih
theorem Kvs.repl (hf : ∀ a b, keq (f a) (f b) = decide (a = b)) (k : κ) {d : D} {v : V} (rv : Rp K mg m H d v) : ∀ {kvs : List (D × D)} {kv' : List (κ × V)}, Kvs K mg m H f kvs kv' →
    Kvs K mg m H f (kvs.map fun p => if keq p.1 (f k) = true then (p.1, d) else p) (kv'.map fun q => if q.1 = k then (q.1, v) else q)
  | _, _, .nil => .nil
  | p :: kvs, q :: kv', .cons ⟨e, r⟩ t => by
    refine .cons ?_ (Kvs.repl hf k rv t)
    show (if keq p.1 (f k) = true then (p.1, d) else p).1 = f (if q.1 = k then (q.1, v) else q).1 ∧ Rp K mg m H (if keq p.1 (f k) = true then (p.1, d) else p).2 (if q.1 = k then (q.1, v) else q).2
    rw [e, hf]
    by_cases h : q.1 = k
    · rw [if_pos (decide_eq_true h), if_pos h]; exact ⟨rfl, rv⟩
    · rw [if_neg (fun z => h (of_decide_eq_true z)), if_neg h]; exact ⟨e, r⟩
theorem Kvs.put (hf : ∀ a b, keq (f a) (f b) = decide (a = b)) (k : κ) {d : D} {v : V} (rv : Rp K mg m H d v) {kvs : List (D × D)} {kv' : List (κ × V)} (h : Kvs K mg m H f kvs kv') : Kvs K mg m H f (dput kvs (f k) d) (putK kv' k v) := by
  unfold dput putK
  rw [Kvs.any hf k h]
  split
  · exact Kvs.repl hf k rv h
  · exact h.snoc ⟨rfl, rv⟩
theorem Kvs.del (hf : ∀ a b, keq (f a) (f b) = decide (a = b)) (k : κ) : ∀ {kvs : List (D × D)} {kv' : List (κ × V)}, Kvs K mg m H f kvs kv' → Kvs K mg m H f (ddel kvs (f k)) (dropK kv' k)
  | _, _, .nil => .nil
  | p :: kvs, q :: kv', .cons ⟨e, r⟩ t => by
    unfold ddel dropK
    rw [List.filter_cons, List.filter_cons, e, hf]
    by_cases h : q.1 = k
    · rw [decide_eq_true h, decide_eq_false (fun z => z h)]
      exact Kvs.del hf k t
    · rw [decide_eq_false h, decide_eq_true h]
      exact .cons ⟨e, r⟩ (Kvs.del hf k t)
theorem Kvs.length {kvs : List (D × D)} {kv' : List (κ × V)} (h : Kvs K mg m H f kvs kv') : kvs.length = kv'.length := Paired.length h
end
/-- what is found at a key: none: it can't be said -/
def lookD (st : Store) (d k : D) : Option (Option D) := match d with
  | .ref l => match st[l]? with
    | some (lk, .dct []) => if lk = false ∧ (isK k || isT k) = true then some none else none
    | some (_, .dct (p :: kvs)) => if (isK p.1 && isK k) = true ∨ (isT p.1 && isT k) = true then some (dget (p :: kvs) k) else none
    | _ => none
  | _ => none
section
variable {X : Cx} {pins : List (Addr × Obj)} {σ : L2.St} {m : List Addr} {H : Hp} {s : Shared} {st : Store}
/-- an empty dict is of both kinds -/
theorem Inv.asK {a : Addr} (I : Inv X pins σ H s) (h : H a = some (.dT [])) : Inv X pins σ (upd H a (.dK [])) s := by
  obtain ⟨z, hd, xs, rel, o, es, ep, ho, hx, hda, he, _⟩ := I.hok a _ h
  cases rel
  have e0 : es = #[] := by simpa using he
  subst e0
  exact I.write (x := a) (e := a) (o := .dK []) (h' := s.heap) (t' := s.toks) (by rw [h]; trivial) (.inl rfl) (fun b u _ q => q) ⟨o, ho⟩
    ⟨Nat.zero_le _, hd, [], .nil, o, _, ep, ho, hx, hda, (fun e he => absurd he (by simp)), .nil, List.nodup_nil⟩
theorem Inv.asT {a : Addr} (I : Inv X pins σ H s) (h : H a = some (.dK [])) : Inv X pins σ (upd H a (.dT [])) s := by
  obtain ⟨z, hd, vs, rel, o, es, ep, ho, hx, hda, _, hp, _⟩ := I.hok a _ h
  cases rel
  have e0 : es = #[] := by
    have : es.toList = [] := by
      generalize es.toList = l at hp
      cases hp
      rfl
    exact Array.toList_eq_nil_iff.mp this
  subst e0
  exact I.write (x := a) (e := a) (o := .dT []) (h' := s.heap) (t' := s.toks) (by rw [h]; trivial) (.inl rfl) (fun b u _ q => q) ⟨o, ho⟩
    ⟨Nat.zero_le _, hd, [], .nil, o, _, ep, ho, hx, hda, by simp, List.nodup_nil⟩
theorem Kvs.nil_of {K : PySem.W.Frag} {mg : Str → Option Value} {κ : Type} {f : κ → D} {kv' : List (κ × V)} (h : Kvs K mg m H f [] kv') : kv' = [] := by cases h; rfl
theorem CellOk.emp {K : PySem.W.Frag} {mg : Str → Option Value} {a : Addr} (h : CellOk K mg m H a false (.dct [])) : H a = some (.dK []) ∨ H a = some (.dT []) := by
  rcases h with ⟨kv', r, c⟩ | ⟨kv', r, c⟩
  · rw [r.nil_of] at c; exact .inl c
  · rw [r.nil_of] at c; exact .inr c
/-- the heap, an empty dict turned as a key wants it -/
theorem StOk.turn {K : PySem.W.Frag} {mg : Str → Option Value} (h : StOk K mg m H st) {l : Nat} {a : Addr} {o u : HO} (e : st[l]? = some (false, .dct [])) (ea : m[l]? = some a) (eu : H a = some u) (hu : Stays u → False) (ho : o = .dK [] ∨ o = .dT []) :
    StOk K mg m (upd H a o) st ∧ Pers H (upd H a o) := by
  have p : Pers H (upd H a o) := Pers.write eu hu
  have k : CellOk K mg m (upd H a o) a false (.dct []) := by
    rcases ho with rfl | rfl
    · exact .inl ⟨[], .nil, upd_same⟩
    · exact .inr ⟨[], .nil, upd_same⟩
  have q := h.write e ea p k
  rw [show st.set l (false, .dct []) = st by
    obtain ⟨hl, e'⟩ := List.getElem?_eq_some_iff.mp e
    rw [← e', List.set_getElem_self]] at q
  exact ⟨q, p⟩
/-- the key at hand: the state is turned if need be; then DGet tells what lookD does -/
theorem look_at (I : Inv X pins σ H s) (so : StOk X.K X.mg m H st) {d k : D} {x y : V} {r : Option D} (rd : Rp X.K X.mg m H d x) (rk : Rp X.K X.mg m H k y) (h : lookD st d k = some r) :
    ∃ a H1 o, x = .ref a ∧ Inv X pins σ H1 s ∧ StOk X.K X.mg m H1 st ∧ Pers H H1 ∧ DGet H1 a y o ∧ IsD H1 a ∧ RO (K := X.K) (mg := X.mg) m H1 r o := by
  unfold lookD at h
  split at h
  · rename_i l
    obtain ⟨a, rfl, ea⟩ := rd
    split at h
    · rename_i lk e
      split at h
      · rename_i hc
        obtain ⟨rfl, hc⟩ := hc
        cases h
        rcases Bool.or_eq_true_iff.mp hc with hk | hk
        · obtain ⟨k', rfl⟩ := isK_of hk
          have ey := Rp_kD.mp rk
          subst ey
          rcases (so.at_ l _ _ a e ea).emp with eH | eH
          · exact ⟨a, H, none, rfl, I, so, Pers.refl H, .inl ⟨[], k', .inl eH, rfl, rfl⟩, .inl ⟨_, .inl eH⟩, True.intro⟩
          · obtain ⟨s1, p1⟩ := so.turn e ea eH (fun z => z) (.inl rfl)
            exact ⟨a, _, none, rfl, Inv.asK I eH, s1, p1, .inl ⟨[], k', .inl upd_same, rfl, rfl⟩, .inl ⟨_, .inl upd_same⟩, True.intro⟩
        · obtain ⟨k', rfl⟩ := isT_of hk
          obtain ⟨b, xs, rfl, tb, rl⟩ := rk
          have ex := RpL_kD rl
          subst ex
          rcases (so.at_ l _ _ a e ea).emp with eH | eH
          · obtain ⟨s1, p1⟩ := so.turn e ea eH (fun z => z) (.inr rfl)
            exact ⟨a, _, none, rfl, Inv.asT I eH, s1, p1, .inr ⟨[], k', b, .inl upd_same, rfl, tb.mono p1, rfl⟩, .inr ⟨_, .inl upd_same⟩, True.intro⟩
          · exact ⟨a, H, none, rfl, I, so, Pers.refl H, .inr ⟨[], k', b, .inl eH, rfl, tb, rfl⟩, .inr ⟨_, .inl eH⟩, True.intro⟩
      · cases h
    · rename_i lk p kvs e
      split at h
      · rename_i hc
        cases h
        have co := so.at_ l _ _ a e ea
        rcases hc with hc | hc
        · obtain ⟨h1, h2⟩ := Bool.and_eq_true_iff.mp hc
          obtain ⟨k', rfl⟩ := isK_of h2
          have ey := Rp_kD.mp rk
          subst ey
          rcases co with ⟨kv', r, c⟩ | ⟨kv', r, c⟩
          · exact ⟨a, H, _, rfl, I, so, Pers.refl H, .inl ⟨kv', k', c.rd, rfl, rfl⟩, .inl ⟨_, c.rd⟩, Kvs.get keq_fK k' r⟩
          · exfalso
            cases r with
            | cons e1 _ => rw [e1.1] at h1; cases h1
        · obtain ⟨h1, h2⟩ := Bool.and_eq_true_iff.mp hc
          obtain ⟨k', rfl⟩ := isT_of h2
          obtain ⟨b, xs, rfl, tb, rl⟩ := rk
          have ex := RpL_kD rl
          subst ex
          rcases co with ⟨kv', r, c⟩ | ⟨kv', r, c⟩
          · exfalso
            cases r with
            | @cons p q _ _ e1 _ =>
              rw [e1.1, isT_fK] at h1
              cases h1
          · exact ⟨a, H, _, rfl, I, so, Pers.refl H, .inr ⟨kv', k', b, c.rd, rfl, tb, rfl⟩, .inr ⟨_, c.rd⟩, Kvs.get keq_fT k' r⟩
      · cases h
    · cases h
  · cases h
end

/-! ### d[k], k in d, d[k] = v -/
section
variable {X : Cx}
def dgetD : Op2 := fun d k st => match lookD st d k with
  | some (some v) => some (v, st)
  | _ => none
def dinD (neg : Bool) : Op2 := fun k d st => match lookD st d k with
  | some r => some (.bl (if neg = true then !r.isSome else r.isSome), st)
  | _ => none
theorem RO.some_of {K : PySem.W.Frag} {mg : Str → Option Value} {m : List Addr} {H : Hp} {d : D} {o : Option V} (h : RO (K := K) (mg := mg) m H (some d) o) : ∃ v, o = some v ∧ Rp K mg m H d v := by
  cases o with
  | none => exact h.elim
  | some v => exact ⟨v, rfl, h⟩
theorem RO.isSome {K : PySem.W.Frag} {mg : Str → Option Value} {m : List Addr} {H : Hp} {d : Option D} {o : Option V} (h : RO (K := K) (mg := mg) m H d o) : o.isSome = d.isSome := by
  cases d <;> cases o <;> first | rfl | exact h.elim
theorem ix_dict (hu : X.A.units + 1 < cLine) : IxR X (rdOp2 X.K X.mg dgetD) := by
  intro value slice pins s σ H x y v u Q I rx ry h hs
  obtain ⟨m, st, d, k, so, rd, rk, o⟩ := h
  unfold dgetD at o
  split at o
  · rename_i r e
    obtain ⟨a, H1, ov, rfl, I1, s1, p1, g, _, ro⟩ := look_at I so rd rk e
    obtain ⟨w', rfl, rw'⟩ := ro.some_of
    cases rx
    refine tail_any (dict_typeIs I1 g) PySem.F.slot_dict_getitem.lookup (d_getItem hu I1 g ry fun wv s2 I2 rv => ?_) hs
    exact ⟨w', H1, I2, rv, o m H1 w' (Pre.refl m) p1 s1 rw'⟩
  · exact o.elim
theorem op_dinD (hu : X.A.units + 1 < cLine) : OpR X (compareOp .In) (rdOp2 X.K X.mg (dinD false)) := by
  intro pins s σ H x y v u Q I rx ry h
  obtain ⟨m, st, k, d, so, rk, rd, o⟩ := h
  unfold dinD at o
  split at o
  · rename_i r e
    obtain ⟨a, H1, ov, rfl, I1, s1, p1, g, _, ro⟩ := look_at I so rd rk e
    cases ry
    exact d_in hu I1 g rx fun s2 I2 => ⟨.bl ov.isSome, H1, I2, rfl, o m H1 _ (Pre.refl m) p1 s1 (congrArg V.bl ro.isSome)⟩
  · exact o.elim
theorem op_dninD (hu : X.A.units + 1 < cLine) : OpR X (compareOp .NotIn) (rdOp2 X.K X.mg (dinD true)) := by
  intro pins s σ H x y v u Q I rx ry h
  obtain ⟨m, st, k, d, so, rk, rd, o⟩ := h
  unfold dinD at o
  split at o
  · rename_i r e
    obtain ⟨a, H1, ov, rfl, I1, s1, p1, g, _, ro⟩ := look_at I so rd rk e
    cases ry
    exact d_notIn hu I1 g rx fun s2 I2 => ⟨.bl (!ov.isSome), H1, I2, rfl, o m H1 _ (Pre.refl m) p1 s1 (by rw [ro.isSome]; rfl)⟩
  · exact o.elim
/-- a store o[k] = v: what becomes of the store -/
abbrev OpS := D → D → D → Store → Option Store
def dputD : OpS := fun d k v st => match d with
  | .ref l => match st[l]? with
    | some (false, .dct []) => if (isK k || isT k) = true then some (st.set l (false, .dct [(k, v)])) else none
    | some (false, .dct (p :: kvs)) => if ((isK p.1 && isK k) = true ∨ (isT p.1 && isT k) = true) ∧ (p :: kvs).length < sizeLine then some (st.set l (false, .dct (dput (p :: kvs) k v))) else none
    | _ => none
  | _ => none
def rdSet (K : PySem.W.Frag) (mg : Str → Option Value) (f : OpS) : TSet := fun o i v H Q => ∃ m st d k e, StOk K mg m H st ∧ Rp K mg m H d o ∧ Rp K mg m H k i ∧ Rp K mg m H e v ∧ ∃ st', f d k e st = some st' ∧ ∀ H', Pers H H' → StOk K mg m H' st' → Q H'
theorem set_dict (hu : X.A.units + 1 < cLine) : PSet X (rdSet X.K X.mg dputD) := by
  intro pins s σ H o i v ov iv u Q I ro ri rv h
  obtain ⟨m, st, d, k, e, so, rd, rk, re, st2, hq, h⟩ := h
  unfold dputD at hq
  -- what a put into a dict of the one kind gives
  have putK' : ∀ {H1 : Hp} {a : Addr} {l : Nat} {lk : Bool} {c : Cell} {kvs : List (D × D)} {kv' : List (Key × V)} {k' : Key} {st' : Store}, Inv X pins σ H1 s → StOk X.K X.mg m H1 st → Pers H H1 → st[l]? = some (lk, c) → m[l]? = some a → H1 a = some (.dK kv') → Kvs X.K X.mg m H1 fK kvs kv' →
      kv'.length < sizeLine → k = fK k' → ov = .ref a → st' = st.set l (false, .dct (dput kvs k e)) → (∀ H', Pers H H' → StOk X.K X.mg m H' st' → Q H') →
      wpAny (model X.prog X.w) X.A (setItem ov iv u) (fun _ s' => ∃ H', Inv X pins σ H' s' ∧ Q H') X.xe s := by
    intro H1 a l lk c kvs kv' k' st' I1 s1 p1 el em eH r hl hk hov hst q
    subst hk hov hst
    have ei : i = kV k' := Rp_kD.mp rk
    subst ei
    have pw : Pers H1 (upd H1 a (.dK (putK kv' k' v))) := Pers.write eH (fun z => z)
    refine d_setItem hu I1 (DPut.k eH hl) ri rv fun s2 I2 => ⟨_, I2, q _ (p1.trans pw) (s1.write el em pw (.inl ⟨_, ?_, upd_same⟩))⟩
    exact Kvs.mono (Pre.refl m) pw (Kvs.put keq_fK k' (Rp.mono (Pre.refl m) p1 _ _ re) r)
  have putT' : ∀ {H1 : Hp} {a : Addr} {l : Nat} {lk : Bool} {c : Cell} {kvs : List (D × D)} {kv' : List (List Key × V)} {k' : List Key} {st' : Store}, Inv X pins σ H1 s → StOk X.K X.mg m H1 st → Pers H H1 → st[l]? = some (lk, c) → m[l]? = some a → H1 a = some (.dT kv') → Kvs X.K X.mg m H1 fT kvs kv' →
      kv'.length < sizeLine → k = fT k' → ov = .ref a → st' = st.set l (false, .dct (dput kvs k e)) → (∀ H', Pers H H' → StOk X.K X.mg m H' st' → Q H') →
      wpAny (model X.prog X.w) X.A (setItem ov iv u) (fun _ s' => ∃ H', Inv X pins σ H' s' ∧ Q H') X.xe s := by
    intro H1 a l lk c kvs kv' k' st' I1 s1 p1 el em eH r hl hk hov hst q
    subst hk hov hst
    obtain ⟨b, xs, rfl, tb, rl⟩ := rk
    have ex := RpL_kD rl
    subst ex
    have pw : Pers H1 (upd H1 a (.dT (putK kv' k' v))) := Pers.write eH (fun z => z)
    refine d_setItem hu I1 (DPut.t eH (tb.mono p1) hl) ri rv fun s2 I2 => ⟨_, I2, q _ (p1.trans pw) (s1.write el em pw (.inr ⟨_, ?_, upd_same⟩))⟩
    exact Kvs.mono (Pre.refl m) pw (Kvs.put keq_fT k' (Rp.mono (Pre.refl m) p1 _ _ re) r)
  cases d with
  | ref l =>
    obtain ⟨a, rfl, em⟩ := rd
    simp only at hq
    have hov : ov = .ref a := ro
    split at hq
    · rename_i el
      split at hq
      · rename_i hc
        cases hq
        have h0 : (0 : Nat) < sizeLine := by rw [sizeLine_eq]; decide
        rcases Bool.or_eq_true_iff.mp hc with hk | hk
        · obtain ⟨k', rfl⟩ := isK_of hk
          rcases (so.at_ l _ _ a el em).emp with eH | eH
          · exact putK' I so (Pers.refl H) el em eH .nil h0 rfl hov rfl h
          · obtain ⟨s1, p1⟩ := so.turn el em eH (fun z => z) (.inl rfl)
            exact putK' (Inv.asK I eH) s1 p1 el em upd_same .nil h0 rfl hov rfl h
        · obtain ⟨k', rfl⟩ := isT_of hk
          rcases (so.at_ l _ _ a el em).emp with eH | eH
          · obtain ⟨s1, p1⟩ := so.turn el em eH (fun z => z) (.inr rfl)
            exact putT' (Inv.asT I eH) s1 p1 el em upd_same .nil h0 rfl hov rfl h
          · exact putT' I so (Pers.refl H) el em eH .nil h0 rfl hov rfl h
      · cases hq
    · rename_i p kvs el
      split at hq
      · rename_i hc
        obtain ⟨hc, hl⟩ := hc
        cases hq
        have co := so.at_ l _ _ a el em
        rcases hc with hc | hc
        · obtain ⟨h1, h2⟩ := Bool.and_eq_true_iff.mp hc
          obtain ⟨k', rfl⟩ := isK_of h2
          rcases co with ⟨kv', r, c⟩ | ⟨kv', r, c⟩
          · exact putK' I so (Pers.refl H) el em c r (by rw [← r.length]; exact hl) rfl hov rfl h
          · exfalso
            cases r with
            | cons e1 _ => rw [e1.1] at h1; cases h1
        · obtain ⟨h1, h2⟩ := Bool.and_eq_true_iff.mp hc
          obtain ⟨k', rfl⟩ := isT_of h2
          rcases co with ⟨kv', r, c⟩ | ⟨kv', r, c⟩
          · exfalso
            cases r with
            | @cons p q _ _ e1 _ =>
              rw [e1.1, isT_fK] at h1
              cases h1
          · exact putT' I so (Pers.refl H) el em c r (by rw [← r.length]; exact hl) rfl hov rfl h
      · cases hq
    · cases hq
  | _ => cases hq
end
end PP
set_option Elab.async false
set_option linter.all false
set_option maxRecDepth 100000
set_option maxHeartbeats 2000000
/-! PP4: subscripts, list stores, slices, in, is, truth. -/
namespace PP
open PySem PySem.Spec PyProof.Rows L2

/-! ### subscripts -/
def sign1 (c : Nat) : Str := ⟨#[c]⟩
def ixD : Op2 := fun d i st => match d, i with
  | .ref l, .int i => match st[l]? with
    | some (_, .lst ds) => (atI ds i).map fun x => (x, st)
    | _ => none
  | .tup _ ds, .int i => (atI ds i).map fun x => (x, st)
  | .str z, .int i => if z.length ≤ sizeLine then (atI z.cps.toList i).map fun c => (.str (sign1 c), st) else none
  | _, _ => none
/-- o[i], whatever o is -/
def subscD : Op2 := fun d i st => match ixD d i st with
  | some r => some r
  | none => dgetD d i st
section
variable {K : PySem.W.Frag} {mg : Str → Option Value} {m : List Addr} {H : Hp}
theorem RpL.atI {ds : List D} {xs : List V} {i : Int} {d : D} (r : RpL K mg m H ds xs) (h : L2.atI ds i = some d) : ∃ x, L2.atI xs i = some x ∧ Rp K mg m H d x := by
  unfold L2.atI at h ⊢
  rw [r.length]
  cases e : ixN ds.length i with
  | none => rw [e] at h; cases h
  | some j =>
    rw [e] at h
    obtain ⟨x, e1, r1⟩ := r.get h
    exact ⟨x, e1, r1⟩
theorem IxR.weak {X : Cx} {r r' : R2} (h : IxR X r) (i : ∀ x y H Q, r' x y H Q → r x y H Q) : IxR X r' := fun value slice pins s σ H x y v u Q I rx ry q hs => h value slice pins s σ H x y v u Q I rx ry (i x y H Q q) hs
end
section
variable {X : Cx}
theorem ix_ixD : IxR X (rdOp2 X.K X.mg ixD) := by
  refine IxR.weak ix_seq fun x y H Q h => ?_
  obtain ⟨m, st, d, e, so, rd, re, o⟩ := h
  unfold ixD at o
  split at o
  · rename_i l i
    cases re
    obtain ⟨a, rfl, em⟩ := rd
    split at o
    · rename_i lk ds es
      cases e : L2.atI ds i with
      | none => rw [e] at o; exact o.elim
      | some z =>
        rw [e] at o
        obtain ⟨xs, rl, sq⟩ := (so.at_ l lk _ a es em).lst_rd
        obtain ⟨v, ev, rv⟩ := rl.atI e
        exact .inl ⟨a, xs, i, v, rfl, rfl, sq, ev, o.here so rv⟩
    · exact o.elim
  · rename_i ds i
    cases re
    obtain ⟨a, xs, rfl, ta, rl⟩ := rd
    cases e : L2.atI ds i with
    | none => rw [e] at o; exact o.elim
    | some z =>
      rw [e] at o
      obtain ⟨v, ev, rv⟩ := rl.atI e
      exact .inr (.inl ⟨a, xs, i, v, rfl, rfl, ta.sq, ev, o.here so rv⟩)
  · rename_i z i
    cases re; cases rd
    split at o
    · rename_i hz
      cases e : L2.atI z.cps.toList i with
      | none => rw [e] at o; exact o.elim
      | some c =>
        rw [e] at o
        exact .inr (.inr ⟨z, i, c, rfl, rfl, hz, e, o.here so rfl⟩)
    · exact o.elim
  · exact o.elim
theorem ix_subscD (hu : X.A.units + 1 < cLine) : IxR X (rdOp2 X.K X.mg subscD) := by
  refine IxR.weak (ix_ixD.or (ix_dict hu)) fun x y H Q h => ?_
  obtain ⟨m, st, d, e, so, rd, re, o⟩ := h
  unfold subscD at o
  split at o
  · rename_i r er
    exact .inl ⟨m, st, d, e, so, rd, re, by rw [er]; exact o⟩
  · exact .inr ⟨m, st, d, e, so, rd, re, o⟩
end

/-! ### xs[i] = v -/
def lputD : OpS := fun d i v st => match d, i with
  | .ref l, .int i => match st[l]? with
    | some (false, .lst ds) => (ixN ds.length i).map fun j => st.set l (false, .lst (ds.set j v))
    | _ => none
  | _, _ => none
def putD : OpS := fun d i v st => match lputD d i v st with
  | some r => some r
  | none => dputD d i v st
section
variable {X : Cx}
theorem PSet.weak {t t' : TSet} (h : PSet X t) (i : ∀ o i v H Q, t' o i v H Q → t o i v H Q) : PSet X t' := fun pins s σ H o iv v ov iw u Q I ro ri rv q => h pins s σ H o iv v ov iw u Q I ro ri rv (i _ _ _ _ _ q)
theorem PSet.or {t t' : TSet} (h : PSet X t) (h' : PSet X t') : PSet X (fun o i v H Q => t o i v H Q ∨ t' o i v H Q) := fun pins s σ H o iv v ov iw u Q I ro ri rv q =>
  q.elim (h pins s σ H o iv v ov iw u Q I ro ri rv) (h' pins s σ H o iv v ov iw u Q I ro ri rv)
theorem set_lput : PSet X (rdSet X.K X.mg lputD) := by
  refine PSet.weak set_list fun o i v H Q h => ?_
  obtain ⟨m, st, d, k, e, so, rd, rk, re, st2, hq, h⟩ := h
  unfold lputD at hq
  split at hq
  · rename_i l i
    cases rk
    obtain ⟨a, rfl, em⟩ := rd
    split at hq
    · rename_i ds es
      cases ej : ixN ds.length i with
      | none => rw [ej] at hq; cases hq
      | some j =>
        rw [ej] at hq; cases hq
        obtain ⟨xs, rl, c⟩ := so.at_ l _ _ a es em
        have eH : H a = some (.lst xs) := c
        have pw : Pers H (upd H a (.lst (xs.set j v))) := Pers.write eH (fun z => z)
        exact ⟨a, xs, i, j, rfl, rfl, eH, by rw [rl.length]; exact ej, h _ pw (so.write es em pw ⟨_, RpL.mono (Pre.refl m) pw _ _ (rl.set re j), upd_same⟩)⟩
    · cases hq
  · cases hq
theorem set_putD (hu : X.A.units + 1 < cLine) : PSet X (rdSet X.K X.mg putD) := by
  refine PSet.weak (PSet.or set_lput (set_dict hu)) fun o i v H Q h => ?_
  obtain ⟨m, st, d, k, e, so, rd, rk, re, st2, hq, h⟩ := h
  unfold putD at hq
  split at hq
  · rename_i r er
    exact .inl ⟨m, st, d, k, e, so, rd, rk, re, st2, by rw [er]; exact hq, h⟩
  · exact .inr ⟨m, st, d, k, e, so, rd, rk, re, st2, hq, h⟩
end

/-! ### slices -/
def cutL {α : Type} (xs : List α) (lo hi : Option Int) : List α := (xs.drop (HT.sIx xs.length 0 lo)).take (HT.sIx xs.length xs.length hi - HT.sIx xs.length 0 lo)
abbrev OpSl := D → Option Int → Option Int → Store → Option (D × Store)
def sliceD : OpSl := fun d lo hi st => match d with
  | .ref l => match st[l]? with
    | some (_, .lst ds) => some (.ref st.length, st ++ [(false, .lst (cutL ds lo hi))])
    | _ => none
  | .tup k ds => some (.tup k (cutL ds lo hi), st)
  | .str z => if z.length ≤ sizeLine then some (.str (cutS z lo hi), st) else none
  | _ => none
def rdSl (K : PySem.W.Frag) (mg : Str → Option Value) (f : OpSl) : V → Option Int → Option Int → Hp → VK → Prop := fun x lo hi H Q => ∃ m st d, StOk K mg m H st ∧ Rp K mg m H d x ∧ Out K mg (Rp K mg) m H (f d lo hi st) Q
section
variable {X : Cx}
theorem SlR.weak {r r' : V → Option Int → Option Int → Hp → VK → Prop} (h : SlR X r) (i : ∀ x lo hi H Q, r' x lo hi H Q → r x lo hi H Q) : SlR X r' := fun pins s σ H x v vl vu lo hi sl Q I rx hs pl pu q => h pins s σ H x v vl vu lo hi sl Q I rx hs pl pu (i _ _ _ _ _ q)
theorem cutL_rp {K : PySem.W.Frag} {mg : Str → Option Value} {m : List Addr} {H : Hp} {ds : List D} {xs : List V} (r : RpL K mg m H ds xs) (lo hi : Option Int) : RpL K mg m H (cutL ds lo hi) (cutV xs lo hi) := by
  unfold cutL cutV
  rw [r.length]
  exact (r.drop _).take _
theorem cutL_whole {ds : List D} {lo hi : Option Int} (h : HT.sIx ds.length 0 lo = 0 ∧ HT.sIx ds.length ds.length hi = ds.length) : cutL ds lo hi = ds := by
  unfold cutL
  rw [h.1, h.2, List.drop_zero, Nat.sub_zero, List.take_length]
theorem sl_sliceD : SlR X (rdSl X.K X.mg sliceD) := by
  refine SlR.weak (sl_list.or (sl_tupA.or sl_str)) fun x lo hi H Q h => ?_
  obtain ⟨m, st, d, so, rd, o⟩ := h
  unfold sliceD at o
  split at o
  · rename_i l
    obtain ⟨a, rfl, em⟩ := rd
    split at o
    · rename_i lk ds es
      obtain ⟨xs, rl, sq⟩ := (so.at_ l lk _ a es em).lst_rd
      exact .inl ⟨a, xs, rfl, sq, fun p hp => o.lst so (cutL_rp rl lo hi) hp⟩
    · exact o.elim
  · rename_i ds
    obtain ⟨a, xs, rfl, ta, rl⟩ := rd
    refine .inr (.inl ⟨a, xs, rfl, ta.sq, fun hw => ?_, fun _ p hp => o.tup so (cutL_rp rl lo hi) hp⟩)
    rw [rl.length] at hw
    rw [cutL_whole hw] at o
    exact o.here so ⟨a, xs, rfl, ta, rl⟩
  · rename_i z
    cases rd
    split at o
    · rename_i hz
      exact .inr (.inr ⟨z, rfl, hz, o.here so rfl⟩)
    · exact o.elim
  · exact o.elim
end
/-- a slice's part -/
def evPart : Option (Ev D) → Ev (Option Int)
  | none => fun _ st => .ok none st
  | some a => fun env st => (a env st).bind fun x st1 => match x with
    | .int i => .ok (some i) st1
    | _ => .stuck
def evSl (f : OpSl) (a : Ev D) (lo hi : Option (Ev D)) : Ev D := fun env st => (a env st).bind fun x st1 => (evPart lo env st1).bind fun l st2 => (evPart hi env st2).bind fun h st3 => .ofOpt (f x l h st3)
section
variable {X : Cx} {W : WX} {σ : L2.St} {H : Hp} {Q : VK}
abbrev rdPt (K : PySem.W.Frag) (mg : Str → Option Value) (W : WX) (f : Ev (Option Int)) : TO := rdG K mg (rEq (Option Int)) W f
theorem po_ev0 : PO X none (rdPt X.K X.mg W (evPart none)) := ⟨fun pins s σ H Q I h => by
  obtain ⟨m, env, st, he, hs, h⟩ := h
  exact po_none.run pins s σ H Q I (h m H none (Pre.refl m) (Pers.refl H) hs rfl)⟩
theorem po_ev1 {e : Expr} {f : Ev D} (he : PE X e (rdE X.K X.mg W f)) : PO X (some e) (rdPt X.K X.mg W (evPart (some f))) := ⟨fun pins s σ H Q I h => by
  refine (po_some he).run pins s σ H Q I ?_
  obtain ⟨m, env, st, he, hs, h⟩ := h
  refine ⟨m, env, st, he, hs, (Fin.bind (R := Rp X.K X.mg) h).imp fun v H' p ⟨m1, st1, a1, pm, _, s1, r1, h1⟩ => ?_⟩
  cases a1 with
  | int i => cases r1; exact ⟨i, rfl, h1 m1 H' (some i) (Pre.refl _) (Pers.refl _) s1 rfl⟩
  | _ => exact h1.elim⟩
theorem pe_evSl {f : OpSl} {e : Expr} {a : Ev D} {lo hi : Option Expr} {fl fh : Option (Ev D)} {pos p2 : Pos} (hr : SlR X (rdSl X.K X.mg f)) (he : PE X e (rdE X.K X.mg W a)) (hl : PO X lo (rdPt X.K X.mg W (evPart fl))) (hh : PO X hi (rdPt X.K X.mg W (evPart fh))) :
    PE X (.Subscript e (.Slice lo hi none p2) pos) (rdE X.K X.mg W (evSl f a fl fh)) := by
  refine PE.weak (pe_slice hr he hl hh) fun σ H Q h => ?_
  obtain ⟨m, env, st, he, hs, h⟩ := h
  refine ⟨m, env, st, he, hs, (Fin.bind (R := Rp X.K X.mg) h).imp fun v H' p ⟨m1, st1, a1, pm, _, s1, r1, h1⟩ => ?_⟩
  refine ⟨m1, env, st1, he.mono pm p, s1, (Fin.bind (R := rEq (Option Int)) h1).imp fun v2 H2 p2 ⟨m2, st2, a2, pm2, _, s2, r2, h2⟩ => ?_⟩
  refine ⟨m2, env, st2, (he.mono pm p).mono pm2 p2, s2, (Fin.bind (R := rEq (Option Int)) h2).imp fun v3 H3 p3 ⟨m3, st3, a3, pm3, _, s3, r3, h3⟩ => ?_⟩
  cases r2; cases r3
  exact ⟨m3, st3, a1, s3, Rp.mono (pm2.trans pm3) (p2.trans p3) _ _ r1, h3.out⟩
end

/-! ### in, is -/
def occurs (i j : Str) : Bool := !(Builtin.Str.occurrences j i 0 j.length 1).isEmpty
def inSD (neg : Bool) : Op2 := fun k d st => match d with
  | .str j => match k with
    | .str i => some (.bl (if neg = true then !occurs i j else occurs i j), st)
    | _ => none
  | _ => match rdP st k, rdP st d with
    | some p, some (.list ps) => some (.bl (if neg = true then !(ps.any fun z => PyData.eqv z p) else ps.any fun z => PyData.eqv z p), st)
    | some p, some (.tuple ps) => some (.bl (if neg = true then !(ps.any fun z => PyData.eqv z p) else ps.any fun z => PyData.eqv z p), st)
    | _, _ => none
def inD (neg : Bool) : Op2 := fun k d st => match dinD neg k d st with
  | some r => some r
  | none => inSD neg k d st
section
variable {X : Cx}
theorem in_room {A : Around} {p : PyData} {ps : List PyData} (hp : p.depth ≤ dpt) (hu : A.units + 65 < cLine) : A.units + 1 + min (PyData.depthAll ps) p.depth < cLine := by
  have h1 : min (PyData.depthAll ps) p.depth ≤ p.depth := Nat.min_le_right _ _
  have : dpt = 30 := rfl
  omega
theorem op_inD' (hu : X.A.units + 65 < cLine) : OpR X (compareOp .In) (rdOp2 X.K X.mg (inD false)) := by
  intro pins s σ H x y v u Q I rx ry h
  obtain ⟨m, st, k, d, so, rk, rd, o⟩ := h
  unfold inD at o
  split at o
  · rename_i r er
    exact op_dinD (by omega) pins s σ H x y v u Q I rx ry ⟨m, st, k, d, so, rk, rd, by rw [er]; exact o⟩
  · unfold inSD at o
    split at o
    · split at o
      · cases rk; cases rd
        exact op_in_str pins s σ H _ _ v u Q I rx ry ⟨_, _, rfl, rfl, o.here so rfl⟩
      · exact o.elim
    · split at o
      · rename_i p ps e1 e2
        obtain ⟨h1, h2, h3⟩ := rdP_of so e1 rk
        obtain ⟨k1, k2, k3⟩ := rdP_of so e2 rd
        obtain ⟨as, r1⟩ := Dp.reads I p x v h1 rx
        obtain ⟨bs, r2⟩ := Dp.reads I _ y u k1 ry
        exact SeqAt.in_list_reads r2 r1 (SeqAt.canLay_of_shaped k2) (SeqAt.canLay_of_shaped h2) (in_room h3 hu) ⟨.bl _, H, I, rfl, o.here so rfl⟩
      · rename_i p ps e1 e2
        obtain ⟨h1, h2, h3⟩ := rdP_of so e1 rk
        obtain ⟨k1, k2, k3⟩ := rdP_of so e2 rd
        obtain ⟨as, r1⟩ := Dp.reads I p x v h1 rx
        obtain ⟨bs, r2⟩ := Dp.reads I _ y u k1 ry
        exact SeqAt.in_tuple_reads r2 r1 (SeqAt.canLay_of_shaped k2) (SeqAt.canLay_of_shaped h2) (in_room h3 hu) ⟨.bl _, H, I, rfl, o.here so rfl⟩
      · exact o.elim
theorem op_ninD' (hu : X.A.units + 65 < cLine) : OpR X (compareOp .NotIn) (rdOp2 X.K X.mg (inD true)) := by
  intro pins s σ H x y v u Q I rx ry h
  obtain ⟨m, st, k, d, so, rk, rd, o⟩ := h
  unfold inD at o
  split at o
  · rename_i r er
    exact op_dninD (by omega) pins s σ H x y v u Q I rx ry ⟨m, st, k, d, so, rk, rd, by rw [er]; exact o⟩
  · unfold inSD at o
    split at o
    · split at o
      · cases rk; cases rd
        exact op_notin_str pins s σ H _ _ v u Q I rx ry ⟨_, _, rfl, rfl, o.here so rfl⟩
      · exact o.elim
    · split at o
      · rename_i p ps e1 e2
        obtain ⟨h1, h2, h3⟩ := rdP_of so e1 rk
        obtain ⟨k1, k2, k3⟩ := rdP_of so e2 rd
        obtain ⟨as, r1⟩ := Dp.reads I p x v h1 rx
        obtain ⟨bs, r2⟩ := Dp.reads I _ y u k1 ry
        exact SeqAt.notIn_list_reads r2 r1 (SeqAt.canLay_of_shaped k2) (SeqAt.canLay_of_shaped h2) (in_room h3 hu) ⟨.bl _, H, I, rfl, o.here so rfl⟩
      · rename_i p ps e1 e2
        obtain ⟨h1, h2, h3⟩ := rdP_of so e1 rk
        obtain ⟨k1, k2, k3⟩ := rdP_of so e2 rd
        obtain ⟨as, r1⟩ := Dp.reads I p x v h1 rx
        obtain ⟨bs, r2⟩ := Dp.reads I _ y u k1 ry
        exact SeqAt.notIn_tuple_reads r2 r1 (SeqAt.canLay_of_shaped k2) (SeqAt.canLay_of_shaped h2) (in_room h3 hu) ⟨.bl _, H, I, rfl, o.here so rfl⟩
      · exact o.elim
end
def isNonD (d : D) : Bool := match d with
  | .non => true
  | _ => false
/-- is, with None or a truth value on the right -/
def isD (neg : Bool) : Op2 := fun d e st => match e with
  | .non => some (.bl (if neg = true then !isNonD d else isNonD d), st)
  | .bl b => match d with
    | .bl a => some (.bl (if neg = true then !decide (a = b) else decide (a = b)), st)
    | _ => none
  | _ => none
section
variable {X : Cx} {K : PySem.W.Frag} {mg : Str → Option Value} {m : List Addr} {H : Hp}
theorem isNon_rp {d : D} {v : V} (r : Rp K mg m H d v) : decide (v = .non) = isNonD d := by
  cases d with
  | non => cases r; rfl
  | bl b => cases r; rfl
  | int b => cases r; rfl
  | str b => cases r; rfl
  | tup ds => obtain ⟨a, xs, rfl, _⟩ := r; rfl
  | ref l => obtain ⟨a, rfl, _⟩ := r; rfl
  | fn x => obtain ⟨a, rfl, _⟩ := r; rfl
  | ty x => cases r; rfl
theorem op_isD : OpR X (compareOp .Is) (rdOp2 X.K X.mg (isD false)) := by
  refine OpR.weak (op_isN.or op_isBl) fun x y H Q h => ?_
  obtain ⟨m, st, d, e, so, rd, re, o⟩ := h
  unfold isD at o
  split at o
  · cases re
    exact .inl ⟨rfl, by rw [isNon_rp rd]; exact o.here so rfl⟩
  · cases re
    split at o
    · cases rd
      exact .inr ⟨_, _, rfl, rfl, o.here so rfl⟩
    · exact o.elim
  · exact o.elim
theorem op_isNotD : OpR X (compareOp .IsNot) (rdOp2 X.K X.mg (isD true)) := by
  refine OpR.weak (op_notN.or op_notBl) fun x y H Q h => ?_
  obtain ⟨m, st, d, e, so, rd, re, o⟩ := h
  unfold isD at o
  split at o
  · cases re
    exact .inl ⟨rfl, by rw [isNon_rp rd]; exact o.here so rfl⟩
  · cases re
    split at o
    · cases rd
      exact .inr ⟨_, _, rfl, rfl, o.here so rfl⟩
    · exact o.elim
  · exact o.elim
end

/-! ### truth -/
def truD : D → Store → Option (Bool × Store) := fun d st => match d with
  | .non => some (false, st)
  | .bl b => some (b, st)
  | .int i => some (i != 0, st)
  | .str s => if s.length ≤ sizeLine then some ((s.length : Int) != 0, st) else none
  | .tup _ ds => some (!ds.isEmpty, st)
  | .ref l => match st[l]? with
    | some (_, .lst ds) => some (!ds.isEmpty, st)
    | some (false, .dct []) => some (false, st)
    | some (false, .dct (p :: kvs)) => if isK p.1 = true then some (true, st) else none
    | _ => none
  | .fn _ => none
  | .ty _ => none
theorem RpL.emp {K : PySem.W.Frag} {mg : Str → Option Value} {m : List Addr} {H : Hp} {ds : List D} {xs : List V} (r : RpL K mg m H ds xs) : (!ds.isEmpty) = !xs.isEmpty := by
  cases ds with
  | nil => rw [r.nil]; rfl
  | cons d ds => obtain ⟨x, t, rfl, _⟩ := r; rfl
section
variable {X : Cx}
theorem TruR.of {r r' : V → Hp → (Bool → Hp → Prop) → Prop} (h : TruR X r) (i : ∀ x H Q, r' x H Q → r x H Q) : TruR X r' := fun pins s σ H x v Q I rx q => h pins s σ H x v Q I rx (i _ _ _ q)
theorem tru_truD : TruR X (rdTru X.K X.mg truD) := by
  intro pins s σ H x v Q I rx h
  obtain ⟨m, st, d, so, rd, o⟩ := h
  have go : ∀ {H1 : Hp} {k : Bool}, Inv X pins σ H1 s → TruV X.K x H1 k → Q k H1 → wpAny (model X.prog X.w) X.A (truthy v) (TP X pins σ Q) X.xe s := fun I1 t q => tru_ok pins s σ _ x v Q I1 rx ⟨_, t, q⟩
  have here : ∀ {b : Bool} {st' : Store}, Out X.K X.mg (rEq Bool) m H (some (b, st')) Q → StOk X.K X.mg m H st' → Q b H := fun o s => o m H _ (Pre.refl m) (Pers.refl H) s rfl
  cases d with
  | non => cases rd; exact go I rfl (here o so)
  | bl b => cases rd; exact go I rfl (here o so)
  | int b => cases rd; exact go I rfl (here o so)
  | str z =>
    cases rd
    simp only [truD] at o
    split at o
    · rename_i hz
      exact go I ⟨hz, rfl⟩ (here o so)
    · exact o.elim
  | tup ds =>
    obtain ⟨a, xs, rfl, ta, rl⟩ := rd
    exact go I (.inr (.inl ⟨xs, ta.sq, rl.emp⟩)) (here o so)
  | ref l =>
    obtain ⟨a, rfl, em⟩ := rd
    simp only [truD] at o
    split at o
    · rename_i lk ds es
      obtain ⟨xs, rl, sq⟩ := (so.at_ l lk _ a es em).lst_rd
      exact go I (.inl ⟨xs, sq, rl.emp⟩) (here o so)
    · rename_i es
      have em0 := so.at_ l _ _ a es em
      rcases em0.emp with eH | eH
      · exact go I (.inr (.inr ⟨[], eH, rfl⟩)) (here o so)
      · obtain ⟨s1, p1⟩ := so.turn es em eH (fun z => z) (.inl rfl)
        exact go (Inv.asK I eH) (.inr (.inr ⟨[], upd_same, rfl⟩)) (o m _ _ (Pre.refl m) p1 s1 rfl)
    · rename_i p kvs es
      split at o
      · rename_i hk
        rcases so.at_ l _ _ a es em with ⟨kv', r, c⟩ | ⟨kv', r, c⟩
        · refine go I (.inr (.inr ⟨kv', c, ?_⟩)) (here o so)
          cases r
          rfl
        · exfalso
          cases r with
          | cons e1 _ => rw [e1.1] at hk; cases hk
      · exact o.elim
    · exact o.elim
  | fn x => exact o.elim
  | ty x => exact o.elim
/-- an expression's value as a test -/
def evT (f : Ev D) : Ev Bool := fun env st => (f env st).bind fun x st1 => .ofOpt (truD x st1)
theorem pt_ev {a : Expr} {f : Ev D} {W : WX} (ha : PE X a (rdE X.K X.mg W f)) (he : ∀ whole, isTrue a X.env whole = (do let v ← whole; standAt a.pos; holding [v] (truthy v))) : PT X a (rdT X.K X.mg W (evT f)) := by
  refine ⟨fun pins s σ H Q I h => ?_⟩
  refine isTrue_plain ?_ (he _)
  obtain ⟨m, env, st, hv, hs, h⟩ := h
  refine thn (ha.run pins s σ H _ I ⟨m, env, st, hv, hs, Fin.bind (R := Rp X.K X.mg) h⟩) fun v s1 ⟨x, H1, I1, r1, m1, st1, a1, pm, _, so1, rr, h1⟩ => ?_
  exact tru_truD pins s1 σ H1 x v Q I1 r1 ⟨m1, st1, a1, so1, rr, h1.out⟩
end
end PP
set_option Elab.async false
set_option linter.all false
set_option maxRecDepth 100000
set_option maxHeartbeats 2000000
/-! PP5: calls of built-in functions and types. -/
namespace PP
open PySem PySem.Spec PyProof.Rows L2

section
variable {K : PySem.W.Frag} {mg : Str → Option Value} {m : List Addr} {H : Hp} {st : Store} {Q : VK}
theorem RpL.one {d : D} {vs : List V} (r : RpL K mg m H [d] vs) : ∃ v, vs = [v] ∧ Rp K mg m H d v := by
  obtain ⟨v, t, rfl, h, rt⟩ := r
  cases (show t = [] from rt)
  exact ⟨v, rfl, h⟩
theorem RpL.two {d e : D} {vs : List V} (r : RpL K mg m H [d, e] vs) : ∃ v w, vs = [v, w] ∧ Rp K mg m H d v ∧ Rp K mg m H e w := by
  obtain ⟨v, t, rfl, h, rt⟩ := r
  obtain ⟨w, rfl, h2⟩ := rt.one
  exact ⟨v, w, rfl, h, h2⟩
theorem RpL.ints : ∀ {ns : List Int} {vs : List V}, RpL K mg m H (ns.map D.int) vs → vs = ns.map V.int
  | [], _, h => RpL.nil h
  | n :: ns, _, ⟨x, r, e, h1, h2⟩ => by subst e; rw [show x = V.int n from h1, RpL.ints h2]; rfl
theorem RpL.bls : ∀ {ns : List Bool} {vs : List V}, RpL K mg m H (ns.map D.bl) vs → vs = ns.map V.bl
  | [], _, h => RpL.nil h
  | n :: ns, _, ⟨x, r, e, h1, h2⟩ => by subst e; rw [show x = V.bl n from h1, RpL.bls h2]; rfl
theorem RpL.strs : ∀ {ns : List Str} {vs : List V}, RpL K mg m H (ns.map D.str) vs → vs = ns.map V.str
  | [], _, h => RpL.nil h
  | n :: ns, _, ⟨x, r, e, h1, h2⟩ => by subst e; rw [show x = V.str n from h1, RpL.strs h2]; rfl
end
/-- a list of ints, of truth values, of texts -/
def intsD : List D → Option (List Int)
  | [] => some []
  | .int i :: ds => (intsD ds).map (i :: ·)
  | _ => none
def blsD : List D → Option (List Bool)
  | [] => some []
  | .bl i :: ds => (blsD ds).map (i :: ·)
  | _ => none
def strsD : List D → Option (List Str)
  | [] => some []
  | .str i :: ds => (strsD ds).map (i :: ·)
  | _ => none
theorem intsD_of : ∀ {ds : List D} {ns : List Int}, intsD ds = some ns → ds = ns.map D.int
  | [], _, h => by cases h; rfl
  | d :: ds, ns, h => by
    cases d with
    | int i =>
      obtain ⟨r, e, rfl⟩ := Option.map_eq_some_iff.mp (show (intsD ds).map (i :: ·) = some ns from h)
      rw [intsD_of e]; rfl
    | _ => cases h
theorem blsD_of : ∀ {ds : List D} {ns : List Bool}, blsD ds = some ns → ds = ns.map D.bl
  | [], _, h => by cases h; rfl
  | d :: ds, ns, h => by
    cases d with
    | bl i =>
      obtain ⟨r, e, rfl⟩ := Option.map_eq_some_iff.mp (show (blsD ds).map (i :: ·) = some ns from h)
      rw [blsD_of e]; rfl
    | _ => cases h
theorem strsD_of : ∀ {ds : List D} {ns : List Str}, strsD ds = some ns → ds = ns.map D.str
  | [], _, h => by cases h; rfl
  | d :: ds, ns, h => by
    cases d with
    | str i =>
      obtain ⟨r, e, rfl⟩ := Option.map_eq_some_iff.mp (show (strsD ds).map (i :: ·) = some ns from h)
      rw [strsD_of e]; rfl
    | _ => cases h
theorem intsD_map : ∀ ns : List Int, intsD (ns.map D.int) = some ns
  | [] => rfl
  | n :: ns => by show (intsD (ns.map D.int)).map (n :: ·) = _; rw [intsD_map ns]; rfl
theorem blsD_map : ∀ ns : List Bool, blsD (ns.map D.bl) = some ns
  | [] => rfl
  | n :: ns => by show (blsD (ns.map D.bl)).map (n :: ·) = _; rw [blsD_map ns]; rfl
theorem strsD_map : ∀ ns : List Str, strsD (ns.map D.str) = some ns
  | [] => rfl
  | n :: ns => by show (strsD (ns.map D.str)).map (n :: ·) = _; rw [strsD_map ns]; rfl
/-- the items of a list or tuple -/
def seqD (st : Store) : D → Option (List D)
  | .tup _ ds => some ds
  | .ref l => match st[l]? with
    | some (_, .lst ds) => some ds
    | _ => none
  | _ => none
/-- the entries of a dict of simple keys; of tuple keys (an unlocked empty one is of both kinds) -/
def dctK (st : Store) : D → Option (List (D × D))
  | .ref l => match st[l]? with
    | some (false, .dct []) => some []
    | some (_, .dct (p :: kvs)) => if isK p.1 = true then some (p :: kvs) else none
    | _ => none
  | _ => none
def dctT (st : Store) : D → Option (List (D × D))
  | .ref l => match st[l]? with
    | some (false, .dct []) => some []
    | some (_, .dct (p :: kvs)) => if isT p.1 = true then some (p :: kvs) else none
    | _ => none
  | _ => none
section
variable {K : PySem.W.Frag} {mg : Str → Option Value} {m : List Addr} {H : Hp} {st : Store} {Q : VK}
theorem seqD_of (so : StOk K mg m H st) {d : D} {v : V} {ds : List D} (h : seqD st d = some ds) (r : Rp K mg m H d v) : ∃ p xs, v = .ref p ∧ RpL K mg m H ds xs ∧ (SqL K H p xs ∨ SqT K H p xs) := by
  cases d with
  | tup k es =>
    cases h
    obtain ⟨a, xs, rfl, ta, rl⟩ := r
    exact ⟨a, xs, rfl, rl, .inr ta.sq⟩
  | ref l =>
    obtain ⟨a, rfl, em⟩ := r
    simp only [seqD] at h
    split at h
    · rename_i lk es e
      cases h
      obtain ⟨xs, rl, sq⟩ := (so.at_ l lk _ a e em).lst_rd
      exact ⟨a, xs, rfl, rl, .inl sq⟩
    · cases h
  | _ => cases h
end

/-! ### len, abs, int, bool, str -/
def lenD : OpL := fun ds st => match ds with
  | [.str z] => if z.length ≤ sizeLine then some (.int z.length, st) else none
  | [d] => match seqD st d with
    | some xs => some (.int xs.length, st)
    | none => match dctK st d with
      | some kvs => some (.int kvs.length, st)
      | none => none
  | _ => none
def absD : OpL := fun ds st => match ds with
  | [.int i] => some (.int (if i < 0 then -i else i), st)
  | _ => none
def intD : OpL := fun ds st => match ds with
  | [.int i] => some (.int i, st)
  | [.bl b] => some (.int (if b then 1 else 0), st)
  | _ => none
def boolD : OpL := fun ds st => match ds with
  | [.int i] => some (.bl (i != 0), st)
  | [.bl b] => some (.bl b, st)
  | _ => none
def strD : OpL := fun ds st => match ds with
  | [.int i] => if i.natAbs.log2 < 1920 then some (.str (toString i), st) else none
  | _ => none
section
variable {X : Cx}
theorem dctK_at {pins : List (Addr × Obj)} {σ : L2.St} {m : List Addr} {H : Hp} {s : Shared} {st : Store} (I : Inv X pins σ H s) (so : StOk X.K X.mg m H st) {d : D} {x : V} {kvs : List (D × D)} (rd : Rp X.K X.mg m H d x) (h : dctK st d = some kvs) :
    ∃ a kv' H1, x = .ref a ∧ Inv X pins σ H1 s ∧ StOk X.K X.mg m H1 st ∧ Pers H H1 ∧ Rd H1 a (.dK kv') ∧ Kvs X.K X.mg m H1 fK kvs kv' := by
  cases d with
  | ref l =>
    obtain ⟨a, rfl, em⟩ := rd
    simp only [dctK] at h
    split at h
    · rename_i e
      cases h
      rcases (so.at_ l _ _ a e em).emp with eH | eH
      · exact ⟨a, [], H, rfl, I, so, Pers.refl H, .inl eH, .nil⟩
      · obtain ⟨s1, p1⟩ := so.turn e em eH (fun z => z) (.inl rfl)
        exact ⟨a, [], _, rfl, Inv.asK I eH, s1, p1, .inl upd_same, .nil⟩
    · rename_i lk p ks e
      split at h
      · rename_i hk
        cases h
        rcases so.at_ l _ _ a e em with ⟨kv', r, c⟩ | ⟨kv', r, c⟩
        · exact ⟨a, kv', H, rfl, I, so, Pers.refl H, c.rd, r⟩
        · exfalso
          cases r with
          | cons e1 _ => rw [e1.1] at hk; cases hk
      · cases h
    · cases h
  | _ => cases h
theorem dctT_at {pins : List (Addr × Obj)} {σ : L2.St} {m : List Addr} {H : Hp} {s : Shared} {st : Store} (I : Inv X pins σ H s) (so : StOk X.K X.mg m H st) {d : D} {x : V} {kvs : List (D × D)} (rd : Rp X.K X.mg m H d x) (h : dctT st d = some kvs) :
    ∃ a kv' H1, x = .ref a ∧ Inv X pins σ H1 s ∧ StOk X.K X.mg m H1 st ∧ Pers H H1 ∧ Rd H1 a (.dT kv') ∧ Kvs X.K X.mg m H1 fT kvs kv' := by
  cases d with
  | ref l =>
    obtain ⟨a, rfl, em⟩ := rd
    simp only [dctT] at h
    split at h
    · rename_i e
      cases h
      rcases (so.at_ l _ _ a e em).emp with eH | eH
      · obtain ⟨s1, p1⟩ := so.turn e em eH (fun z => z) (.inr rfl)
        exact ⟨a, [], _, rfl, Inv.asT I eH, s1, p1, .inl upd_same, .nil⟩
      · exact ⟨a, [], H, rfl, I, so, Pers.refl H, .inl eH, .nil⟩
    · rename_i lk p ks e
      split at h
      · rename_i hk
        cases h
        rcases so.at_ l _ _ a e em with ⟨kv', r, c⟩ | ⟨kv', r, c⟩
        · exfalso
          cases r with
          | cons e1 _ => rw [e1.1, isT_fK] at hk; cases hk
        · exact ⟨a, kv', H, rfl, I, so, Pers.refl H, c.rd, r⟩
      · cases h
    · cases h
  | _ => cases h
theorem cr_lenD : CallR X (.builtin "len") (rdOpL X.K X.mg lenD) := by
  intro pins s σ H xs us Q I r h
  obtain ⟨m, st, ds, so, rl, o⟩ := h
  unfold lenD at o
  split at o
  · rename_i z
    obtain ⟨v, rfl, rv⟩ := rl.one
    split at o
    · rename_i hz
      cases rv
      exact call_len_str pins s σ H _ us Q I r ⟨z, rfl, hz, o.here so rfl⟩
    · exact o.elim
  · rename_i d _
    obtain ⟨v, rfl, rv⟩ := rl.one
    split at o
    · rename_i ys e
      obtain ⟨p, zs, rfl, rz, sq⟩ := seqD_of so e rv
      exact call_len_seq pins s σ H _ us Q I r ⟨p, zs, rfl, sq, by rw [rz.length]; exact o.here so rfl⟩
    · split at o
      · rename_i kvs e
        obtain ⟨a, kv', H1, rfl, I1, s1, p1, hd, kr⟩ := dctK_at I so rv e
        obtain ⟨u, rfl, ru⟩ := vals1 r
        cases ru
        refine d_len I1 hd fun t s' I' => ⟨.int kv'.length, H1, I', ⟨t, rfl⟩, ?_⟩
        rw [← kr.length]
        exact o m H1 _ (Pre.refl m) p1 s1 rfl
      · exact o.elim
  · exact o.elim
theorem cr_absD : CallR X (.builtin "abs") (rdOpL X.K X.mg absD) := CallR.weak call_abs fun xs H Q h => by
  obtain ⟨m, st, ds, so, rl, o⟩ := h
  unfold absD at o
  split at o
  · obtain ⟨v, rfl, rv⟩ := rl.one
    cases rv
    exact ⟨_, rfl, o.here so rfl⟩
  · exact o.elim
theorem cr_intD : CallR X (.type "int") (rdOpL X.K X.mg intD) := CallR.weak call_int1 fun xs H Q h => by
  obtain ⟨m, st, ds, so, rl, o⟩ := h
  unfold intD at o
  split at o
  · obtain ⟨v, rfl, rv⟩ := rl.one
    cases rv
    exact .inl ⟨_, rfl, o.here so rfl⟩
  · obtain ⟨v, rfl, rv⟩ := rl.one
    cases rv
    exact .inr ⟨_, rfl, o.here so rfl⟩
  · exact o.elim
theorem cr_boolD : CallR X (.type "bool") (rdOpL X.K X.mg boolD) := CallR.weak call_bool1 fun xs H Q h => by
  obtain ⟨m, st, ds, so, rl, o⟩ := h
  unfold boolD at o
  split at o
  · obtain ⟨v, rfl, rv⟩ := rl.one
    cases rv
    exact .inl ⟨_, rfl, o.here so rfl⟩
  · obtain ⟨v, rfl, rv⟩ := rl.one
    cases rv
    exact .inr ⟨_, rfl, o.here so rfl⟩
  · exact o.elim
theorem cr_strD : CallR X (.type "str") (rdOpL X.K X.mg strD) := CallR.weak call_str_int fun xs H Q h => by
  obtain ⟨m, st, ds, so, rl, o⟩ := h
  unfold strD at o
  split at o
  · obtain ⟨v, rfl, rv⟩ := rl.one
    cases rv
    split at o
    · rename_i hl
      exact ⟨_, rfl, hl, o.here so rfl⟩
    · exact o.elim
  · exact o.elim
end

/-! ### list(..), tuple(..), dict(..) -/
def newL (ds : List D) (st : Store) : Option (D × Store) := some (.ref st.length, st ++ [(false, .lst ds)])
def newDc (kvs : List (D × D)) (st : Store) : Option (D × Store) := some (.ref st.length, st ++ [(false, .dct kvs)])
def listD : OpL := fun ds st => match ds with
  | [d] => match seqD st d with
    | some xs => newL xs st
    | none => match dctK st d with
      | some kvs => newL (kvs.map (·.1)) st
      | none => match dctT st d with
        | some kvs => newL (kvs.map (·.1)) st
        | none => none
  | _ => none
def tupleD : OpL := fun ds st => match ds with
  | [.tup k xs] => some (.tup k xs, st)
  | [.ref l] => match st[l]? with
    | some (_, .lst xs) => some (.tup false xs, st)
    | _ => none
  | _ => none
/-- pairs that are put one after another -/
def pairsD : List D → Option (List (D × D))
  | [] => some []
  | .tup _ [k, v] :: ds => if isK k = true then (pairsD ds).map ((k, v) :: ·) else none
  | _ => none
def putAll (kvs : List (D × D)) : List (D × D) → List (D × D)
  | [] => kvs
  | p :: ps => putAll (dput kvs p.1 p.2) ps
def dictD : OpL := fun ds st => match ds with
  | [.ref l] => match st[l]? with
    | some (_, .lst xs) => match pairsD xs with
      | some ps => newDc (putAll [] ps) st
      | none => none
    | _ => match dctK st (.ref l) with
      | some kvs => newDc kvs st
      | none => none
  | _ => none
section
variable {X : Cx}
theorem Kvs.keysK {K : PySem.W.Frag} {mg : Str → Option Value} {m : List Addr} {H : Hp} : ∀ {kvs : List (D × D)} {kv' : List (Key × V)}, Kvs K mg m H fK kvs kv' → RpL K mg m H (kvs.map (·.1)) (kv'.map fun q => kV q.1)
  | _, _, .nil => rfl
  | p :: kvs, q :: kv', .cons ⟨e, r⟩ t => ⟨_, _, rfl, by show Rp K mg m H p.1 _; rw [e]; exact Rp_kD.mpr rfl, Kvs.keysK t⟩
theorem RpL_kV {K : PySem.W.Frag} {mg : Str → Option Value} {m : List Addr} {H : Hp} : ∀ ks : List Key, RpL K mg m H (ks.map kD) (ks.map kV)
  | [] => rfl
  | k :: ks => ⟨_, _, rfl, Rp_kD.mpr rfl, RpL_kV ks⟩
theorem Kvs.keysT {K : PySem.W.Frag} {mg : Str → Option Value} {m : List Addr} {H : Hp} : ∀ {kvs : List (D × D)} {kv' : List (List Key × V)} {bs : List Addr}, Kvs K mg m H fT kvs kv' → IsKeys H kv' bs → RpL K mg m H (kvs.map (·.1)) (bs.map V.ref)
  | _, _, _, .nil, .nil => rfl
  | p :: kvs, q :: kv', b :: bs, .cons ⟨e, r⟩ t, .cons hb tb => ⟨_, _, rfl, by show Rp K mg m H p.1 _; rw [e]; exact ⟨b, _, rfl, hb, RpL_kV _⟩, Kvs.keysT t tb⟩
/-- a new dict -/
theorem Out.dctK {K : PySem.W.Frag} {mg : Str → Option Value} {m : List Addr} {H : Hp} {st : Store} {Q : VK} {kvs : List (D × D)} {kv' : List (Key × V)} (h : Out K mg (Rp K mg) m H (some (.ref st.length, st ++ [(false, .dct kvs)])) Q) (s : StOk K mg m H st) (r : Kvs K mg m H fK kvs kv') {p : Addr} (hp : H p = none) : Q (.ref p) (upd H p (.dK kv')) :=
  h (m ++ [p]) _ _ (Pre.snoc m p) (Pers.new hp) (s.snoc hp (.inl ⟨kv', r.mono (Pre.snoc m p) (Pers.new hp), upd_same⟩)) ⟨p, rfl, Pre.last s.len⟩
theorem cr_listD : X.calm = true → CallR X (.type "list") (rdOpL X.K X.mg listD) := by
  intro hc pins s σ H xs us Q I r h
  obtain ⟨m, st, ds, so, rl, o⟩ := h
  unfold listD at o
  split at o
  · rename_i d
    obtain ⟨v, rfl, rv⟩ := rl.one
    split at o
    · rename_i ys e
      obtain ⟨p, zs, rfl, rz, sq⟩ := seqD_of so e rv
      exact call_list_of pins s σ H _ us Q I r ⟨p, zs, rfl, sq, fun l hl => o.lst so rz hl⟩
    · split at o
      · rename_i kvs e
        obtain ⟨a, kv', H1, rfl, I1, s1, p1, hd, kr⟩ := dctK_at I so rv e
        exact call_listD hc pins s σ H1 _ us Q I1 r ⟨a, kv', rfl, hd, fun p hp => (o.mono (Pre.refl m) p1).lst s1 kr.keysK hp⟩
      · split at o
        · rename_i kvs e
          obtain ⟨a, kv', H1, rfl, I1, s1, p1, hd, kr⟩ := dctT_at I so rv e
          exact call_list_dT hc pins s σ H1 _ us Q I1 r ⟨a, kv', rfl, hd, fun p bs hp hb => (o.mono (Pre.refl m) p1).lst s1 (kr.keysT hb) hp⟩
        · exact o.elim
  · exact o.elim
theorem cr_tupleD : CallR X (.type "tuple") (rdOpL X.K X.mg tupleD) := CallR.weak call_tuple_of fun xs H Q h => by
  obtain ⟨m, st, ds, so, rl, o⟩ := h
  unfold tupleD at o
  split at o
  · obtain ⟨v, rfl, a, zs, rfl, ta, rz⟩ := rl.one
    exact ⟨a, zs, rfl, .inr ⟨ta.sq, o.here so ⟨a, zs, rfl, ta, rz⟩⟩⟩
  · obtain ⟨v, rfl, a, rfl, em⟩ := rl.one
    split at o
    · rename_i lk ys e
      obtain ⟨zs, rz, sq⟩ := (so.at_ _ lk _ a e em).lst_rd
      exact ⟨a, zs, rfl, .inl ⟨sq, fun l hl => o.tup so rz hl⟩⟩
    · exact o.elim
  · exact o.elim
theorem pairsD_of {K : PySem.W.Frag} {mg : Str → Option Value} {m : List Addr} {H : Hp} : ∀ {ds : List D} {ps : List (D × D)} {vs : List V}, pairsD ds = some ps → RpL K mg m H ds vs →
    ∃ (as : List Addr) (kvs : List (Key × V)), vs = as.map V.ref ∧ Paired (fun p kv => SqT K H p [kV kv.1, kv.2]) as kvs ∧ Kvs K mg m H fK ps kvs
  | [], ps, vs, h, r => by
    cases h
    rw [r.nil]
    exact ⟨[], [], rfl, .nil, .nil⟩
  | d :: ds, ps, vs, h, r => by
    unfold pairsD at h
    split at h
    · rename_i e
      cases e
    · rename_i b k v ds' e
      cases e
      split at h
      · rename_i hk
        obtain ⟨ps', e1, rfl⟩ := Option.map_eq_some_iff.mp h
        obtain ⟨x, xs, rfl, ⟨a, ws, rfl, ta, rw'⟩, r2⟩ := r
        obtain ⟨as, kvs, rfl, h1, h2⟩ := pairsD_of e1 r2
        obtain ⟨k', rfl⟩ := isK_of hk
        obtain ⟨y, z, rfl, ry, rz⟩ := rw'.two
        have ey := Rp_kD.mp ry
        subst ey
        exact ⟨a :: as, (k', z) :: kvs, rfl, .cons ta.sq h1, .cons ⟨rfl, rz⟩ h2⟩
      · cases h
    · cases h
theorem putAll_rp {K : PySem.W.Frag} {mg : Str → Option Value} {m : List Addr} {H : Hp} : ∀ {ps : List (D × D)} {qs : List (Key × V)}, Kvs K mg m H fK ps qs → ∀ {kvs : List (D × D)} {kv' : List (Key × V)}, Kvs K mg m H fK kvs kv' → Kvs K mg m H fK (putAll kvs ps) (mergeK kv' qs)
  | _, _, .nil, _, _, h => h
  | p :: ps, q :: qs, .cons ⟨e, r⟩ t, kvs, kv', h => by
    unfold putAll
    rw [e]
    exact putAll_rp t (Kvs.put keq_fK q.1 r h)
theorem cr_dictD (hc : X.calm = true) : CallR X (.type "dict") (rdOpL X.K X.mg dictD) := by
  intro pins s σ H xs us Q I r h
  obtain ⟨m, st, ds, so, rl, o⟩ := h
  unfold dictD at o
  split at o
  · rename_i l
    obtain ⟨v, rfl, rv⟩ := rl.one
    split at o
    · rename_i lk ys e
      obtain ⟨a, rfl, em⟩ := rv
      split at o
      · rename_i ps ep
        rcases so.at_ _ lk _ a e em with ⟨zs, rz, c⟩
        obtain ⟨as, kvs, rfl, h1, h2⟩ := pairsD_of ep rz
        exact call_dictP hc pins s σ H _ us Q I r ⟨a, as, kvs, rfl, .inl c.rd, h1, fun p hp => o.dctK so (putAll_rp h2 .nil) hp⟩
      · exact o.elim
    · split at o
      · rename_i kvs e
        obtain ⟨a, kv', H1, rfl, I1, s1, p1, hd, kr⟩ := dctK_at I so rv e
        exact call_dictD pins s σ H1 _ us Q I1 r ⟨a, kv', rfl, hd, fun p hp => (o.mono (Pre.refl m) p1).dctK s1 kr hp⟩
      · exact o.elim
  · exact o.elim
end
end PP
set_option Elab.async false
set_option linter.all false
set_option maxRecDepth 100000
set_option maxHeartbeats 2000000
/-! PP6: all, any, sum, min, max, gcd, isinstance, sorted, repr. -/
namespace PP
open PySem PySem.Spec PyProof.Rows L2

/-- the items of a list -/
def lstD (st : Store) : D → Option (List D)
  | .ref l => match st[l]? with
    | some (_, .lst ds) => some ds
    | _ => none
  | _ => none
theorem lstD_of {K : PySem.W.Frag} {mg : Str → Option Value} {m : List Addr} {H : Hp} {st : Store} (so : StOk K mg m H st) {d : D} {v : V} {ds : List D} (h : lstD st d = some ds) (r : Rp K mg m H d v) : ∃ p xs, v = .ref p ∧ RpL K mg m H ds xs ∧ SqL K H p xs := by
  cases d with
  | ref l =>
    obtain ⟨a, rfl, em⟩ := r
    simp only [lstD] at h
    split at h
    · rename_i lk es e
      cases h
      obtain ⟨xs, rl, sq⟩ := (so.at_ l lk _ a e em).lst_rd
      exact ⟨a, xs, rfl, rl, sq⟩
    · cases h
  | _ => cases h
def allD : OpL := fun ds st => match ds with
  | [d] => match (lstD st d).bind blsD with
    | some bs => some (.bl (bs.all id), st)
    | none => none
  | _ => none
def anyD : OpL := fun ds st => match ds with
  | [d] => match (lstD st d).bind blsD with
    | some bs => some (.bl (bs.any id), st)
    | none => none
  | _ => none
def sumD : OpL := fun ds st => match ds with
  | [d] => match (lstD st d).bind intsD with
    | some bs => some (.int bs.sum, st)
    | none => none
  | _ => none
/-- the least, the greatest of some ints -/
def leastI : List Int → Option Int
  | [] => none
  | n :: ns => some (ns.foldl (fun a b => if b < a then b else a) n)
def mostI : List Int → Option Int
  | [] => none
  | n :: ns => some (ns.foldl (fun a b => if a < b then b else a) n)
theorem least_fold : ∀ (ns : List Int) (n : Int), (ns.foldl (fun a b => if b < a then b else a) n ∈ n :: ns) ∧ ∀ y ∈ n :: ns, ns.foldl (fun a b => if b < a then b else a) n ≤ y
  | [], n => ⟨List.mem_cons_self, fun y hy => by rw [List.mem_singleton.mp hy]; exact Int.le_refl _⟩
  | b :: ns, n => by
    obtain ⟨h1, h2⟩ := least_fold ns (if b < n then b else n)
    rw [List.foldl_cons]
    have e : (if b < n then b else n) ≤ b ∧ (if b < n then b else n) ≤ n ∧ ((if b < n then b else n) = b ∨ (if b < n then b else n) = n) := by split <;> omega
    obtain ⟨e1, e2, e3⟩ := e
    refine ⟨?_, fun y hy => ?_⟩
    · rcases List.mem_cons.mp h1 with z | z
      · rw [z]
        rcases e3 with e3 | e3 <;> rw [e3] <;> simp
      · exact List.mem_cons_of_mem _ (List.mem_cons_of_mem _ z)
    · have h0 := h2 _ List.mem_cons_self
      rcases List.mem_cons.mp hy with rfl | hy
      · omega
      · rcases List.mem_cons.mp hy with rfl | hy
        · omega
        · exact h2 y (List.mem_cons_of_mem _ hy)
theorem most_fold : ∀ (ns : List Int) (n : Int), (ns.foldl (fun a b => if a < b then b else a) n ∈ n :: ns) ∧ ∀ y ∈ n :: ns, y ≤ ns.foldl (fun a b => if a < b then b else a) n
  | [], n => ⟨List.mem_cons_self, fun y hy => by rw [List.mem_singleton.mp hy]; exact Int.le_refl _⟩
  | b :: ns, n => by
    obtain ⟨h1, h2⟩ := most_fold ns (if n < b then b else n)
    rw [List.foldl_cons]
    have e : b ≤ (if n < b then b else n) ∧ n ≤ (if n < b then b else n) ∧ ((if n < b then b else n) = b ∨ (if n < b then b else n) = n) := by split <;> omega
    obtain ⟨e1, e2, e3⟩ := e
    refine ⟨?_, fun y hy => ?_⟩
    · rcases List.mem_cons.mp h1 with z | z
      · rw [z]
        rcases e3 with e3 | e3 <;> rw [e3] <;> simp
      · exact List.mem_cons_of_mem _ (List.mem_cons_of_mem _ z)
    · have h0 := h2 _ List.mem_cons_self
      rcases List.mem_cons.mp hy with rfl | hy
      · omega
      · rcases List.mem_cons.mp hy with rfl | hy
        · omega
        · exact h2 y (List.mem_cons_of_mem _ hy)
theorem leastI_ok {ns : List Int} {n : Int} (h : leastI ns = some n) : n ∈ ns ∧ ∀ y ∈ ns, n ≤ y := by
  cases ns with
  | nil => cases h
  | cons b r => cases h; exact least_fold r b
theorem mostI_ok {ns : List Int} {n : Int} (h : mostI ns = some n) : n ∈ ns ∧ ∀ y ∈ ns, y ≤ n := by
  cases ns with
  | nil => cases h
  | cons b r => cases h; exact most_fold r b
/-- the keys of an unlocked dict of ints -/
def keysI (st : Store) : D → Option (List Int)
  | .ref l => match st[l]? with
    | some (false, .dct (p :: kvs)) => intsD ((p :: kvs).map (·.1))
    | _ => none
  | _ => none
def minD' : OpL := fun ds st => match ds with
  | [.int i, .int j] => some (.int (if j < i then j else i), st)
  | [d] => match (lstD st d).bind intsD with
    | some ns => (leastI ns).map fun n => (.int n, st)
    | none => match keysI st d with
      | some ns => (leastI ns).map fun n => (.int n, st)
      | none => none
  | _ => none
def maxD' : OpL := fun ds st => match ds with
  | [.int i, .int j] => some (.int (if j > i then j else i), st)
  | [d] => match (lstD st d).bind intsD with
    | some ns => (mostI ns).map fun n => (.int n, st)
    | none => none
  | _ => none
def gcdD : OpL := fun ds st => match ds with
  | [.int a, .int b] => some (.int ((Nat.gcd a.natAbs b.natAbs : Nat) : Int), st)
  | _ => none
theorem Kvs.ints {K : PySem.W.Frag} {mg : Str → Option Value} {m : List Addr} {H : Hp} : ∀ {kvs : List (D × D)} {kv' : List (Key × V)} {ns : List Int}, Kvs K mg m H fK kvs kv' → kvs.map (·.1) = ns.map D.int → kv'.map (·.1) = ns.map Sum.inl
  | _, _, [], .nil, _ => rfl
  | _, _, n :: ns, .nil, h => by cases h
  | p :: kvs, q :: kv', [], .cons _ _, h => by cases h
  | p :: kvs, q :: kv', n :: ns, .cons ⟨e, r⟩ t, h => by
    have h1 : p.1 = D.int n := (List.cons.inj h).1
    have h2 := (List.cons.inj h).2
    rw [e] at h1
    have h3 : q.1 = Sum.inl n := kD_inj h1
    rw [List.map_cons, List.map_cons, h3, Kvs.ints t h2]
section
variable {X : Cx}
theorem cr_allD (hc : X.calm = true) : CallR X (.builtin "all") (rdOpL X.K X.mg allD) := CallR.weak (cr_all hc) fun xs H Q h => by
  obtain ⟨m, st, ds, so, rl, o⟩ := h
  unfold allD at o
  split at o
  · obtain ⟨v, rfl, rv⟩ := rl.one
    split at o
    · rename_i bs e
      obtain ⟨es, e1, e2⟩ := Option.bind_eq_some_iff.mp e
      obtain ⟨p, ys, rfl, ry, sq⟩ := lstD_of so e1 rv
      have e3 := blsD_of e2
      subst e3
      have e4 := ry.bls
      subst e4
      exact ⟨p, bs, rfl, sq, o.here so rfl⟩
    · exact o.elim
  · exact o.elim
theorem cr_anyD (hc : X.calm = true) : CallR X (.builtin "any") (rdOpL X.K X.mg anyD) := CallR.weak (cr_any hc) fun xs H Q h => by
  obtain ⟨m, st, ds, so, rl, o⟩ := h
  unfold anyD at o
  split at o
  · obtain ⟨v, rfl, rv⟩ := rl.one
    split at o
    · rename_i bs e
      obtain ⟨es, e1, e2⟩ := Option.bind_eq_some_iff.mp e
      obtain ⟨p, ys, rfl, ry, sq⟩ := lstD_of so e1 rv
      have e3 := blsD_of e2
      subst e3
      have e4 := ry.bls
      subst e4
      exact ⟨p, bs, rfl, sq, o.here so rfl⟩
    · exact o.elim
  · exact o.elim
theorem cr_sumD (hc : X.calm = true) : CallR X (.builtin "sum") (rdOpL X.K X.mg sumD) := CallR.weak (cr_sum hc) fun xs H Q h => by
  obtain ⟨m, st, ds, so, rl, o⟩ := h
  unfold sumD at o
  split at o
  · obtain ⟨v, rfl, rv⟩ := rl.one
    split at o
    · rename_i bs e
      obtain ⟨es, e1, e2⟩ := Option.bind_eq_some_iff.mp e
      obtain ⟨p, ys, rfl, ry, sq⟩ := lstD_of so e1 rv
      have e3 := intsD_of e2
      subst e3
      have e4 := ry.ints
      subst e4
      exact ⟨p, bs, rfl, sq, o.here so rfl⟩
    · exact o.elim
  · exact o.elim
theorem cr_minD (hc : X.calm = true) : CallR X (.builtin "min") (rdOpL X.K X.mg minD') := CallR.weak ((call_min2 hc).or ((cr_min hc).or (cr_minK hc))) fun xs H Q h => by
  obtain ⟨m, st, ds, so, rl, o⟩ := h
  unfold minD' at o
  split at o
  · obtain ⟨v, w, rfl, rv, rw'⟩ := rl.two
    cases rv; cases rw'
    exact .inl ⟨_, _, rfl, o.here so rfl⟩
  · rename_i dl d
    obtain ⟨v, rfl, rv⟩ := rl.one
    split at o
    · rename_i bs e
      obtain ⟨es, e1, e2⟩ := Option.bind_eq_some_iff.mp e
      obtain ⟨p, ys, rfl, ry, sq⟩ := lstD_of so e1 rv
      have e3 := intsD_of e2
      subst e3
      have e4 := ry.ints
      subst e4
      cases el : leastI bs with
      | none => rw [el] at o; exact o.elim
      | some n =>
        rw [el] at o
        obtain ⟨h1, h2⟩ := leastI_ok el
        refine .inr (.inl ⟨p, bs, rfl, sq, List.length_pos_of_mem h1, fun k k1 k2 => ?_⟩)
        have ek : k = n := Int.le_antisymm (k2 n h1) (h2 k k1)
        subst ek
        exact o.here so rfl
    · split at o
      · rename_i bs e
        cases d with
        | ref l =>
          simp only [keysI] at e
          split at e
          · rename_i p kvs es
            obtain ⟨a, rfl, em⟩ := rv
            have e3 := intsD_of e
            rcases so.at_ l _ _ a es em with ⟨kv', r, c⟩ | ⟨kv', r, c⟩
            · cases el : leastI bs with
              | none => rw [el] at o; exact o.elim
              | some n =>
                rw [el] at o
                obtain ⟨h1, h2⟩ := leastI_ok el
                refine .inr (.inr ⟨a, kv', bs, rfl, c, Kvs.ints r e3, List.ne_nil_of_mem h1, fun k k1 k2 => ?_⟩)
                have ek : k = n := Int.le_antisymm (k2 n h1) (h2 k k1)
                subst ek
                exact o.here so rfl
            · exfalso
              cases r with
              | cons e1 _ =>
                rw [List.map_cons] at e3
                rw [e1.1] at e3
                cases bs with
                | nil => cases e3
                | cons b bs => cases (List.cons.inj e3).1
          · cases e
        | _ => cases e
      · exact o.elim
  · exact o.elim
theorem cr_maxD (hc : X.calm = true) : CallR X (.builtin "max") (rdOpL X.K X.mg maxD') := CallR.weak ((call_max2 hc).or (cr_max hc)) fun xs H Q h => by
  obtain ⟨m, st, ds, so, rl, o⟩ := h
  unfold maxD' at o
  split at o
  · obtain ⟨v, w, rfl, rv, rw'⟩ := rl.two
    cases rv; cases rw'
    exact .inl ⟨_, _, rfl, o.here so rfl⟩
  · obtain ⟨v, rfl, rv⟩ := rl.one
    split at o
    · rename_i d _ bs e
      obtain ⟨es, e1, e2⟩ := Option.bind_eq_some_iff.mp e
      obtain ⟨p, ys, rfl, ry, sq⟩ := lstD_of so e1 rv
      have e3 := intsD_of e2
      subst e3
      have e4 := ry.ints
      subst e4
      cases el : mostI bs with
      | none => rw [el] at o; exact o.elim
      | some n =>
        rw [el] at o
        obtain ⟨h1, h2⟩ := mostI_ok el
        refine .inr ⟨p, bs, rfl, sq, List.length_pos_of_mem h1, fun k k1 k2 => ?_⟩
        have ek : k = n := Int.le_antisymm (h2 k k1) (k2 n h1)
        subst ek
        exact o.here so rfl
    · exact o.elim
  · exact o.elim
theorem cr_gcdD : CallR X (.builtin "math.gcd") (rdOpL X.K X.mg gcdD) := CallR.weak cr_gcd fun xs H Q h => by
  obtain ⟨m, st, ds, so, rl, o⟩ := h
  unfold gcdD at o
  split at o
  · obtain ⟨v, w, rfl, rv, rw'⟩ := rl.two
    cases rv; cases rw'
    exact ⟨_, _, rfl, o.here so rfl⟩
  · exact o.elim
end

/-! ### isinstance -/
/-- the name of a datum's type -/
def tyD (st : Store) : D → Option String
  | .non => some "NoneType"
  | .bl _ => some "bool"
  | .int _ => some "int"
  | .str _ => some "str"
  | .tup _ _ => some "tuple"
  | .ref l => match st[l]? with
    | some (_, .lst _) => some "list"
    | some (false, .dct _) => some "dict"
    | some (true, .dct (p :: _)) => if isK p.1 = true then some "dict" else none
    | _ => none
  | _ => none
def isTyD : D → Bool
  | .ty _ => true
  | _ => false
def isiAny (t : String) : List D → Option Bool
  | [] => some false
  | .ty n :: ds => match kitB t n with
    | some true => if ds.all isTyD = true then some true else none
    | some false => isiAny t ds
    | none => none
  | _ => none
def isiD : OpL := fun ds st => match ds with
  | [d, .ty n] => (tyD st d).bind fun t => (kitB t n).map fun b => (.bl b, st)
  | [d, .tup false ns] => (tyD st d).bind fun t => (isiAny t ns).map fun b => (.bl b, st)
  | _ => none
section
variable {X : Cx}
theorem tyD_of {K : PySem.W.Frag} {mg : Str → Option Value} {m : List Addr} {H : Hp} {st : Store} (so : StOk K mg m H st) {d : D} {v : V} {t : String} (h : tyD st d = some t) (r : Rp K mg m H d v) : TyX K H v (.type t) := by
  cases d with
  | non => cases h; cases r; exact .base .non
  | bl b => cases h; cases r; exact .base (.bl b)
  | int b => cases h; cases r; exact .base (.int b)
  | str b => cases h; cases r; exact .base (.str b)
  | tup k ds =>
    cases h
    obtain ⟨a, xs, rfl, ta, _⟩ := r
    rcases ta.sq with (e | ⟨o, e⟩) | ⟨o, its, n, e, c, _⟩
    · exact .base (.tup e)
    · exact .fTuple e
    · exact .kTuple e c
  | ref l =>
    obtain ⟨a, rfl, em⟩ := r
    simp only [tyD] at h
    split at h
    · rename_i lk ds e
      cases h
      obtain ⟨xs, _, c⟩ := so.at_ l lk _ a e em
      rcases c.rd with e | ⟨o, e⟩
      · exact .base (.lst e)
      · exact .base (.frz e)
    · rename_i kvs e
      cases h
      rcases so.at_ l _ _ a e em with ⟨kv', r, c⟩ | ⟨kv', r, c⟩
      · exact .base (.dK c)
      · exact .base (.dT c)
    · rename_i p kvs e
      split at h
      · rename_i hk
        cases h
        rcases so.at_ l _ _ a e em with ⟨kv', r, c⟩ | ⟨kv', r, c⟩
        · obtain ⟨o, c⟩ := c
          exact .fDict c
        · exfalso
          cases r with
          | cons e1 _ => rw [e1.1] at hk; cases hk
      · cases h
    · cases h
  | fn x => cases h
  | ty x => cases h
theorem allTy_of {K : PySem.W.Frag} {mg : Str → Option Value} {m : List Addr} {H : Hp} : ∀ {ds : List D} {vs : List V}, ds.all isTyD = true → RpL K mg m H ds vs → ∃ us, Paired ClsV vs us
  | [], vs, _, r => by
    rw [r.nil]
    exact ⟨[], .nil⟩
  | d :: ds, vs, h, r => by
    obtain ⟨x, xs, rfl, r1, r2⟩ := r
    rw [List.all_cons, Bool.and_eq_true] at h
    obtain ⟨us, h1⟩ := allTy_of h.2 r2
    cases d with
    | ty n => cases r1; exact ⟨.type n :: us, .cons (.ty n) h1⟩
    | _ => cases h.1
theorem isiAny_of {K : PySem.W.Frag} {mg : Str → Option Value} {m : List Addr} {H : Hp} {t : String} : ∀ {ds : List D} {vs : List V} {b : Bool}, isiAny t ds = some b → RpL K mg m H ds vs → ∃ us, Paired ClsV vs us ∧ PySem.W.kitAny K (.type t) us = some b
  | [], vs, b, h, r => by
    cases h
    rw [r.nil]
    exact ⟨[], .nil, kitAny_nil⟩
  | d :: ds, vs, b, h, r => by
    unfold isiAny at h
    split at h
    · rename_i e; cases e
    · rename_i n ds' e
      cases e
      obtain ⟨x, xs, rfl, r1, r2⟩ := r
      cases r1
      split at h
      · rename_i e1
        split at h
        · rename_i ha
          cases h
          obtain ⟨us, h1⟩ := allTy_of ha r2
          exact ⟨.type n :: us, .cons (.ty n) h1, kitAny_cons (kit_ty e1) (fun z => nomatch z) (fun _ => rfl)⟩
        · cases h
      · rename_i e1
        obtain ⟨us, h1, h2⟩ := isiAny_of h r2
        exact ⟨.type n :: us, .cons (.ty n) h1, kitAny_cons (kit_ty e1) (fun _ => h2) (fun z => nomatch z)⟩
      · cases h
    · cases h
theorem cr_isiD : CallR X (.builtin "isinstance") (rdOpL X.K X.mg isiD) := CallR.weak (call_isi.or call_isiT) fun xs H Q h => by
  obtain ⟨m, st, ds, so, rl, o⟩ := h
  unfold isiD at o
  split at o
  · rename_i d n
    obtain ⟨v, w, rfl, rv, rw'⟩ := rl.two
    cases rw'
    cases e1 : tyD st d with
    | none => rw [e1] at o; exact o.elim
    | some t =>
      rw [e1] at o
      cases e2 : kitB t n with
      | none => simp only [Option.bind_some, e2] at o; exact o.elim
      | some b =>
        simp only [Option.bind_some, e2] at o
        exact .inl ⟨v, _, .type t, .type n, b, rfl, .ty n, tyD_of so e1 rv, kit_ty e2, o.here so rfl⟩
  · rename_i d ns
    obtain ⟨v, w, rfl, rv, tp, cs, rfl, ta, rc⟩ := rl.two
    cases e1 : tyD st d with
    | none => rw [e1] at o; exact o.elim
    | some t =>
      rw [e1] at o
      cases e2 : isiAny t ns with
      | none => simp only [Option.bind_some, e2] at o; exact o.elim
      | some b =>
        simp only [Option.bind_some, e2] at o
        obtain ⟨us, h1, h2⟩ := isiAny_of e2 rc
        exact .inr ⟨v, tp, cs, .type t, us, b, rfl, ta, h1, tyD_of so e1 rv, h2, o.here so rfl⟩
  · exact o.elim
end

/-! ### repr, sorted -/
def reprD : OpL := fun ds st => match ds with
  | [d] => match rdP st d with
    | some p => if p.showable = true ∧ p.shown.length ≤ sizeLine then some (.str p.shown, st) else none
    | none => none
  | _ => none
def allAlike (ps : List PyData) : Bool := ps.all fun p => ps.all fun q => PySem.W.alike p q
def fullTup : PyData → Bool
  | .tuple (_ :: _) => true
  | _ => false
def noTup : PyData → Bool
  | .tuple _ => false
  | .none => false
  | _ => true
def sortB (ps : List PyData) : Bool := allAlike ps && (ps.all fullTup || ps.all noTup)
def encD (st : Store) (d : D) : PyData := (rdP st d).getD .none
/-- some data, sorted -/
def sortedL (st : Store) (ds : List D) : Option (List D) := match optAll (ds.map (rdP st)) with
  | some ps => if sortB ps = true then some (ds.mergeSort (PySem.W.dataLe false (encD st))) else none
  | none => none
def sortedD : OpL := fun ds st => match ds with
  | [d] => match lstD st d with
    | some xs => (sortedL st xs).bind fun ys => newL ys st
    | none => match dctK st d with
      | some kvs => (sortedL st (kvs.map (·.1))).bind fun ys => newL ys st
      | none => match dctT st d with
        | some kvs => (sortedL st (kvs.map (·.1))).bind fun ys => newL ys st
        | none => none
  | _ => none
section
variable {X : Cx}
theorem cr_reprD (hg : X.A.guards = some []) (hu : X.A.units + 64 < cLine) : CallR X (.builtin "repr") (rdOpL X.K X.mg reprD) := by
  intro pins s σ H xs us Q I r h
  obtain ⟨m, st, ds, so, rl, o⟩ := h
  unfold reprD at o
  split at o
  · rename_i d
    obtain ⟨v, rfl, rv⟩ := rl.one
    obtain ⟨u, rfl, ru⟩ := vals1 r
    split at o
    · rename_i p e
      split at o
      · rename_i hc
        obtain ⟨hs, hl⟩ := hc
        obtain ⟨dp, h1, h2⟩ := rdP_of so e rv
        obtain ⟨as, rd⟩ := dp.reads I _ _ _ ru
        have fin : ∀ {u' : Value} {s' : Shared}, RelV (.str p.shown) u' → Inv X pins σ H s' → EP X pins σ Q u' s' := fun ru' I' => ⟨_, H, I', ru', o.here so rfl⟩
        have hdd : p.hasDict = true → sysModules ∉ as := PyData.noDict_hsm (PyData.hasDict_of_canLay p (by unfold SeqAt.shaped at h1; exact (Bool.and_eq_true_iff.mp h1).1))
        have hdp : p.depth ≤ 30 := h2
        cases rd with
        | none => exact PySem.P.repr_of_none (fin ⟨_, rfl⟩ (I.tok _))
        | bool b => exact PySem.P.repr_of_bool (fin ⟨_, by cases b <;> rfl⟩ (I.tok _))
        | int i t => exact PySem.P.repr_of_int (of_decide_eq_true hs) (fin ⟨_, rfl⟩ (I.tok _))
        | str x t => exact PySem.P.repr_of_str (fin ⟨_, rfl⟩ (I.tok _)) hl
        | list a1 a2 a3 a4 => exact repr_of_reads' (.list a1 a2 a3 a4) hs hdd hg (by omega) (fun _ _ q => q) (fun h' u' tk hk => fin ⟨_, rfl⟩ (I.kept hk)) hl
        | tuple a1 a2 a3 a4 => exact repr_of_reads' (.tuple a1 a2 a3 a4) hs hdd hg (by omega) (fun _ _ q => q) (fun h' u' tk hk => fin ⟨_, rfl⟩ (I.kept hk)) hl
        | dict a1 a2 a3 a4 a5 => exact repr_of_reads' (.dict a1 a2 a3 a4 a5) hs hdd hg (by omega) (fun _ _ q => q) (fun h' u' tk hk => fin ⟨_, rfl⟩ (I.kept hk)) hl
      · exact o.elim
    · exact o.elim
  · exact o.elim
theorem optAll_map {α β : Type} {f : α → Option β} : ∀ {l : List α} {r : List β}, optAll (l.map f) = some r → (∀ x, x ∈ l → (f x).isSome = true) ∧ r.length = l.length ∧ (∀ (g : α → β), (∀ x b, f x = some b → g x = b) → l.map g = r)
  | [], r, h => by cases h; exact ⟨fun x hx => absurd hx List.not_mem_nil, rfl, fun _ _ => rfl⟩
  | a :: l, r, h => by
    obtain ⟨b, r', e1, e2, rfl⟩ := optAll_cons h
    obtain ⟨h1, h2, h3⟩ := optAll_map e2
    refine ⟨fun x hx => ?_, by rw [List.length_cons, List.length_cons, h2], fun g hg => by rw [List.map_cons, hg a b e1, h3 g hg]⟩
    rcases List.mem_cons.mp hx with rfl | hx
    · rw [e1]; rfl
    · exact h1 x hx
theorem encD_map {st : Store} {ds : List D} {ps : List PyData} (h : optAll (ds.map (rdP st)) = some ps) : ds.map (encD st) = ps := (optAll_map h).2.2 (encD st) fun x b e => by unfold encD; rw [e]; rfl
theorem allAlike_of {ps : List PyData} (h : allAlike ps = true) : PySem.W.AllAlike ps := fun p hp q hq => List.all_eq_true.mp (List.all_eq_true.mp h p hp) q hq
theorem sortB_of {ps : List PyData} (h : sortB ps = true) : PySem.W.AllAlike ps ∧ PySem.W.Sortable ps := by
  obtain ⟨h1, h2⟩ := Bool.and_eq_true_iff.mp h
  refine ⟨allAlike_of h1, ?_⟩
  rcases Bool.or_eq_true_iff.mp h2 with h2 | h2
  · refine .inl fun d hd => ?_
    have := List.all_eq_true.mp h2 d hd
    unfold fullTup at this
    split at this
    · exact ⟨_, _, rfl⟩
    · cases this
  · refine .inr fun d hd => ?_
    have := List.all_eq_true.mp h2 d hd
    exact ⟨fun e => (by rw [e] at this; cases this), fun xs e => (by rw [e] at this; cases this)⟩
/-- a value stands for a datum -/
def VR (K : PySem.W.Frag) (mg : Str → Option Value) (m : List Addr) (H : Hp) (v : Value) (d : D) : Prop := ∃ x, Rp K mg m H d x ∧ RelV x v
theorem each_of {K : PySem.W.Frag} {mg : Str → Option Value} {m : List Addr} {H : Hp} : ∀ {ds : List D} {xs : List V} {vs : List Value}, RpL K mg m H ds xs → Vals xs vs → PySem.W.EachIs (VR K mg m H) vs ds
  | [], xs, vs, r, v => by
    have e := r.nil
    subst e
    cases v
    exact .nil
  | d :: ds, _, _, ⟨x, t, e, r1, r2⟩, v => by
    subst e
    cases v with
    | cons v1 v2 => exact .cons ⟨x, r1, v1⟩ (each_of r2 v2)
theorem of_each {K : PySem.W.Frag} {mg : Str → Option Value} {m : List Addr} {H : Hp} : ∀ {ds : List D} {vs : List Value}, PySem.W.EachIs (VR K mg m H) vs ds → ∃ xs, RpL K mg m H ds xs ∧ Vals xs vs
  | _, _, .nil => ⟨[], rfl, .nil⟩
  | _, _, .cons ⟨x, r1, v1⟩ t => by
    obtain ⟨xs, h1, h2⟩ := of_each t
    exact ⟨x :: xs, ⟨x, xs, rfl, r1, h1⟩, .cons v1 h2⟩
section
variable {pins : List (Addr × Obj)} {σ : L2.St} {m : List Addr} {H : Hp} {s : Shared} {st : Store}
/-- what the items read as -/
theorem reads_of (I : Inv X pins σ H s) (so : StOk X.K X.mg m H st) : ∀ {ds : List D} {ps : List PyData} {xs : List V} {vs : List Value}, optAll (ds.map (rdP st)) = some ps → RpL X.K X.mg m H ds xs → Vals xs vs →
    PySem.W.EachIs (fun v d => ∃ as, Reads s.heap v (encD st d) as) vs ds ∧ ∀ d ∈ ds, (encD st d).depth ≤ dpt
  | [], ps, xs, vs, h, r, v => by
    have e := r.nil
    subst e
    cases v
    exact ⟨.nil, fun d hd => by cases hd⟩
  | d :: ds, ps, _, _, h, ⟨x, t, e, r1, r2⟩, v => by
    subst e
    obtain ⟨p, ps', e1, e2, rfl⟩ := optAll_cons h
    cases v with
    | cons v1 v2 =>
      obtain ⟨h1, h2⟩ := reads_of I so e2 r2 v2
      obtain ⟨dp, _, hd⟩ := rdP_of so e1 r1
      have ee : encD st d = p := by unfold encD; rw [e1]; rfl
      refine ⟨.cons ?_ h1, fun d' hd' => ?_⟩
      · rw [ee]
        exact dp.reads I _ _ _ v1
      · rcases List.mem_cons.mp hd' with rfl | hd'
        · rw [ee]; exact hd
        · exact h2 d' hd'
end
theorem sortedL_of {st : Store} {ds ys : List D} (h : sortedL st ds = some ys) : ∃ ps, optAll (ds.map (rdP st)) = some ps ∧ PySem.W.AllAlike (ds.map (encD st)) ∧ PySem.W.Sortable (ds.map (encD st)) ∧ ys = ds.mergeSort (PySem.W.dataLe false (encD st)) := by
  unfold sortedL at h
  split at h
  · rename_i ps e
    split at h
    · rename_i hb
      cases h
      obtain ⟨h1, h2⟩ := sortB_of hb
      rw [← encD_map e] at h1 h2
      exact ⟨ps, e, h1, h2, rfl⟩
    · cases h
  · cases h
theorem enc_each : ∀ {vs : List Value} {ds : List D} {h : Heap} {st : Store} {h' : Heap} {a : Addr}, PySem.W.EachIs (fun v d => ∃ as, Reads h v (encD st d) as) vs ds → (∀ b o, h.get? b = some o → h'.get? b = some o) → h.get? a = none → PySem.W.EachIs (fun v d => ∃ as, Reads h' v (encD st d) as ∧ a ∉ as) vs ds
  | _, _, _, _, _, _, .nil, _, _ => .nil
  | _, _, _, _, _, _, .cons ⟨as, r⟩ t, k, n => .cons ⟨as, PyProof.Rows.Reads.keeps k r, fun hm => by obtain ⟨o, e⟩ := PyProof.On.reads_mem_get r _ hm; rw [n] at e; cases e⟩ (enc_each t k n)
/-- sorted(d) of a dict: the keys collected, a new list of them sorted -/
theorem sort_collected {pins : List (Addr × Obj)} {σ : L2.St} {m : List Addr} {H : Hp} {st : Store} {s : Shared} {Q : VK} {acc : Array Value} {xs : List V} {ds ys : List D} (hu : X.A.units + 64 < cLine) (I : Inv X pins σ H s) (so : StOk X.K X.mg m H st)
    (rl : RpL X.K X.mg m H ds xs) (rv : Vals xs acc.toList) (hz : ds.length ≤ sizeLine) (hs : sortedL st ds = some ys) (o : Out X.K X.mg (Rp X.K X.mg) m H (newL ys st) Q) :
    wpAny (model X.prog X.w) X.A.in1 (newList acc.toList >>= fun l => holding [l] (call (.builtin "list.sort") [l]) >>= fun _ => ret l) (fun fin s' => ∃ v, fin = PySem.Fin.done (Flow.ret v) ∧ EP X pins σ Q v s') X.xe s := by
  obtain ⟨ps, e1, hal, hk, rfl⟩ := sortedL_of hs
  obtain ⟨er, hd⟩ := reads_of I so e1 rl rv
  have el : acc.toList.length = ds.length := by rw [← rv.length]; exact rl.length
  refine wpAny_bind (wpAny_newList ?_ (by rw [el]; exact hz))
  have hoL : (s.heap.push (seqObj "list" acc.toList.toArray 0)).get? s.heap.objs.size = some (seqObj "list" acc.toList.toArray 0) := Heap.get?_push_size _ rfl
  have hn : s.heap.get? s.heap.objs.size = none := by
    cases e : s.heap.get? s.heap.objs.size with
    | none => rfl
    | some o => exact absurd (Heap.lt_size e) (Nat.lt_irrefl _)
  have kp : ∀ b u, s.heap.get? b = some u → (s.heap.push (seqObj "list" acc.toList.toArray 0)).get? b = some u := fun b u e => Heap.get?_push_of_some _ e
  refine wpAny_bind (wpAny_holding ?_)
  refine PySem.W.list_sort_data (s := { s with heap := s.heap.push (seqObj "list" acc.toList.toArray 0) }) hoL (each_of rl rv) (enc_each er kp hn) hal hk hz (fun b hb => ?_) fun out hl hout => ?_
  · have := hd b hb
    have h1 : dpt = 30 := rfl
    show X.A.units + 1 + 1 + (encD st b).depth < cLine
    omega
  · obtain ⟨zs, rz, vz⟩ := of_each hout
    obtain ⟨e', he'⟩ := PyProof.Rows.sortedHeap_at (vs := acc.toList) (out := out.toArray) hoL
    have hlen : zs.length ≤ sizeLine := by
      rw [rz.length, List.length_mergeSort]
      exact hz
    refine wpAny_pure ⟨_, rfl, .ref s.heap.objs.size, upd H s.heap.objs.size (.lst zs), I.laid (t' := s.toks) (fun b u e => ?_) (Nat.le_refl _)
      (show ObjOk X.prog X.w _ _ _ (.lst zs) from ⟨hlen, out, e', vz, he'⟩), rfl, o.lst so rz (I.hok.fresh (Nat.le_refl _))⟩
    have hb : b < s.heap.objs.size := Heap.lt_size e
    show (PyProof.Rows.sortedHeap (s.heap.push (seqObj "list" acc.toList.toArray 0)) s.heap.objs.size acc.toList out.toArray).get? b = some u
    rw [PyProof.Rows.sortedHeap_old (Nat.ne_of_lt hb) (by rw [size_push']; exact Nat.lt_succ_of_lt hb)]
    exact kp b u e
theorem cr_sortedD (hc : X.calm = true) (hu : X.A.units + 64 < cLine) : CallR X (.builtin "sorted") (rdOpL X.K X.mg sortedD) := by
  intro pins s σ H xs us Q I r h
  obtain ⟨m, st, ds, so, rl, o⟩ := h
  unfold sortedD at o
  split at o
  · rename_i d
    obtain ⟨v, rfl, rv⟩ := rl.one
    obtain ⟨u, rfl, ru⟩ := vals1 r
    split at o
    · rename_i ys e
      obtain ⟨p, zs, rfl, rz, sq⟩ := lstD_of so e rv
      cases ru
      obtain ⟨its, rvs, pl, hz⟩ := I.list sq
      cases es : sortedL st ys with
      | none => rw [es] at o; exact o.elim
      | some ws =>
        rw [es] at o
        have o : Out X.K X.mg (Rp X.K X.mg) m H (newL ws st) Q := o
        obtain ⟨ps, e1, hal, hk, rfl⟩ := sortedL_of es
        obtain ⟨er, hd⟩ := reads_of I so e1 rz rvs
        have hlz : ys.length ≤ sizeLine := by rw [← rz.length]; exact hz
        refine PySem.W.sorted_data pl.isList (each_of rz rvs) er hal hk hlz (fun b hb => ?_) fun out hl hout => ?_
        · have := hd b hb
          have h1 : dpt = 30 := rfl
          omega
        · obtain ⟨ks, rk, vk⟩ := of_each hout
          obtain ⟨c, hat⟩ := PyProof.Rows.sortedAll_at s.heap its out.toArray
          have hlen : ks.length ≤ sizeLine := by
            rw [rk.length, List.length_mergeSort]
            exact hlz
          exact ⟨.ref (s.heap.objs.size + 1), upd H (s.heap.objs.size + 1) (.lst ks), I.laid (t' := s.toks) (fun b u e => PyProof.Rows.sortedAll_old e) (Nat.le_succ _)
            (show ObjOk X.prog X.w _ _ _ (.lst ks) from ⟨hlen, out, c, vk, hat⟩), rfl, o.lst so rk (I.hok.fresh (Nat.le_succ _))⟩
    · split at o
      · rename_i kvs e
        obtain ⟨a, kv', H1, rfl, I1, s1, p1, hd, kr⟩ := dctK_at I so rv e
        cases ru
        cases es : sortedL st (kvs.map (·.1)) with
        | none => rw [es] at o; exact o.elim
        | some ws =>
          rw [es] at o
          have o : Out X.K X.mg (Rp X.K X.mg) m H (newL ws st) Q := o
          obtain ⟨z, lo, vs, rel, dd⟩ := dk_rd I1.hok hd
          obtain ⟨ep, hat⟩ := dd.dictAt
          have hl2 : kv'.length = vs.length := rel.length
          have ek : (kv'.map fun kv => kV kv.1) = vs.map fun p => kV p.1 := by
            have e := congrArg (List.map kV) rel.keys
            rw [List.map_map, List.map_map] at e
            exact e
          refine Calls.call_function_entry PyProof.Rows.kind_sorted PyProof.Rows.plain_sorted PyProof.Rows.entry_sorted (PyProof.Rows.args_sorted1 _) ?_
          unfold Builtin.«sorted»
          refine wpAny_bind (m := checkCount "sorted" 1 1 _) (wpAny_pure ?_)
          refine wpAny_bind (PySem.W.kdu_collect (A := X.A.in1) (PySem.W.kdl_dict (knd := mixKind X.prog X.w) (kvs := vs) (ep := ep) lo) (I1.ok.hd hc) hat (by rw [← hl2]; exact z) fun h' tk acc hk hacc => ?_)
          have hv : Vals (kv'.map fun p => kV p.1) acc.toList := by
            rw [ek]
            exact keys_at (by rw [Array.length_toList]; exact hacc.1) fun j v e => hacc.2 j v (by rw [← Array.getElem?_toList]; exact e)
          exact sort_collected hu (I1.kept hk) s1 kr.keysK hv (by rw [List.length_map, kr.length]; exact z) es (o.mono (Pre.refl m) p1)
      · split at o
        · rename_i kvs e
          obtain ⟨a, kv', H1, rfl, I1, s1, p1, hd, kr⟩ := dctT_at I so rv e
          cases ru
          cases es : sortedL st (kvs.map (·.1)) with
          | none => rw [es] at o; exact o.elim
          | some ws =>
            rw [es] at o
            have o : Out X.K X.mg (Rp X.K X.mg) m H (newL ws st) Q := o
            obtain ⟨z, hs, ks, pr, o', es', ep, ho, hx, hdt, he, hn⟩ := (show ObjOk X.prog X.w H1 s.heap a (.dT kv') from hd.ok I1.hok)
            have l1 : es'.size = ks.length := size_of_entries he
            have l2 : kv'.length = ks.length := Paired.length pr
            refine Calls.call_function_entry PyProof.Rows.kind_sorted PyProof.Rows.plain_sorted PyProof.Rows.entry_sorted (PyProof.Rows.args_sorted1 _) ?_
            unfold Builtin.«sorted»
            refine wpAny_bind (m := checkCount "sorted" 1 1 _) (wpAny_pure ?_)
            refine wpAny_bind (PySem.W.kdu_collect (A := X.A.in1) (kdl_raw hs hx hdt) (I1.ok.hd hc) ho (by omega) fun h' tk acc hk it => ?_)
            have ea : acc.toList = ks.map fun x => Value.ref x.2.1 := by
              have hl : acc.toList.length = ks.length := by rw [Array.length_toList, it.1]; exact l1
              apply List.ext_getElem?
              intro j
              rw [List.getElem?_map]
              cases hj : acc.toList[j]? with
              | none =>
                have h1 := List.getElem?_eq_none_iff.mp hj
                rw [List.getElem?_eq_none (by omega)]
                all_goals rfl
              | some v =>
                obtain ⟨en, hen, hv⟩ := it.2 j v (by rw [← Array.getElem?_toList]; exact hj)
                have qe := entry_at he j
                rw [hen] at qe
                cases hb : ks[j]? with
                | none => rw [hb] at qe; exact absurd qe (by simp)
                | some x =>
                  rw [hb] at qe
                  have e2 : en = entryOfKey (tupleKind (mixKind X.prog X.w)) x := Option.some.inj qe
                  rw [hv, e2]
                  rfl
            have eb : acc.toList = (ks.map fun x => x.2.1).map Value.ref := by rw [ea, List.map_map]; rfl
            have rv : Vals ((ks.map fun x => x.2.1).map V.ref) acc.toList := by rw [eb]; exact vals_refs _
            exact sort_collected hu (I1.kept hk) s1 (kr.keysT (isKeys_of pr)) rv (by rw [List.length_map, kr.length]; exact z) es (o.mono (Pre.refl m) p1)
        · exact o.elim
  · exact o.elim
end
end PP
set_option Elab.async false
set_option linter.all false
set_option maxRecDepth 100000
set_option maxHeartbeats 2000000
/-! PP7: what is walked; targets; statements. -/
namespace PP
open PySem PySem.Spec PyProof.Rows L2

/-! ### sources: the item at a turn, the end, or nothing that can be said -/
abbrev Src := Nat → Store → Option (Option D)
def srcL (l : Nat) : Src := fun i st => match st[l]? with
  | some (_, .lst ds) => some ds[i]?
  | _ => none
def srcS (ds : List D) : Src := fun i _ => some ds[i]?
def signs (z : Str) : List D := z.cps.toList.map fun c => .str (sign1 c)
def srcD (st : Store) (d : D) : Option Src := match d with
  | .tup _ ds => some (srcS ds)
  | .str z => some (srcS (signs z))
  | .ref l => match st[l]? with
    | some (_, .lst _) => some (srcL l)
    | some (true, .dct kvs) => some (srcS (kvs.map (·.1)))
    | _ => none
  | _ => none
def srcEn (st : Store) (d : D) : Option Src := match d with
  | .ref l => match st[l]? with
    | some (_, .lst _) => some fun i st => match st[l]? with
      | some (_, .lst ds) => some (ds[i]?.map fun d => .tup false [.int (i : Int), d])
      | _ => none
    | _ => none
  | _ => none
def pairAt (ds es : List D) (i : Nat) : Option D := match ds[i]?, es[i]? with
  | some d, some e => some (.tup false [d, e])
  | _, _ => none
def srcZp (st : Store) (d e : D) : Option Src := match d, e with
  | .ref l, .ref k => match st[l]?, st[k]? with
    | some (_, .lst _), some (_, .lst _) => some fun i st => match st[l]?, st[k]? with
      | some (_, .lst ds), some (_, .lst es) => some (pairAt ds es i)
      | _, _ => none
    | _, _ => none
  | .tup _ ds, .tup _ es => some fun i _ => some (pairAt ds es i)
  | _, _ => none
def small62 (i : Int) : Bool := decide (-(2 ^ 62) ≤ i ∧ i < 2 ^ 62)
def rangeL (i : Int) (n : Nat) : List D := (List.range n).map fun k => .int (i + (k : Nat))
def srcRg : List D → Option Src
  | [.int j] => if small62 j = true then some (srcS (rangeL 0 j.toNat)) else none
  | [.int i, .int j] => if small62 i = true ∧ small62 j = true then some (srcS (rangeL i (j - i).toNat)) else none
  | _ => none

section
variable (K : PySem.W.Frag) (mg : Str → Option Value)
def SrcOk (m0 : List Addr) (H0 : Hp) (g : Src) (J : It) : Prop := ∀ (i : Nat) (m : List Addr) (H : Hp) (st : Store), Pre m0 m → Pers H0 H → StOk K mg m H st →
  (∀ d, g i st = some (some d) → J.go i H ∧ ∀ x H', J.yld i H x H' → Pers H H' ∧ StOk K mg m H' st ∧ Rp K mg m H' d x) ∧ (g i st = some none → J.stop i H)
abbrev rdI (W : WX) (f : Ev Src) : TI := rdG K mg (SrcOk K mg) W f
variable {K mg}
variable {m : List Addr} {H : Hp} {st : Store}
theorem SrcOk.tup {a : Addr} {ds : List D} {xs : List V} (q : SqT K H a xs) (r : RpL K mg m H ds xs) : SrcOk K mg m H (srcS ds) (Itt K a) := fun i m' H' st' pm p so => by
  have q' := p.sqT q
  have r' := RpL.mono pm p _ _ r
  refine ⟨fun d e => ?_, fun e => ?_⟩
  · obtain ⟨x, ex, rx⟩ := r'.get (Option.some.inj e)
    refine ⟨⟨xs, x, q', ex⟩, fun y H2 hy => ?_⟩
    obtain ⟨rfl, hy⟩ := hy
    have := hy xs q'
    rw [ex] at this
    cases this
    exact ⟨Pers.refl _, so, rx⟩
  · refine ⟨xs, q', ?_⟩
    rw [r.length]
    exact List.getElem?_eq_none_iff.mp (Option.some.inj e)
theorem SrcOk.lst {a : Addr} {l : Nat} (em : m[l]? = some a) : SrcOk K mg m H (srcL l) (Itl K a) := fun i m' H' st' pm p so => by
  have em' := pm l a em
  refine ⟨fun d e => ?_, fun e => ?_⟩
  · unfold srcL at e
    split at e
    · rename_i lk ds es
      obtain ⟨xs, rl, sq⟩ := (so.at_ l lk _ a es em').lst_rd
      obtain ⟨x, ex, rx⟩ := rl.get (Option.some.inj e)
      refine ⟨⟨xs, x, sq, ex⟩, fun y H2 hy => ?_⟩
      obtain ⟨rfl, hy⟩ := hy
      have := hy xs sq
      rw [ex] at this
      cases this
      exact ⟨Pers.refl _, so, rx⟩
    · cases e
  · unfold srcL at e
    split at e
    · rename_i lk ds es
      obtain ⟨xs, rl, sq⟩ := (so.at_ l lk _ a es em').lst_rd
      refine ⟨xs, sq, ?_⟩
      rw [rl.length]
      exact List.getElem?_eq_none_iff.mp (Option.some.inj e)
    · cases e
theorem SrcOk.str {z : Str} : SrcOk K mg m H (srcS (signs z)) (Its z) := fun i m' H' st' _ _ so => by
  refine ⟨fun d e => ?_, fun e => ?_⟩
  · have e := Option.some.inj e
    unfold signs at e
    rw [List.getElem?_map, Array.getElem?_toList] at e
    obtain ⟨c, ec, rfl⟩ := Option.map_eq_some_iff.mp e
    refine ⟨(Array.getElem?_eq_some_iff.mp ec).1, fun y H2 hy => ?_⟩
    obtain ⟨rfl, c', ec', rfl⟩ := hy
    rw [ec] at ec'
    cases ec'
    exact ⟨Pers.refl _, so, rfl⟩
  · have e := Option.some.inj e
    unfold signs at e
    rw [List.getElem?_map, Array.getElem?_toList] at e
    exact Array.getElem?_eq_none_iff.mp (Option.map_eq_none_iff.mp e)
theorem SrcOk.rng {lo : Int} {n : Nat} : SrcOk K mg m H (srcS (rangeL lo n)) (Itr lo n) := fun i m' H' st' _ _ so => by
  refine ⟨fun d e => ?_, fun e => ?_⟩
  · have e := Option.some.inj e
    unfold rangeL at e
    rw [List.getElem?_map] at e
    obtain ⟨k, ek, rfl⟩ := Option.map_eq_some_iff.mp e
    obtain ⟨hl, ek⟩ := List.getElem?_eq_some_iff.mp ek
    rw [List.getElem_range] at ek
    subst ek
    rw [List.length_range] at hl
    refine ⟨hl, fun y H2 hy => ?_⟩
    obtain ⟨rfl, rfl⟩ := hy
    exact ⟨Pers.refl _, so, rfl⟩
  · have e := Option.some.inj e
    unfold rangeL at e
    rw [List.getElem?_map, Option.map_eq_none_iff, List.getElem?_eq_none_iff, List.length_range] at e
    exact e
theorem Kvs.getK {kvs : List (D × D)} {kv' : List (Key × V)} (r : Kvs K mg m H fK kvs kv') {i : Nat} {d : D} (e : (kvs.map (·.1))[i]? = some d) : ∃ k v, kv'[i]? = some (k, v) ∧ d = fK k := by
  rw [List.getElem?_map] at e
  obtain ⟨p, ep, rfl⟩ := Option.map_eq_some_iff.mp e
  obtain ⟨b, eb, e1, _⟩ := paired_get r ep
  exact ⟨b.1, b.2, eb, e1⟩
theorem Kvs.getT {kvs : List (D × D)} {kv' : List (List Key × V)} (r : Kvs K mg m H fT kvs kv') {i : Nat} {d : D} (e : (kvs.map (·.1))[i]? = some d) : ∃ k v, kv'[i]? = some (k, v) ∧ d = fT k := by
  rw [List.getElem?_map] at e
  obtain ⟨p, ep, rfl⟩ := Option.map_eq_some_iff.mp e
  obtain ⟨b, eb, e1, _⟩ := paired_get r ep
  exact ⟨b.1, b.2, eb, e1⟩
theorem keys_len {kvs : List (D × D)} {i : Nat} (h : (kvs.map (·.1))[i]? = none) : kvs.length ≤ i := by
  rw [List.getElem?_map, Option.map_eq_none_iff, List.getElem?_eq_none_iff] at h
  exact h
theorem SrcOk.keysK {a : Addr} {ob : Obj} {kvs : List (D × D)} {kv' : List (Key × V)} (r : Kvs K mg m H fK kvs kv') (e : H a = some (.frz ob (.dK kv'))) : SrcOk K mg m H (srcS (kvs.map (·.1))) (Itk a ob kv') := fun i m' H' st' pm p so => by
  have e' := p a _ (show Stays (.frz _ _) from True.intro) e
  refine ⟨fun d ed => ?_, fun ed => ?_⟩
  · obtain ⟨k, v, ek, rfl⟩ := r.getK (Option.some.inj ed)
    refine ⟨⟨e', (List.getElem?_eq_some_iff.mp ek).1⟩, fun y H2 hy => ?_⟩
    obtain ⟨rfl, k2, v2, ek2, rfl⟩ := hy
    rw [ek] at ek2
    cases ek2
    exact ⟨Pers.refl _, so, Rp_kD.mpr rfl⟩
  · exact ⟨e', by rw [← r.length]; exact keys_len (Option.some.inj ed)⟩
theorem SrcOk.keysT {a : Addr} {ob : Obj} {kvs : List (D × D)} {kv' : List (List Key × V)} (r : Kvs K mg m H fT kvs kv') (e : H a = some (.frz ob (.dT kv'))) : SrcOk K mg m H (srcS (kvs.map (·.1))) (Itkt a ob kv') := fun i m' H' st' pm p so => by
  have e' := p a _ (show Stays (.frz _ _) from True.intro) e
  refine ⟨fun d ed => ?_, fun ed => ?_⟩
  · obtain ⟨k, v, ek, rfl⟩ := r.getT (Option.some.inj ed)
    refine ⟨⟨e', (List.getElem?_eq_some_iff.mp ek).1⟩, fun y H2 hy => ?_⟩
    obtain ⟨rfl, k2, v2, q, ek2, rfl, hq⟩ := hy
    rw [ek] at ek2
    cases ek2
    exact ⟨Pers.refl _, so, q, _, rfl, hq, RpL_kV _⟩
  · exact ⟨e', by rw [← r.length]; exact keys_len (Option.some.inj ed)⟩
theorem pers_tup {T : Addr} {xs : List V} (h : H T = none) (so : StOk K mg m H st) : Pers H (upd H T (.tup xs)) ∧ StOk K mg m (upd H T (.tup xs)) st := ⟨Pers.new h, so.beside h⟩
theorem rp_pair {T : Addr} {x y : V} {d e : D} (h : H T = none) (rx : Rp K mg m H d x) (ry : Rp K mg m H e y) : Rp K mg m (upd H T (.tup [x, y])) (.tup false [d, e]) (.ref T) :=
  ⟨T, [x, y], rfl, upd_same, x, [y], rfl, Rp.mono (Pre.refl m) (Pers.new h) _ _ rx, y, [], rfl, Rp.mono (Pre.refl m) (Pers.new h) _ _ ry, rfl⟩
theorem SrcOk.enum {a : Addr} {l : Nat} (em : m[l]? = some a) : SrcOk K mg m H (fun i st => match st[l]? with
      | some (_, .lst ds) => some (ds[i]?.map fun d => .tup false [.int (i : Int), d])
      | _ => none) (Ite K a) := fun i m' H' st' pm p so => by
  have em' := pm l a em
  refine ⟨fun d e => ?_, fun e => ?_⟩
  · simp only at e
    split at e
    · rename_i lk ds es
      obtain ⟨xs, rl, sq⟩ := (so.at_ l lk _ a es em').lst_rd
      obtain ⟨d0, e0, rfl⟩ := Option.map_eq_some_iff.mp (Option.some.inj e)
      obtain ⟨x, ex, rx⟩ := rl.get e0
      refine ⟨⟨xs, x, sq, ex⟩, fun y H2 hy => ?_⟩
      obtain ⟨T, x2, rfl, hT, rfl, hx2⟩ := hy
      have := hx2 xs sq
      rw [ex] at this
      cases this
      exact ⟨(pers_tup hT so).1, (pers_tup hT so).2, rp_pair hT rfl rx⟩
    · cases e
  · simp only at e
    split at e
    · rename_i lk ds es
      obtain ⟨xs, rl, sq⟩ := (so.at_ l lk _ a es em').lst_rd
      refine ⟨xs, sq, ?_⟩
      rw [rl.length]
      exact List.getElem?_eq_none_iff.mp (Option.map_eq_none_iff.mp (Option.some.inj e))
    · cases e
theorem pairAt_some {ds es : List D} {i : Nat} {d : D} (h : pairAt ds es i = some d) : ∃ x y, ds[i]? = some x ∧ es[i]? = some y ∧ d = .tup false [x, y] := by
  unfold pairAt at h
  split at h
  · rename_i x y e1 e2
    cases h
    exact ⟨x, y, e1, e2, rfl⟩
  · cases h
theorem pairAt_none {ds es : List D} {i : Nat} (h : pairAt ds es i = none) : ds.length ≤ i ∨ es.length ≤ i := by
  unfold pairAt at h
  split at h
  · cases h
  · rename_i hx
    by_cases h1 : i < ds.length
    · by_cases h2 : i < es.length
      · exact absurd (List.getElem?_eq_getElem h2) (hx _ _ (List.getElem?_eq_getElem h1))
      · exact .inr (Nat.le_of_not_lt h2)
    · exact .inl (Nat.le_of_not_lt h1)
theorem SrcOk.zipL {a b : Addr} {l k : Nat} (ea : m[l]? = some a) (eb : m[k]? = some b) : SrcOk K mg m H (fun i st => match st[l]?, st[k]? with
      | some (_, .lst ds), some (_, .lst es) => some (pairAt ds es i)
      | _, _ => none) (Itz K a b) := fun i m' H' st' pm p so => by
  have ea' := pm l a ea
  have eb' := pm k b eb
  refine ⟨fun d e => ?_, fun e => ?_⟩
  · simp only at e
    split at e
    · rename_i lk ds lk2 es e1 e2
      obtain ⟨xs, rl, sq⟩ := (so.at_ l lk _ a e1 ea').lst_rd
      obtain ⟨ys, rl2, sq2⟩ := (so.at_ k lk2 _ b e2 eb').lst_rd
      obtain ⟨d1, d2, g1, g2, rfl⟩ := pairAt_some (Option.some.inj e)
      obtain ⟨x, ex, rx⟩ := rl.get g1
      obtain ⟨y, ey, ry⟩ := rl2.get g2
      refine ⟨⟨xs, ys, x, y, sq, sq2, ex, ey⟩, fun z H2 hz => ?_⟩
      obtain ⟨T, x2, y2, rfl, hT, rfl, hx2, hy2⟩ := hz
      have q1 := hx2 xs sq
      have q2 := hy2 ys sq2
      rw [ex] at q1
      rw [ey] at q2
      cases q1; cases q2
      exact ⟨(pers_tup hT so).1, (pers_tup hT so).2, rp_pair hT rx ry⟩
    · cases e
  · simp only at e
    split at e
    · rename_i lk ds lk2 es e1 e2
      obtain ⟨xs, rl, sq⟩ := (so.at_ l lk _ a e1 ea').lst_rd
      obtain ⟨ys, rl2, sq2⟩ := (so.at_ k lk2 _ b e2 eb').lst_rd
      refine ⟨xs, ys, sq, sq2, ?_⟩
      rw [rl.length, rl2.length]
      exact pairAt_none (Option.some.inj e)
    · cases e
theorem SrcOk.zipT {a b : Addr} {ds es : List D} {xs ys : List V} (sq : SqT K H a xs) (rl : RpL K mg m H ds xs) (sq2 : SqT K H b ys) (rl2 : RpL K mg m H es ys) : SrcOk K mg m H (fun i _ => some (pairAt ds es i)) (RZ.ItzT K a b) := fun i m' H' st' pm p so => by
  have sq := p.sqT sq
  have sq2 := p.sqT sq2
  have rl := RpL.mono pm p _ _ rl
  have rl2 := RpL.mono pm p _ _ rl2
  refine ⟨fun d e => ?_, fun e => ?_⟩
  · obtain ⟨d1, d2, g1, g2, rfl⟩ := pairAt_some (Option.some.inj e)
    obtain ⟨x, ex, rx⟩ := rl.get g1
    obtain ⟨y, ey, ry⟩ := rl2.get g2
    refine ⟨⟨xs, ys, x, y, sq, sq2, ex, ey⟩, fun z H2 hz => ?_⟩
    obtain ⟨T, x2, y2, rfl, hT, rfl, hx2, hy2⟩ := hz
    have q1 := hx2 xs sq
    have q2 := hy2 ys sq2
    rw [ex] at q1
    rw [ey] at q2
    cases q1; cases q2
    exact ⟨(pers_tup hT so).1, (pers_tup hT so).2, rp_pair hT rx ry⟩
  · refine ⟨xs, ys, sq, sq2, ?_⟩
    rw [rl.length, rl2.length]
    exact pairAt_none (Option.some.inj e)
end

/-! ### what is walked, by its expression -/
def evSrc (f : Ev D) : Ev Src := fun env st => (f env st).bind fun d st1 => .ofOpt ((srcD st1 d).map fun g => (g, st1))
def evEn (f : Ev (List D)) : Ev Src := fun env st => (f env st).bind fun ds st1 => match ds with
  | [d] => .ofOpt ((srcEn st1 d).map fun g => (g, st1))
  | _ => .stuck
def evZp (f : Ev (List D)) : Ev Src := fun env st => (f env st).bind fun ds st1 => match ds with
  | [d, e] => .ofOpt ((srcZp st1 d e).map fun g => (g, st1))
  | _ => .stuck
def evRg1 (f : Ev (List D)) : Ev Src := fun env st => (f env st).bind fun ds st1 => match ds with
  | [.int j] => .ofOpt ((srcRg [.int j]).map fun g => (g, st1))
  | _ => .stuck
def evRg2 (f : Ev (List D)) : Ev Src := fun env st => (f env st).bind fun ds st1 => match ds with
  | [.int i, .int j] => .ofOpt ((srcRg [.int i, .int j]).map fun g => (g, st1))
  | _ => .stuck
section
variable {X : Cx} {tg : Expr} {W : WX}
theorem PI.weak {e : Expr} {t t' : TI} (h : PI X tg e t) (i : ∀ σ H R, t' σ H R → t σ H R) : PI X tg e t' := ⟨fun pins s σ H R I q => h.run pins s σ H R I (i σ H R q)⟩
theorem Out.src {m : List Addr} {H : Hp} {st : Store} {g : Src} {J : It} {R : It → Hp → Prop} (h : Out X.K X.mg (SrcOk X.K X.mg) m H (some (g, st)) R) (so : StOk X.K X.mg m H st) (s : SrcOk X.K X.mg m H g J) : R J H :=
  h m H J (Pre.refl m) (Pers.refl H) so s
/-- a value walked -/
theorem walk_value {pins : List (Addr × Obj)} {s : Shared} {σ : L2.St} {m : List Addr} {H : Hp} {st : Store} {d : D} {x : V} {v : Value} {R : It → Hp → Prop} (I : Inv X pins σ H s) (so : StOk X.K X.mg m H st) (rd : Rp X.K X.mg m H d x) (rv : RelV x v)
    (o : Out X.K X.mg (SrcOk X.K X.mg) m H ((srcD st d).map fun g => (g, st)) R) : wpAny (model X.prog X.w) X.A (pyIter v) (PIE X pins σ tg R) X.xe s := by
  have lst : ∀ {a : Addr} {ys : List V}, SqL X.K H a ys → R (Itl X.K a) H → wpAny (model X.prog X.w) X.A (pyIter (.ref a)) (PIE X pins σ tg R) X.xe s := fun {a ys} sq q => by
    obtain ⟨its, _, p, _⟩ := I.list sq
    exact wpAny_pyIter_list p.isList (pi_one (tk := s.toks) I _ (turn_list a _) ⟨_, Heap.get?_push_size _ rfl, rfl, rfl⟩ q)
  cases d with
  | tup k ds =>
    obtain ⟨a, ys, rfl, ta, rl⟩ := rd
    cases rv
    obtain ⟨its, _, p, _⟩ := I.tuple ta.sq
    exact wpAny_pyIter_tuple (show s.heap.IsTuple a its.toArray from p) (pi_one (tk := s.toks) I _ (turn_tuple a _) ⟨_, Heap.get?_push_size _ rfl, rfl, rfl⟩ (o.src so (.tup ta.sq rl)))
  | str z =>
    cases rd
    obtain ⟨t, rfl⟩ := rv
    have q : R (Its z) H := o.src so .str
    by_cases ha : z.cps.all (· < 128) = true
    · exact wpAny_pyIter_ascii ha (pi_one (tk := s.toks) I _ (turn_str _ z t _ (.inl rfl)) ⟨_, Heap.get?_push_size _ rfl, rfl, rfl⟩ q)
    · exact wpAny_pyIter_wide (Bool.eq_false_iff.mpr ha) (pi_one (tk := s.toks) I _ (turn_str _ z t _ (.inr rfl)) ⟨_, Heap.get?_push_size _ rfl, rfl, rfl⟩ q)
  | ref l =>
    obtain ⟨a, rfl, em⟩ := rd
    cases rv
    simp only [srcD] at o
    split at o
    · rename_i lk ds e
      obtain ⟨ys, _, sq⟩ := (so.at_ l lk _ a e em).lst_rd
      exact lst sq (o.src so (.lst em))
    · rename_i kvs e
      rcases so.at_ l _ _ a e em with ⟨kv', r, ob, c⟩ | ⟨kv', r, ob, c⟩
      · obtain ⟨k1, k2, k3, es, ep, vs, k4, k5, _, _⟩ := I.frzK c
        exact iter_keys k1 k2 k3 k4 (pi_one (tk := s.toks) I _ (turn_keys _ k4) ⟨_, Heap.get?_push_size _ rfl, rfl, by rw [k5] <;> rfl⟩ (o.src so (.keysK r c)))
      · obtain ⟨k1, k2, k3, es, ep, k4, k5, k6⟩ := I.frzT c
        exact iter_keys k1 k2 k3 k4 (pi_one (tk := s.toks) I _ (turn_keysT _ k4) ⟨_, Heap.get?_push_size _ rfl, rfl, by rw [k5] <;> rfl⟩ (o.src so (.keysT r c)))
    · exact o.elim
  | _ => exact o.elim
theorem pi_src {e : Expr} {f : Ev D} (he : PE X e (rdE X.K X.mg W f)) : PI X tg e (rdI X.K X.mg W (evSrc f)) := ⟨fun pins s σ H R I h => by
  obtain ⟨m, env, st, ho, so, h⟩ := h
  refine thn (he.run pins s σ H _ I ⟨m, env, st, ho, so, Fin.bind (R := Rp X.K X.mg) h⟩) fun v s1 hv => ?_
  obtain ⟨x, H1, I1, r1, m1, st1, d, _, _, s2, r2, h1⟩ := hv
  exact walk_value I1 s2 r2 r1 h1.out⟩
theorem pi_rg1 {a : Expr} {p pos : Pos} {f : Ev (List D)} (hg : Gl X "range") (hm : X.mg "range" = none) (ha : PA X [a] (rdA X.K X.mg W f)) (hs : starEach [a] X.env = [(false, eval a X.env)] := by rfl) :
    PI X tg (.Call (.Name "range" p) [a] [] pos) (rdI X.K X.mg W (evRg1 f)) := PI.weak (pi_range1 hg hm ha hs) fun σ H R h => by
  obtain ⟨m, env, st, ho, so, h⟩ := h
  refine ⟨m, env, st, ho, so, (Fin.bind (R := RpL X.K X.mg) h).imp fun vs H1 _ hv => ?_⟩
  obtain ⟨m1, st1, ds, _, _, s2, r2, h1⟩ := hv
  split at h1
  · rename_i j
    replace h1 := h1.out
    obtain ⟨v, rfl, rfl⟩ := r2.one
    simp only [srcRg] at h1
    split at h1
    · rename_i hj
      obtain ⟨h2, h3⟩ := of_decide_eq_true hj
      exact ⟨j, rfl, h2, h3, h1.src s2 .rng⟩
    · exact h1.elim
  · exact h1.elim
theorem pi_rg2 {a b : Expr} {p pos : Pos} {f : Ev (List D)} (hg : Gl X "range") (hm : X.mg "range" = none) (ha : PA X [a, b] (rdA X.K X.mg W f)) (hs : starEach [a, b] X.env = [(false, eval a X.env), (false, eval b X.env)] := by rfl) (hs2 : starEach [b] X.env = [(false, eval b X.env)] := by rfl) :
    PI X tg (.Call (.Name "range" p) [a, b] [] pos) (rdI X.K X.mg W (evRg2 f)) := PI.weak (pi_range2 hg hm ha hs hs2) fun σ H R h => by
  obtain ⟨m, env, st, ho, so, h⟩ := h
  refine ⟨m, env, st, ho, so, (Fin.bind (R := RpL X.K X.mg) h).imp fun vs H1 _ hv => ?_⟩
  obtain ⟨m1, st1, ds, _, _, s2, r2, h1⟩ := hv
  split at h1
  · rename_i i j
    replace h1 := h1.out
    obtain ⟨v, w, rfl, rfl, rfl⟩ := r2.two
    simp only [srcRg] at h1
    split at h1
    · rename_i hj
      obtain ⟨h2, h3⟩ := of_decide_eq_true hj.1
      obtain ⟨h4, h5⟩ := of_decide_eq_true hj.2
      exact ⟨i, j, rfl, ⟨h2, h3, h4, h5⟩, h1.src s2 .rng⟩
    · exact h1.elim
  · exact h1.elim
theorem pi_en {e : Expr} {p pos tpos : Pos} {elts : List Expr} {kk : Nat} {f : Ev (List D)} (hg : Gl X "enumerate") (hm : X.mg "enumerate" = none) (ha : PA X [e] (rdA X.K X.mg W f)) (hs : starEach [e] X.env = [(false, eval e X.env)] := by rfl) :
    PI X (.Tuple elts kk tpos) (.Call (.Name "enumerate" p) [e] [] pos) (rdI X.K X.mg W (evEn f)) := PI.weak (pi_enum hg hm ha hs) fun σ H R h => by
  obtain ⟨m, env, st, ho, so, h⟩ := h
  refine ⟨m, env, st, ho, so, (Fin.bind (R := RpL X.K X.mg) h).imp fun vs H1 _ hv => ?_⟩
  obtain ⟨m1, st1, ds, _, _, s2, r2, h1⟩ := hv
  split at h1
  · rename_i d
    replace h1 := h1.out
    obtain ⟨v, rfl, rv⟩ := r2.one
    cases d with
    | ref l =>
      obtain ⟨a, rfl, em⟩ := rv
      simp only [srcEn] at h1
      split at h1
      · rename_i lk ds e
        obtain ⟨ys, _, sq⟩ := (s2.at_ l lk _ a e em).lst_rd
        exact ⟨a, ys, rfl, sq, h1.src s2 (.enum em)⟩
      · exact h1.elim
    | _ => exact h1.elim
  · exact h1.elim
theorem pi_zp {e e2 : Expr} {p pos tpos : Pos} {elts : List Expr} {kk : Nat} {f : Ev (List D)} (hg : Gl X "zip") (hm : X.mg "zip" = none) (ha : PA X [e, e2] (rdA X.K X.mg W f))
    (hs : starEach [e, e2] X.env = (false, eval e X.env) :: starEach [e2] X.env := by rfl) (hpl : (backTo pos (starEach [e2] X.env)).any (·.1) = false := by rfl) :
    PI X (.Tuple elts kk tpos) (.Call (.Name "zip" p) [e, e2] [] pos) (rdI X.K X.mg W (evZp f)) := PI.weak (RZ.pi_zipA hg hm ha hs hpl) fun σ H R h => by
  obtain ⟨m, env, st, ho, so, h⟩ := h
  refine ⟨m, env, st, ho, so, (Fin.bind (R := RpL X.K X.mg) h).imp fun vs H1 _ hv => ?_⟩
  obtain ⟨m1, st1, ds, _, _, s2, r2, h1⟩ := hv
  split at h1
  · rename_i d e
    replace h1 := h1.out
    obtain ⟨v, w, rfl, rv, rw'⟩ := r2.two
    unfold srcZp at h1
    split at h1
    · rename_i l k
      obtain ⟨a, rfl, ea⟩ := rv
      obtain ⟨b, rfl, eb⟩ := rw'
      split at h1
      · rename_i lk ds lk2 es e1 e2
        obtain ⟨xs, _, sq⟩ := (s2.at_ l lk _ a e1 ea).lst_rd
        obtain ⟨ys, _, sq2⟩ := (s2.at_ k lk2 _ b e2 eb).lst_rd
        exact ⟨a, b, xs, ys, rfl, .inl ⟨sq, sq2, h1.src s2 (.zipL ea eb)⟩⟩
      · exact h1.elim
    · obtain ⟨a, xs, rfl, ta, ra⟩ := rv
      obtain ⟨b, ys, rfl, tb, rb⟩ := rw'
      exact ⟨a, b, xs, ys, rfl, .inr ⟨ta.sq, tb.sq, h1.src s2 (.zipT ta.sq ra tb.sq rb)⟩⟩
    · exact h1.elim
  · exact h1.elim
end
end PP
set_option Elab.async false
set_option linter.all false
set_option maxRecDepth 100000
set_option maxHeartbeats 2000000
/-! PP8: names, constants, truth, displays, calls, methods. -/
namespace PP
open PySem PySem.Spec PyProof.Rows L2

def evVar (i : Nat) : Ev D := fun env st => match env[i]? with
  | some (some d) => .ok d st
  | _ => .stuck
def evC (d : D) : Ev D := fun _ st => .ok d st
def asB : D → Option Bool
  | .bl b => some b
  | _ => none
/-- a comparison as a test -/
def evTB (f : Ev D) : Ev Bool := fun env st => (f env st).bind fun d st1 => .ofOpt ((asB d).map fun b => (b, st1))
def evNot (f : Ev D) : Ev D := fun env st => (f env st).bind fun d st1 => .ofOpt ((truD d st1).map fun p => (.bl (!p.1), p.2))
def evAnd (f g : Ev D) : Ev D := fun env st => (f env st).bind fun d st1 => match truD d st1 with
  | some (b, st2) => if b = true then g env st2 else .ok d st2
  | none => .stuck
def evOr (f g : Ev D) : Ev D := fun env st => (f env st).bind fun d st1 => match truD d st1 with
  | some (b, st2) => if b = true then .ok d st2 else g env st2
  | none => .stuck
def evIf {α : Type} (c : Ev Bool) (f g : Ev α) : Ev α := fun env st => (c env st).bind fun b st1 => if b = true then f env st1 else g env st1
def tyes : Ev Bool := fun _ st => .ok true st
def tnot (c : Ev Bool) : Ev Bool := fun env st => (c env st).bind fun b st1 => .ok (!b) st1
def tand (c e : Ev Bool) : Ev Bool := fun env st => (c env st).bind fun b st1 => if b = true then e env st1 else .ok false st1
def tor (c e : Ev Bool) : Ev Bool := fun env st => (c env st).bind fun b st1 => if b = true then .ok true st1 else e env st1
/-- a op b op' c -/
def evChain (f g : Op2) (a b c : Ev D) : Ev D := fun env st => (a env st).bind fun x st1 => (b env st1).bind fun y st2 => (Res.ofOpt (f x y st2)).bind fun z st3 => match asB z with
  | some true => (c env st3).bind fun w st4 => .ofOpt (g y w st4)
  | some false => .ok (.bl false) st3
  | none => .stuck
def mkTup : OpL := fun ds st => if ds.length ≤ sizeLine then some (.tup false ds, st) else none
def mkLst : OpL := fun ds st => if ds.length ≤ sizeLine then newL ds st else none
def mkDct : Ev D := fun _ st => .ok (.ref st.length) (st ++ [(false, .dct [])])

section
variable {X : Cx} {W : WX} {a b c : Expr} {pos : Pos} {fa fb fc : Ev D}
theorem pe_evVar {i : Nat} {x : Str} (hN : X.N[i]? = some x) (hv : Vis X.env.scope x) (hd : (x == ("__debug__" : Str)) = false := by decide) (hcd : (x == ("__classdict__" : Str)) = false := by decide) : PE X (.Name x pos) (rdE X.K X.mg W (evVar i)) :=
  PE.weak (pe_var hN hv hd hcd) fun σ H Q h => by
    obtain ⟨m, env, st, ho, so, h⟩ := h
    unfold evVar at h
    split at h
    · rename_i d e
      obtain ⟨v, ev, r⟩ := ho.at_ i d e
      exact ⟨v, ev, h m H v (Pre.refl m) (Pers.refl H) so r⟩
    · exact h.elim
theorem rd_const {d : D} {v : V} (hr : ∀ m H, Rp X.K X.mg m H d v) {e : Expr} (h : PE X e (tC v)) : PE X e (rdE X.K X.mg W (evC d)) := PE.weak h fun σ H Q h => by
  obtain ⟨m, env, st, ho, so, h⟩ := h
  exact h m H v (Pre.refl m) (Pers.refl H) so (hr m H)
theorem pe_evInt {i : Int} {j} : PE X (.Constant (.int i) j pos) (rdE X.K X.mg W (evC (.int i))) := rd_const (X := X) (d := .int i) (v := .int i) (fun _ _ => rfl) pe_int
theorem pe_evBl {i : Bool} {j} : PE X (.Constant (.bool i) j pos) (rdE X.K X.mg W (evC (.bl i))) := rd_const (X := X) (d := .bl i) (v := .bl i) (fun _ _ => rfl) pe_bl
theorem pe_evNon {j} : PE X (.Constant .none j pos) (rdE X.K X.mg W (evC .non)) := rd_const (X := X) (d := .non) (v := .non) (fun _ _ => rfl) pe_non
theorem pe_evStr {i : Str} {j} : PE X (.Constant (.str i) j pos) (rdE X.K X.mg W (evC (.str i))) := rd_const (X := X) (d := .str i) (v := .str i) (fun _ _ => rfl) pe_str
/-- a built-in type as a value -/
theorem pe_evTy {x : Str} {n : String} (hg : Gl X x) (hm : X.mg x = none) (hv : bootBuiltins x = some (.type n)) (hn : x ≠ "__name__" := by decide) (hd : (x == ("__debug__" : Str)) = false := by decide) : PE X (.Name x pos) (rdE X.K X.mg W (evC (.ty n))) :=
  rd_const (X := X) (d := .ty n) (v := .ty n) (fun _ _ => rfl) (pe_bltn (v := .ty n) hg hm hv rfl hn hd)
/-- a text of the top -/
theorem pe_evGStr {x : Str} {z : Str} {t : Tok} (hg : Gl X x) (hm : X.mg x = some (.str z t)) (hd : (x == ("__debug__" : Str)) = false := by decide) : PE X (.Name x pos) (rdE X.K X.mg W (evC (.str z))) :=
  rd_const (X := X) (d := .str z) (v := .str z) (fun _ _ => rfl) (pe_glob (v := .str z) hg hm ⟨t, rfl⟩ hd)
theorem pt_evTB (h : ∀ {t : TE}, PE X a t → PT X a (tTest t)) (ha : PE X a (rdE X.K X.mg W fa)) : PT X a (rdT X.K X.mg W (evTB fa)) := PT.weak (h ha) fun σ H Q h => by
  obtain ⟨m, env, st, ho, so, h⟩ := h
  refine ⟨m, env, st, ho, so, (Fin.bind (R := Rp X.K X.mg) h).imp fun v H1 _ hv => ?_⟩
  obtain ⟨m1, st1, d, _, _, s1, r1, h1⟩ := hv
  cases d with
  | bl k => cases r1; exact ⟨k, rfl, (h1.out) m1 H1 k (Pre.refl _) (Pers.refl _) s1 rfl⟩
  | _ => exact h1.elim
/-- a comparison as a test -/
theorem pt_cmp2 {op : CmpOp} {f : Op2} (ho : OpR X (compareOp op) (rdOp2 X.K X.mg f)) (ha : PE X a (rdE X.K X.mg W fa)) (hb : PE X b (rdE X.K X.mg W fb)) (hm : behindInMarks op b = false) : PT X (.Compare a [op] [b] pos) (rdT X.K X.mg W (evTB (ev2 f fa fb))) :=
  PT.weak (pt_cmpR ho ha hb hm) fun σ H Q h => by
    have h2 : rdE X.K X.mg W (ev2 f fa fb) σ H (fun x H' => ∃ k, x = .bl k ∧ Q k H') := by
      obtain ⟨m, env, st, ho, so, h⟩ := h
      refine ⟨m, env, st, ho, so, (Fin.bind (R := Rp X.K X.mg) h).imp fun v H1 _ hv => ?_⟩
      obtain ⟨m1, st1, d, _, _, s1, r1, h1⟩ := hv
      cases d with
      | bl k => cases r1; exact ⟨k, rfl, (h1.out) m1 H1 k (Pre.refl _) (Pers.refl _) s1 rfl⟩
      | _ => exact h1.elim
    exact rd2 h2
theorem rd_chain {f g : Op2} {σ : L2.St} {H : Hp} {Q : VK} (h : rdE X.K X.mg W (evChain f g fa fb fc) σ H Q) : tChain (rdOp2 X.K X.mg f) (rdOp2 X.K X.mg g) (rdE X.K X.mg W fa) (rdE X.K X.mg W fb) (rdE X.K X.mg W fc) σ H Q := by
  obtain ⟨m, env, st, ho, so, h⟩ := h
  refine ⟨m, env, st, ho, so, (Fin.bind (R := Rp X.K X.mg) h).imp fun x H1 p1 hv => ?_⟩
  obtain ⟨m1, st1, d, pm1, _, s1, r1, h1⟩ := hv
  refine ⟨m1, env, st1, ho.mono pm1 p1, s1, (Fin.bind (R := Rp X.K X.mg) h1).imp fun y H2 p2 hv => ?_⟩
  obtain ⟨m2, st2, e, pm2, _, s2, r2, h2⟩ := hv
  refine ⟨m2, st2, d, e, s2, Rp.mono pm2 p2 _ _ r1, r2, ?_⟩
  have h3 := (Fin.bind (R := Rp X.K X.mg) h2).out
  cases ef : f d e st2 with
  | none => rw [ef] at h3; exact h3.elim
  | some q =>
    obtain ⟨z, st3⟩ := q
    rw [ef] at h3
    intro m3 H3 zv pm3 p3 s3 r3
    obtain ⟨m4, st4, z4, pm4, p4, s4, r4, h4⟩ := h3 m3 H3 zv pm3 p3 s3 r3
    cases z4 with
    | bl k =>
      cases r4
      refine ⟨k, rfl, ?_⟩
      cases k with
      | false => exact h4 m4 H3 _ (Pre.refl _) (Pers.refl _) s4 rfl
      | true =>
        refine ⟨m4, env, st4, ((ho.mono pm1 p1).mono pm2 p2).mono pm4 p3, s4, (Fin.bind (R := Rp X.K X.mg) h4).imp fun w H5 p5 hv => ?_⟩
        obtain ⟨m5, st5, d5, pm5, _, s5, r5, h5⟩ := hv
        exact ⟨m5, st5, e, d5, s5, Rp.mono pm5 p5 _ _ (Rp.mono pm4 p3 _ _ r2), r5, h5.out⟩
    | _ => exact h4.elim
theorem pe_evChain {op op' : CmpOp} {f g : Op2} (ho : OpR X (compareOp op) (rdOp2 X.K X.mg f)) (ho' : OpR X (compareOp op') (rdOp2 X.K X.mg g)) (ha : PE X a (rdE X.K X.mg W fa)) (hb : PE X b (rdE X.K X.mg W fb)) (hc : PE X c (rdE X.K X.mg W fc))
    (hm : lastMarks [op, op'] [b, c] = false := by with_unfolding_all rfl) : PE X (.Compare a [op, op'] [b, c] pos) (rdE X.K X.mg W (evChain f g fa fb fc)) := PE.weak (pe_chain ho ho' ha hb hc hm) fun _ _ _ h => rd_chain h
theorem pt_evChain {op op' : CmpOp} {f g : Op2} (ho : OpR X (compareOp op) (rdOp2 X.K X.mg f)) (ho' : OpR X (compareOp op') (rdOp2 X.K X.mg g)) (ha : PE X a (rdE X.K X.mg W fa)) (hb : PE X b (rdE X.K X.mg W fb)) (hc : PE X c (rdE X.K X.mg W fc))
    (hm : lastMarks [op, op'] [b, c] = false := by with_unfolding_all rfl) : PT X (.Compare a [op, op'] [b, c] pos) (rdT X.K X.mg W (evTB (evChain f g fa fb fc))) := PT.weak (pt_chain ho ho' ha hb hc hm) fun σ H Q h => by
  refine rd_chain ?_
  obtain ⟨m, env, st, ho, so, h⟩ := h
  refine ⟨m, env, st, ho, so, (Fin.bind (R := Rp X.K X.mg) h).imp fun v H1 _ hv => ?_⟩
  obtain ⟨m1, st1, d, _, _, s1, r1, h1⟩ := hv
  cases d with
  | bl k => cases r1; exact ⟨k, rfl, (h1.out) m1 H1 k (Pre.refl _) (Pers.refl _) s1 rfl⟩
  | _ => exact h1.elim
/-- an expression's value and its truth -/
theorem truth_run {m : List Addr} {H1 : Hp} {pins : List (Addr × Obj)} {σ : L2.St} {s1 : Shared} {x : V} {v : Value} {d : D} {st1 : Store} {Q : Bool → Shared → Prop} (I1 : Inv X pins σ H1 s1) (r1 : RelV x v) (s2 : StOk X.K X.mg m H1 st1) (rd : Rp X.K X.mg m H1 d x) {b : Bool} {st2 : Store} (e : truD d st1 = some (b, st2))
    (h : ∀ m' H' s', Pre m m' → Pers H1 H' → StOk X.K X.mg m' H' st2 → Inv X pins σ H' s' → Q b s') : wpAny (model X.prog X.w) X.A (truthy v) Q X.xe s1 := by
  refine thn (tru_truD pins s1 σ H1 x v (fun c H' => c = b ∧ ∃ m', Pre m m' ∧ Pers H1 H' ∧ StOk X.K X.mg m' H' st2) I1 r1 ⟨m, st1, d, s2, rd, ?_⟩) fun c s' hc => ?_
  · rw [e]
    exact fun m' H' c a1 a2 a3 a4 => ⟨(show b = c from a4).symm, m', a1, a2, a3⟩
  · obtain ⟨H', I', rfl, m', a1, a2, a3⟩ := hc
    exact h m' H' s' a1 a2 a3 I'
theorem pe_evNot (ha : PE X a (rdE X.K X.mg W fa)) : PE X (.UnaryOp .Not a pos) (rdE X.K X.mg W (evNot fa)) := ⟨fun pins s σ H Q I h => by
  obtain ⟨m, env, st, ho, so, h⟩ := h
  refine UnaryOp_ (thn (ha.run pins s σ H _ I ⟨m, env, st, ho, so, Fin.bind (R := Rp X.K X.mg) h⟩) fun v s1 hv => ?_)
  obtain ⟨x, H1, I1, r1, m1, st1, d, pm, p, s2, r2, h1⟩ := hv
  cases e : truD d st1 with
  | none => rw [e] at h1; exact h1.elim
  | some q =>
    obtain ⟨bb, st2⟩ := q
    rw [e] at h1
    exact not_of (truth_run I1 r1 s2 r2 e fun m' H' s' a1 a2 a3 I' => ⟨.bl (!bb), H', I', rfl, h1 m' H' _ a1 a2 a3 rfl⟩)⟩
theorem pe_evAnd {rest : List Expr} (ha : PE X a (rdE X.K X.mg W fa)) (hb : PE X (.BoolOp .And (b :: rest) pos) (rdE X.K X.mg W fb)) : PE X (.BoolOp .And (a :: b :: rest) pos) (rdE X.K X.mg W (evAnd fa fb)) := ⟨fun pins s σ H Q I h => by
  obtain ⟨m, env, st, ho, so, h⟩ := h
  refine BoolOp_and (thn (ha.run pins s σ H _ I ⟨m, env, st, ho, so, (Fin.bind (R := Rp X.K X.mg) h).imp fun v H1 p1 q => And.intro p1 q⟩) fun v s1 hv => ?_)
  obtain ⟨x, H1, I1, r1, p1, m1, st1, d, pm, p, s2, r2, h1⟩ := hv
  cases e : truD d st1 with
  | none => rw [e] at h1; exact h1.elim
  | some q =>
    obtain ⟨bb, st2⟩ := q
    rw [e] at h1
    refine truth_run I1 r1 s2 r2 e fun m' H' s' a1 a2 a3 I' => ?_
    cases bb with
    | true => exact hb.run pins s' σ H' Q I' ⟨m', env, st2, (ho.mono pm p1).mono a1 a2, a3, Fin.mono a1 a2 h1⟩
    | false => exact ⟨x, H', I', r1, h1 m' H' x a1 a2 a3 (Rp.mono a1 a2 _ _ r2)⟩⟩
theorem pe_evOr {rest : List Expr} (ha : PE X a (rdE X.K X.mg W fa)) (hb : PE X (.BoolOp .Or (b :: rest) pos) (rdE X.K X.mg W fb)) : PE X (.BoolOp .Or (a :: b :: rest) pos) (rdE X.K X.mg W (evOr fa fb)) := ⟨fun pins s σ H Q I h => by
  obtain ⟨m, env, st, ho, so, h⟩ := h
  refine BoolOp_or (thn (ha.run pins s σ H _ I ⟨m, env, st, ho, so, (Fin.bind (R := Rp X.K X.mg) h).imp fun v H1 p1 q => And.intro p1 q⟩) fun v s1 hv => ?_)
  obtain ⟨x, H1, I1, r1, p1, m1, st1, d, pm, p, s2, r2, h1⟩ := hv
  cases e : truD d st1 with
  | none => rw [e] at h1; exact h1.elim
  | some q =>
    obtain ⟨bb, st2⟩ := q
    rw [e] at h1
    refine truth_run I1 r1 s2 r2 e fun m' H' s' a1 a2 a3 I' => ?_
    cases bb with
    | false => exact hb.run pins s' σ H' Q I' ⟨m', env, st2, (ho.mono pm p1).mono a1 a2, a3, Fin.mono a1 a2 h1⟩
    | true => exact ⟨x, H', I', r1, h1 m' H' x a1 a2 a3 (Rp.mono a1 a2 _ _ r2)⟩⟩
theorem rd_if {β : Type} {α : Type} {R : RL α β} {c : Ev Bool} {f g : Ev α} {σ : L2.St} {H : Hp} {Q : β → Hp → Prop} (h : rdG X.K X.mg R W (evIf c f g) σ H Q) : rdT X.K X.mg W c σ H (fun b H1 => if b = true then rdG X.K X.mg R W f σ H1 Q else rdG X.K X.mg R W g σ H1 Q) := by
  obtain ⟨m, env, st, ho, so, h⟩ := h
  refine ⟨m, env, st, ho, so, (Fin.bind (R := rEq Bool) h).imp fun b H1 p1 hv => ?_⟩
  obtain ⟨m1, st1, b1, pm, _, s1, r1, h1⟩ := hv
  cases (show b1 = b from r1)
  cases b with
  | true => exact ⟨m1, env, st1, ho.mono pm p1, s1, h1⟩
  | false => exact ⟨m1, env, st1, ho.mono pm p1, s1, h1⟩
variable {ta tb : Ev Bool}
theorem pe_evIf {e : Expr} (hc : PT X e (rdT X.K X.mg W ta)) (ha : PE X a (rdE X.K X.mg W fa)) (hb : PE X b (rdE X.K X.mg W fb)) : PE X (.IfExp e a b pos) (rdE X.K X.mg W (evIf ta fa fb)) := PE.weak (pe_ifExp hc ha hb) fun _ _ _ h => rd_if h
theorem pt_tnot (ha : PT X a (rdT X.K X.mg W ta)) : PT X (.UnaryOp .Not a pos) (rdT X.K X.mg W (tnot ta)) := PT.weak (pt_not ha) fun σ H Q h => by
  obtain ⟨m, env, st, ho, so, h⟩ := h
  refine ⟨m, env, st, ho, so, (Fin.bind (R := rEq Bool) h).imp fun b H1 p1 hv => ?_⟩
  obtain ⟨m1, st1, b1, pm, _, s1, r1, h1⟩ := hv
  cases (show b1 = b from r1)
  exact h1 m1 H1 _ (Pre.refl _) (Pers.refl _) s1 rfl
theorem rd_and {σ : L2.St} {H : Hp} {Q : Bool → Hp → Prop} (h : rdT X.K X.mg W (tand ta tb) σ H Q) : tAnd (rdT X.K X.mg W ta) (rdT X.K X.mg W tb) σ H Q := by
  obtain ⟨m, env, st, ho, so, h⟩ := h
  refine ⟨m, env, st, ho, so, (Fin.bind (R := rEq Bool) h).imp fun b H1 p1 hv => ?_⟩
  obtain ⟨m1, st1, b1, pm, _, s1, r1, h1⟩ := hv
  cases (show b1 = b from r1)
  cases b with
  | true => exact ⟨m1, env, st1, ho.mono pm p1, s1, h1⟩
  | false => exact h1 m1 H1 _ (Pre.refl _) (Pers.refl _) s1 rfl
theorem rd_or {σ : L2.St} {H : Hp} {Q : Bool → Hp → Prop} (h : rdT X.K X.mg W (tor ta tb) σ H Q) : tOr (rdT X.K X.mg W ta) (rdT X.K X.mg W tb) σ H Q := by
  obtain ⟨m, env, st, ho, so, h⟩ := h
  refine ⟨m, env, st, ho, so, (Fin.bind (R := rEq Bool) h).imp fun b H1 p1 hv => ?_⟩
  obtain ⟨m1, st1, b1, pm, _, s1, r1, h1⟩ := hv
  cases (show b1 = b from r1)
  cases b with
  | false => exact ⟨m1, env, st1, ho.mono pm p1, s1, h1⟩
  | true => exact h1 m1 H1 _ (Pre.refl _) (Pers.refl _) s1 rfl
theorem PW.weak {e : Expr} {t t' : TT} (h : PW X e t) (i : ∀ σ H Q, t' σ H Q → t σ H Q) : PW X e t' := ⟨fun wh pins s σ H Q I q => h.run wh pins s σ H Q I (i σ H Q q)⟩
theorem pw_tand {rest : List Expr} (ha : PT X a (rdT X.K X.mg W ta)) (hb : PW X (.BoolOp .And (b :: rest) pos) (rdT X.K X.mg W tb)) : PW X (.BoolOp .And (a :: b :: rest) pos) (rdT X.K X.mg W (tand ta tb)) := PW.weak (pw_and ha hb) fun _ _ _ h => rd_and h
theorem pw_tor {rest : List Expr} (ha : PT X a (rdT X.K X.mg W ta)) (hb : PW X (.BoolOp .Or (b :: rest) pos) (rdT X.K X.mg W tb)) : PW X (.BoolOp .Or (a :: b :: rest) pos) (rdT X.K X.mg W (tor ta tb)) := PW.weak (pw_or ha hb) fun _ _ _ h => rd_or h

/-! ### displays, calls -/
variable {es : List Expr} {fl : Ev (List D)}
theorem pa_evNil : PA X [] (rdA X.K X.mg W evNil) := PA.weak pa_nil fun _ _ _ h => rdNil h
theorem PA.cons' {e : Expr} {f : Ev D} (h1 : PE X e (rdE X.K X.mg W f)) (h2 : PA X es (rdA X.K X.mg W fl)) (hs : starEach (e :: es) X.env = (false, eval e X.env) :: starEach es X.env := by rfl) : PA X (e :: es) (rdA X.K X.mg W (evCons f fl)) := PA.weak (pa_cons h1 h2 hs) fun _ _ _ h => rdCons h
theorem pe_evTup {k} (h : PA X es (rdA X.K X.mg W fl)) : PE X (.Tuple es k pos) (rdE X.K X.mg W (evL mkTup fl)) := PE.weak (pe_tup h) fun σ H Q h => by
  obtain ⟨m, env, st, ho, so, h⟩ := h
  refine ⟨m, env, st, ho, so, (Fin.bind (R := RpL X.K X.mg) h).imp fun vs H1 _ hv => ?_⟩
  obtain ⟨m1, st1, ds, _, _, s1, r1, h1⟩ := hv
  replace h1 := h1.out
  unfold mkTup at h1
  split at h1
  · rename_i hl
    exact ⟨by rw [r1.length]; exact hl, fun p hp => h1.tup s1 r1 hp⟩
  · exact h1.elim
theorem pe_evLst (h : PA X es (rdA X.K X.mg W fl)) : PE X (.List es pos) (rdE X.K X.mg W (evL mkLst fl)) := PE.weak (pe_lst h) fun σ H Q h => by
  obtain ⟨m, env, st, ho, so, h⟩ := h
  refine ⟨m, env, st, ho, so, (Fin.bind (R := RpL X.K X.mg) h).imp fun vs H1 _ hv => ?_⟩
  obtain ⟨m1, st1, ds, _, _, s1, r1, h1⟩ := hv
  replace h1 := h1.out
  unfold mkLst at h1
  split at h1
  · rename_i hl
    exact ⟨by rw [r1.length]; exact hl, fun p hp => h1.lst s1 r1 hp⟩
  · exact h1.elim
theorem pe_evDct : PE X (.Dict [] [] pos) (rdE X.K X.mg W mkDct) := PE.weak pe_dnewK fun σ H Q h => by
  obtain ⟨m, env, st, ho, so, h⟩ := h
  exact fun p hp => Out.dctK (Q := Q) h so .nil hp
variable {x : Str} {e : Expr} {p : Pos} {id T : String} {f : OpL}
theorem pe_evB (hc : CallR X (.builtin id) (rdOpL X.K X.mg f)) (hg : Gl X x) (hm : X.mg x = none) (hv : bootBuiltins x = some (.builtin id)) (ha : PA X (e :: es) (rdA X.K X.mg W fl)) (hn : x ≠ "__name__" := by decide) (hdb : (x == ("__debug__" : Str)) = false := by decide)
    (he : starEach (e :: es) X.env = (false, eval e X.env) :: starEach es X.env := by rfl) (hpl : (backTo pos (starEach es X.env)).any (·.1) = false := by rfl) : PE X (.Call (.Name x p) (e :: es) [] pos) (rdE X.K X.mg W (evL f fl)) :=
  PE.weak (pe_callB hc hg hm hv ha hn hdb he hpl) fun _ _ _ h => rdL h
theorem pe_evBT (hc : CallR X (.type T) (rdOpL X.K X.mg f)) (hg : Gl X x) (hm : X.mg x = none) (hv : bootBuiltins x = some (.type T)) (ha : PA X (e :: es) (rdA X.K X.mg W fl)) (hn : x ≠ "__name__" := by decide) (hdb : (x == ("__debug__" : Str)) = false := by decide)
    (he : starEach (e :: es) X.env = (false, eval e X.env) :: starEach es X.env := by rfl) (hpl : (backTo pos (starEach es X.env)).any (·.1) = false := by rfl) : PE X (.Call (.Name x p) (e :: es) [] pos) (rdE X.K X.mg W (evL f fl)) :=
  PE.weak (pe_callTy hc hg hm hv ha hn hdb he hpl) fun _ _ _ h => rdL h
theorem pe_evBF (hc : CallR X (.builtin id) (rdOpL X.K X.mg f)) (hg : Gl X x) (hm : X.mg x = some (.builtin id)) (ha : PA X (e :: es) (rdA X.K X.mg W fl)) (hdb : (x == ("__debug__" : Str)) = false := by decide)
    (he : starEach (e :: es) X.env = (false, eval e X.env) :: starEach es X.env := by rfl) (hpl : (backTo pos (starEach es X.env)).any (·.1) = false := by rfl) : PE X (.Call (.Name x p) (e :: es) [] pos) (rdE X.K X.mg W (evL f fl)) :=
  PE.weak (pe_callBfun hc hg hm ha hdb he hpl) fun _ _ _ h => rdL h
end
end PP
set_option Elab.async false
set_option linter.all false
set_option maxRecDepth 100000
set_option maxHeartbeats 2000000
/-! PP9: methods. -/
namespace PP
open PySem PySem.Spec PyProof.Rows L2

abbrev OpMt := D → List D → Store → Option (D × Store)
def isLst (d : D) (st : Store) : Bool := (lstD st d).isSome
def isStr (d : D) (_ : Store) : Bool := match d with
  | .str _ => true
  | _ => false
def isDct (d : D) (st : Store) : Bool := match d with
  | .ref l => match st[l]? with
    | some (_, .dct _) => true
    | _ => false
  | _ => false
def evM (ty : D → Store → Bool) (f : OpMt) (o : Ev D) (as : Ev (List D)) : Ev D := fun env st => (o env st).bind fun d st1 => if ty d st1 = true then (as env st1).bind fun ds st2 => .ofOpt (f d ds st2) else .stuck
def appendM : OpMt := fun d ds st => match d, ds with
  | .ref l, [v] => match st[l]? with
    | some (false, .lst xs) => if xs.length < sizeLine then some (.non, st.set l (false, .lst (xs ++ [v]))) else none
    | _ => none
  | _, _ => none
def extendM : OpMt := fun d ds st => match d, ds with
  | .ref l, [.ref k] => match st[l]?, st[k]? with
    | some (false, .lst xs), some (false, .lst ys) => if xs.length + ys.length ≤ sizeLine then some (.non, st.set l (false, .lst (xs ++ ys))) else none
    | _, _ => none
  | _, _ => none
def popM : OpMt := fun d ds st => match d, ds with
  | .ref l, [] => match st[l]? with
    | some (false, .lst xs) => (xs[xs.length - 1]?).map fun y => (y, st.set l (false, .lst xs.dropLast))
    | _ => none
  | _, _ => none
def popAtM : OpMt := fun d ds st => match d, ds with
  | .ref l, [.int i] => match st[l]? with
    | some (false, .lst xs) => if -(2 ^ 63) ≤ i ∧ i < 2 ^ 63 then (seqIndex? i xs.length).bind fun k => (xs[k]?).map fun y => (y, st.set l (false, .lst (xs.eraseIdx k))) else none
    | _ => none
  | _, _ => none
def insertM : OpMt := fun d ds st => match d, ds with
  | .ref l, [.int i, v] => match st[l]? with
    | some (false, .lst xs) => if xs.length < sizeLine ∧ 0 ≤ i ∧ i < 2 ^ 63 then some (.non, st.set l (false, .lst (xs.take i.toNat ++ [v] ++ xs.drop i.toNat))) else none
    | _ => none
  | _, _ => none
def joinM : OpMt := fun d ds st => match d, ds with
  | .str a, [e] => match (seqD st e).bind strsD with
    | some ys => if (ys.map (·.length)).sum + ys.length * a.length ≤ 16777216 then some (.str (Txt.join a ys), st) else none
    | none => none
  | _, _ => none
def splitM : OpMt := fun d ds st => match d, ds with
  | .str a, [.str b] => if (b.length == 0) = false ∧ a.length + 2 ≤ sizeLine then newL ((Txt.split a b).map D.str) st else none
  | _, _ => none
def startsM : OpMt := fun d ds st => match d, ds with
  | .str a, [.str b] => some (.bl (Txt.startswith a b), st)
  | _, _ => none
def endsM : OpMt := fun d ds st => match d, ds with
  | .str a, [.str b] => some (.bl (Txt.endswith a b), st)
  | _, _ => none
/-- d.get(k), d.get(k, e) -/
def evGet1 (o e : Ev D) : Ev D := fun env st => (o env st).bind fun d st1 => if isDct d st1 = true then (e env st1).bind fun k st2 => match lookD st2 d k with
  | some r => .ok (r.getD .non) st2
  | none => .stuck else .stuck
def evGet2 (o e x : Ev D) : Ev D := fun env st => (o env st).bind fun d st1 => if isDct d st1 = true then (e env st1).bind fun k st2 => (x env st2).bind fun z st3 => match lookD st3 d k with
  | some r => .ok (r.getD z) st3
  | none => .stuck else .stuck
def rdMt (K : PySem.W.Frag) (mg : Str → Option Value) (f : OpMt) : V → List V → Hp → VK → Prop := fun x xs H Q => ∃ m st d ds, StOk K mg m H st ∧ Rp K mg m H d x ∧ RpL K mg m H ds xs ∧ Out K mg (Rp K mg) m H (f d ds st) Q
section
variable {X : Cx} {W : WX}
theorem MtR.weak {id : String} {r r' : V → List V → Hp → VK → Prop} (h : MtR X id r) (i : ∀ x xs H Q, r' x xs H Q → r x xs H Q) : MtR X id r' := fun pins s σ H x xs v us Q I rx rs q => h pins s σ H x xs v us Q I rx rs (i _ _ _ _ q)
section
variable {m : List Addr} {H : Hp} {st : Store} {Q : VK}
/-- a list rewritten -/
theorem Out.wrote {l : Nat} {a : Addr} {xs ys : List V} {ds es : List D} {d : D} {v : V} (o : Out X.K X.mg (Rp X.K X.mg) m H (some (d, st.set l (false, .lst es))) Q) (so : StOk X.K X.mg m H st) (e : st[l]? = some (false, .lst ds)) (em : m[l]? = some a) (eH : H a = some (.lst xs))
    (r : RpL X.K X.mg m H es ys) (rv : Rp X.K X.mg m H d v) : Q v (upd H a (.lst ys)) := by
  have p : Pers H (upd H a (.lst ys)) := Pers.write eH (fun z => z)
  exact o m _ v (Pre.refl m) p (so.write e em p ⟨ys, RpL.mono (Pre.refl m) p _ _ r, upd_same⟩) (Rp.mono (Pre.refl m) p _ _ rv)
theorem lst_unlocked (so : StOk X.K X.mg m H st) {l : Nat} {a : Addr} {ds : List D} (e : st[l]? = some (false, .lst ds)) (em : m[l]? = some a) : ∃ xs, RpL X.K X.mg m H ds xs ∧ H a = some (.lst xs) := so.at_ l _ _ a e em
end
theorem RpL.dropLast {K : PySem.W.Frag} {mg : Str → Option Value} {m : List Addr} {H : Hp} {ds : List D} {xs : List V} (r : RpL K mg m H ds xs) : RpL K mg m H ds.dropLast xs.dropLast := by
  rw [List.dropLast_eq_take, List.dropLast_eq_take, r.length]
  exact r.take _
theorem RpL.eraseIdx {K : PySem.W.Frag} {mg : Str → Option Value} {m : List Addr} {H : Hp} {ds : List D} {xs : List V} (i : Nat) (r : RpL K mg m H ds xs) : RpL K mg m H (ds.eraseIdx i) (xs.eraseIdx i) := by
  rw [List.eraseIdx_eq_take_drop_succ, List.eraseIdx_eq_take_drop_succ]
  exact (r.take _).append (r.drop _)
theorem mt_appendM : MtR X "list.append" (rdMt X.K X.mg appendM) := MtR.weak (r := rAppend) mt_append fun x xs H Q h => by
  obtain ⟨m, st, d, ds, so, rd, rl, o⟩ := h
  unfold appendM at o
  split at o
  · rename_i l v
    obtain ⟨a, rfl, em⟩ := rd
    obtain ⟨w, rfl, rw'⟩ := rl.one
    split at o
    · rename_i ys e
      split at o
      · rename_i hl
        obtain ⟨zs, rz, eH⟩ := lst_unlocked so e em
        exact ⟨a, zs, w, rfl, rfl, eH, by rw [rz.length]; exact hl, o.wrote so e em eH (rz.append (.mk_cons rw' .mk_nil)) rfl⟩
      · exact o.elim
    · exact o.elim
  · exact o.elim
theorem mt_extendM : MtR X "list.extend" (rdMt X.K X.mg extendM) := MtR.weak (r := rExtend) mt_extend fun x xs H Q h => by
  obtain ⟨m, st, d, ds, so, rd, rl, o⟩ := h
  unfold extendM at o
  split at o
  · rename_i l k
    obtain ⟨a, rfl, em⟩ := rd
    obtain ⟨w, rfl, b, rfl, eb⟩ := rl.one
    split at o
    · rename_i ys zs e1 e2
      split at o
      · rename_i hl
        obtain ⟨us, ru, eH⟩ := lst_unlocked so e1 em
        obtain ⟨ws, rw', eH2⟩ := lst_unlocked so e2 eb
        exact ⟨a, b, us, ws, rfl, rfl, eH, eH2, by rw [ru.length, rw'.length]; exact hl, o.wrote so e1 em eH (ru.append rw') rfl⟩
      · exact o.elim
    · exact o.elim
  · exact o.elim
theorem mt_popM : MtR X "list.pop" (rdMt X.K X.mg popM) := MtR.weak (r := rPop) mt_pop fun x xs H Q h => by
  obtain ⟨m, st, d, ds, so, rd, rl, o⟩ := h
  unfold popM at o
  split at o
  · rename_i l
    obtain ⟨a, rfl, em⟩ := rd
    have e0 := rl.nil
    subst e0
    split at o
    · rename_i ys e
      obtain ⟨zs, rz, eH⟩ := lst_unlocked so e em
      cases ey : ys[ys.length - 1]? with
      | none => rw [ey] at o; exact o.elim
      | some y =>
        rw [ey] at o
        obtain ⟨w, ew, rw'⟩ := rz.get ey
        exact ⟨a, zs, w, rfl, rfl, eH, by rw [rz.length]; exact ew, Out.wrote (d := y) o so e em eH rz.dropLast rw'⟩
    · exact o.elim
  · exact o.elim
theorem mt_popAtM : MtR X "list.pop" (rdMt X.K X.mg popAtM) := MtR.weak (r := rPopAt) mt_popAt fun x xs H Q h => by
  obtain ⟨m, st, d, ds, so, rd, rl, o⟩ := h
  unfold popAtM at o
  split at o
  · rename_i l i
    obtain ⟨a, rfl, em⟩ := rd
    obtain ⟨w, rfl, rfl⟩ := rl.one
    split at o
    · rename_i ys e
      split at o
      · rename_i hi
        obtain ⟨zs, rz, eH⟩ := lst_unlocked so e em
        cases ek : seqIndex? i ys.length with
        | none => rw [ek] at o; exact o.elim
        | some k =>
          rw [ek] at o
          cases ey : ys[k]? with
          | none => simp only [Option.bind_some, ey] at o; exact o.elim
          | some y =>
            simp only [Option.bind_some, ey] at o
            obtain ⟨w, ew, rw'⟩ := rz.get ey
            exact ⟨a, zs, i, k, w, rfl, rfl, eH, hi.1, hi.2, by rw [rz.length]; exact ek, ew, Out.wrote (d := y) o so e em eH (rz.eraseIdx k) rw'⟩
      · exact o.elim
    · exact o.elim
  · exact o.elim
theorem mt_insertM : MtR X "list.insert" (rdMt X.K X.mg insertM) := MtR.weak mt_insert fun x xs H Q h => by
  obtain ⟨m, st, d, ds, so, rd, rl, o⟩ := h
  unfold insertM at o
  split at o
  · rename_i l i v
    obtain ⟨a, rfl, em⟩ := rd
    obtain ⟨w, y, rfl, rfl, ry⟩ := rl.two
    split at o
    · rename_i ys e
      split at o
      · rename_i hi
        obtain ⟨zs, rz, eH⟩ := lst_unlocked so e em
        exact ⟨a, zs, i, y, rfl, rfl, eH, by rw [rz.length]; exact hi.1, hi.2.1, hi.2.2, o.wrote so e em eH (((rz.take _).append (.mk_cons ry .mk_nil)).append (rz.drop _)) rfl⟩
      · exact o.elim
    · exact o.elim
  · exact o.elim
theorem mt_joinM : MtR X "str.join" (rdMt X.K X.mg joinM) := MtR.weak mt_join fun x xs H Q h => by
  obtain ⟨m, st, d, ds, so, rd, rl, o⟩ := h
  unfold joinM at o
  split at o
  · rename_i a e
    cases rd
    obtain ⟨w, rfl, rw'⟩ := rl.one
    split at o
    · rename_i ys ey
      split at o
      · rename_i hl
        obtain ⟨es, e1, e2⟩ := Option.bind_eq_some_iff.mp ey
        obtain ⟨p, zs, rfl, rz, sq⟩ := seqD_of so e1 rw'
        have e3 := strsD_of e2
        subst e3
        have e4 := rz.strs
        subst e4
        exact ⟨a, p, ys, rfl, rfl, sq, hl, o.here so rfl⟩
      · exact o.elim
    · exact o.elim
  · exact o.elim
theorem RpL.ofStrs {K : PySem.W.Frag} {mg : Str → Option Value} {m : List Addr} {H : Hp} : ∀ ys : List Str, RpL K mg m H (ys.map D.str) (ys.map V.str)
  | [] => rfl
  | y :: ys => ⟨_, _, rfl, rfl, RpL.ofStrs ys⟩
theorem mt_splitM : MtR X "str.split" (rdMt X.K X.mg splitM) := MtR.weak mt_split fun x xs H Q h => by
  obtain ⟨m, st, d, ds, so, rd, rl, o⟩ := h
  unfold splitM at o
  split at o
  · rename_i a b
    cases rd
    obtain ⟨w, rfl, rfl⟩ := rl.one
    split at o
    · rename_i hl
      exact ⟨a, b, rfl, rfl, hl.1, hl.2, fun p hp => o.lst so (RpL.ofStrs _) hp⟩
    · exact o.elim
  · exact o.elim
theorem mt_startsM : MtR X "str.startswith" (rdMt X.K X.mg startsM) := MtR.weak mt_startswith fun x xs H Q h => by
  obtain ⟨m, st, d, ds, so, rd, rl, o⟩ := h
  unfold startsM at o
  split at o
  · cases rd
    obtain ⟨w, rfl, rfl⟩ := rl.one
    exact ⟨_, _, rfl, rfl, o.here so rfl⟩
  · exact o.elim
theorem mt_endsM : MtR X "str.endswith" (rdMt X.K X.mg endsM) := MtR.weak mt_endswith fun x xs H Q h => by
  obtain ⟨m, st, d, ds, so, rd, rl, o⟩ := h
  unfold endsM at o
  split at o
  · cases rd
    obtain ⟨w, rfl, rfl⟩ := rl.one
    exact ⟨_, _, rfl, rfl, o.here so rfl⟩
  · exact o.elim
/-- the receiver is of its type -/
def TyOk (X : Cx) (ty : D → Store → Bool) (T : String) : Prop := ∀ m H st d v, StOk X.K X.mg m H st → Rp X.K X.mg m H d v → ty d st = true → tyV X.K T v H
theorem ty_lst : TyOk X isLst "list" := fun m H st d v so rd h => by
  obtain ⟨ds, e⟩ := Option.isSome_iff_exists.mp h
  obtain ⟨p, xs, rfl, _, sq⟩ := lstD_of so e rd
  exact .inl ⟨rfl, xs, sq⟩
theorem ty_str : TyOk X isStr "str" := fun m H st d v so rd h => by
  cases d with
  | str z => cases rd; exact rfl
  | _ => cases h
variable {o e : Expr} {es : List Expr} {name : Str} {apos cpos : Pos} {T id : String} {f : OpMt} {ty : D → Store → Bool} {fo : Ev D} {fl : Ev (List D)}
theorem pe_evM0 (hT : TyOk X ty T) (pa : PlainAttrs T) (slot : Slot T name id) (hty : typeOf (.builtin id) = pure (.type "method_descriptor")) (hm : MtR X id (rdMt X.K X.mg f)) (ho : PE X o (rdE X.K X.mg W fo))
    (hbase : attributeBase o name X.env (eval o X.env) = eval o X.env := by rfl) (hline : (apos.endLine == cpos.line) = true := by rfl) : PE X (.Call (.Attribute o name apos) [] [] cpos) (rdE X.K X.mg W (evM ty f fo evNil)) :=
  PE.weak (pe_bm0 pa slot hty hm ho hbase hline) fun σ H Q h => by
    obtain ⟨m, env, st, hv, so, h⟩ := h
    refine ⟨m, env, st, hv, so, (Fin.bind (R := Rp X.K X.mg) h).imp fun v H1 _ hv => ?_⟩
    obtain ⟨m1, st1, d, _, _, s1, r1, h1⟩ := hv
    split at h1
    · rename_i ht
      exact ⟨hT m1 H1 st1 d v s1 r1 ht, m1, st1, d, [], s1, r1, rfl, (show Fin X.K X.mg (Rp X.K X.mg) W σ m1 H1 (Res.ofOpt (f d [] st1)) Q from h1).out⟩
    · exact h1.elim
theorem pe_evM (hT : TyOk X ty T) (pa : PlainAttrs T) (slot : Slot T name id) (hty : typeOf (.builtin id) = pure (.type "method_descriptor")) (hm : MtR X id (rdMt X.K X.mg f)) (ho : PE X o (rdE X.K X.mg W fo)) (ha : PA X (e :: es) (rdA X.K X.mg W fl))
    (hbase : attributeBase o name X.env (eval o X.env) = eval o X.env := by rfl)
    (hfew : ((backTo cpos (starEach (e :: es) X.env)).all (fun x => !x.1) && (backToKw cpos (keywordEach [] X.env)).all (fun x => x.1.isSome)
      && decide ((e :: es).length + ([] : List Keyword).length + (if ([] : List Keyword).isEmpty then 0 else 1) < 30)) = true := by rfl)
    (hline : (apos.endLine == cpos.line) = true := by rfl) (hs : starEach (e :: es) X.env = (false, eval e X.env) :: starEach es X.env := by rfl) (hplain : (backTo cpos (starEach es X.env)).any (·.1) = false := by rfl) :
    PE X (.Call (.Attribute o name apos) (e :: es) [] cpos) (rdE X.K X.mg W (evM ty f fo fl)) :=
  PE.weak (pe_bm pa slot hty hm ho ha hbase hfew hline hs hplain) fun σ H Q h => by
    obtain ⟨m, env, st, hv0, so, h⟩ := h
    refine ⟨m, env, st, hv0, so, (Fin.bind (R := Rp X.K X.mg) h).imp fun v H1 p1 hv => ?_⟩
    obtain ⟨m1, st1, d, pm, _, s1, r1, h1⟩ := hv
    split at h1
    · rename_i ht
      refine ⟨hT m1 H1 st1 d v s1 r1 ht, m1, env, st1, hv0.mono pm p1, s1, (Fin.bind (R := RpL X.K X.mg) h1).imp fun vs H2 p2 hv => ?_⟩
      obtain ⟨m2, st2, ds, pm2, _, s2, r2, h2⟩ := hv
      exact ⟨m2, st2, d, ds, s2, Rp.mono pm2 p2 _ _ r1, r2, h2.out⟩
    · exact h1.elim
theorem isD_of {m : List Addr} {H : Hp} {st : Store} {d : D} {v : V} (so : StOk X.K X.mg m H st) (rd : Rp X.K X.mg m H d v) (h : isDct d st = true) : ∃ a, v = .ref a ∧ IsD H a := by
  cases d with
  | ref l =>
    obtain ⟨a, rfl, em⟩ := rd
    simp only [isDct] at h
    split at h
    · rename_i lk kvs e
      rcases so.at_ l _ _ a e em with ⟨kv', _, c⟩ | ⟨kv', _, c⟩
      · exact ⟨a, rfl, .inl ⟨_, c.rd⟩⟩
      · exact ⟨a, rfl, .inr ⟨_, c.rd⟩⟩
    · cases h
  | _ => cases h
variable {fe fx : Ev D} {x : Expr}
theorem getD_rp {m : List Addr} {H : Hp} {r : Option D} {ov : Option V} {z : D} {zv : V} (ro : RO (K := X.K) (mg := X.mg) m H r ov) (rz : Rp X.K X.mg m H z zv) : Rp X.K X.mg m H (r.getD z) (ov.getD zv) := by
  cases r <;> cases ov <;> first | exact rz | exact ro | exact ro.elim
theorem pe_evGet1 (hu : X.A.units + 1 < cLine) (ho : PE X o (rdE X.K X.mg W fo)) (he : PE X e (rdE X.K X.mg W fe)) (mm : M1 X o "get" apos e cpos) : PE X (.Call (.Attribute o "get" apos) [e] [] cpos) (rdE X.K X.mg W (evGet1 fo fe)) := ⟨fun pins s σ H Q I h => by
  obtain ⟨m, env, st, hv0, so, h⟩ := h
  refine wpAny_Call_method mm.base mm.few mm.line PySem.F.plainAttrs_dict PySem.F.slot_dict_get PySem.F.type_dict_get (thn (ho.run pins s σ H _ I ⟨m, env, st, hv0, so, (Fin.bind (R := Rp X.K X.mg) h).imp fun v H1 p1 q => And.intro p1 q⟩) fun u s1 hh => ?_)
  obtain ⟨xv, H1, I1, rx, p1, m1, st1, d, pm, _, s2, r1, h1⟩ := hh
  split at h1
  · rename_i hd
    obtain ⟨a, rfl, isd⟩ := isD_of s2 r1 hd
    obtain rfl : u = Value.ref a := rx
    obtain ⟨t1, t2, _⟩ := isD_at I1 isd
    refine ⟨t1, t2, ?_⟩
    rw [mm.trees]
    refine Calls.callWith_builtin rfl (Calls.evalArgs_plain (Calls.spliced_cons (thn (he.run pins s1 σ H1 _ I1 ⟨m1, env, st1, hv0.mono pm p1, s2, (Fin.bind (R := Rp X.K X.mg) h1).imp fun v H1 p1 q => And.intro p1 q⟩) fun iv s3 hh => Calls.spliced_nil ?_)))
    obtain ⟨y, H2, I2, ry, p2, m2, st2, k, pm2, _, s4, r2, h2⟩ := hh
    split at h2
    · rename_i r el
      obtain ⟨a', H3, ov, ea, I3, s5, p3, g, _, ro⟩ := look_at I2 s4 (Rp.mono pm2 p2 _ _ r1) r2 el
      cases ea
      exact d_get1 hu I3 g ry fun w' s6 I6 rw' => ⟨_, H3, I6, rw', h2 m2 H3 _ (Pre.refl _) p3 s5 (getD_rp (z := .non) (zv := .non) ro rfl)⟩
    · exact h2.elim
  · exact h1.elim⟩
theorem pe_evGet2 (hu : X.A.units + 1 < cLine) (ho : PE X o (rdE X.K X.mg W fo)) (he : PE X e (rdE X.K X.mg W fe)) (hx : PE X x (rdE X.K X.mg W fx)) (mm : M2 X o "get" apos e x cpos) : PE X (.Call (.Attribute o "get" apos) [e, x] [] cpos) (rdE X.K X.mg W (evGet2 fo fe fx)) := ⟨fun pins s σ H Q I h => by
  obtain ⟨m, env, st, hv0, so, h⟩ := h
  refine wpAny_Call_method mm.base mm.few mm.line PySem.F.plainAttrs_dict PySem.F.slot_dict_get PySem.F.type_dict_get (thn (ho.run pins s σ H _ I ⟨m, env, st, hv0, so, (Fin.bind (R := Rp X.K X.mg) h).imp fun v H1 p1 q => And.intro p1 q⟩) fun u s1 hh => ?_)
  obtain ⟨xv, H1, I1, rx, p1, m1, st1, d, pm, _, s2, r1, h1⟩ := hh
  split at h1
  · rename_i hd
    obtain ⟨a, rfl, isd⟩ := isD_of s2 r1 hd
    obtain rfl : u = Value.ref a := rx
    obtain ⟨t1, t2, _⟩ := isD_at I1 isd
    refine ⟨t1, t2, ?_⟩
    rw [mm.trees]
    refine Calls.callWith_builtin rfl (Calls.evalArgs_plain (Calls.spliced_cons (thn (he.run pins s1 σ H1 _ I1 ⟨m1, env, st1, hv0.mono pm p1, s2, (Fin.bind (R := Rp X.K X.mg) h1).imp fun v H1 p1 q => And.intro p1 q⟩) fun iv s3 hh => ?_)))
    obtain ⟨y, H2, I2, ry, p2, m2, st2, k, pm2, _, s4, r2, h2⟩ := hh
    refine Calls.spliced_cons (thn (hx.run pins s3 σ H2 _ I2 ⟨m2, env, st2, (hv0.mono pm p1).mono pm2 p2, s4, (Fin.bind (R := Rp X.K X.mg) h2).imp fun v H1 p1 q => And.intro p1 q⟩) fun xw s5 hh => Calls.spliced_nil ?_)
    obtain ⟨z, H3, I3, rz, p3, m3, st3, dz, pm3, _, s6, r3, h3⟩ := hh
    split at h3
    · rename_i r el
      obtain ⟨a', H4, ov, ea, I4, s7, p4, g, _, ro⟩ := look_at I3 s6 (Rp.mono pm3 p3 _ _ (Rp.mono pm2 p2 _ _ r1)) (Rp.mono pm3 p3 _ _ r2) el
      cases ea
      exact d_get2 hu I4 g ry rz fun w' s8 I8 rw' => ⟨_, H4, I8, rw', h3 m3 H4 _ (Pre.refl _) p4 s7 (getD_rp ro (Rp.mono (Pre.refl _) p4 _ _ r3))⟩
    · exact h3.elim
  · exact h1.elim⟩
end
end PP
set_option Elab.async false
set_option linter.all false
set_option maxRecDepth 100000
set_option maxHeartbeats 2000000
/-! PP10: targets, comprehensions. -/
namespace PP
open PySem PySem.Spec PyProof.Rows L2

/-! ### targets -/
abbrev Tgt := D → EnvD → Option EnvD
abbrev Tgts := List D → EnvD → Option EnvD
def tgN (i : Nat) : Tgt := fun d env => some (env.set i (some d))
def tgsNil : Tgts := fun ds env => match ds with
  | [] => some env
  | _ => none
def tgsCons (t : Tgt) (u : Tgts) : Tgts := fun ds env => match ds with
  | d :: r => (t d env).bind fun env1 => u r env1
  | [] => none
def tgT (n : Nat) (t : Tgts) : Tgt := fun d env => match d with
  | .tup _ ds => if ds.length = n then t ds env else none
  | _ => none
theorem wipe_at {σ : L2.St} : ∀ {vs : List Nat} {j : Nat}, (wipe σ vs)[j]? = if j ∈ vs then (σ[j]?).map (fun _ => none) else σ[j]?
  | [], j => by simp [wipe]
  | v :: vs, j => by
    unfold wipe
    by_cases hv : v = j
    · subst hv
      rw [if_pos List.mem_cons_self]
      by_cases hl : v < σ.length
      · rw [List.getElem?_set_self (by rw [wipe_length]; exact hl), List.getElem?_eq_getElem hl]; rfl
      · rw [List.getElem?_eq_none (by rw [List.length_set, wipe_length]; omega), List.getElem?_eq_none (by omega)]; rfl
    · rw [List.getElem?_set_ne hv, wipe_at]
      by_cases hm : j ∈ vs
      · rw [if_pos hm, if_pos (List.mem_cons_of_mem _ hm)]
      · rw [if_neg hm, if_neg (fun z => (List.mem_cons.mp z).elim (fun q => hv q.symm) hm)]
theorem wipe_set {σ : L2.St} {vs : List Nat} {i : Nat} {x : Option V} (h : i ∈ vs) : wipe (σ.set i x) vs = wipe σ vs := by
  apply List.ext_getElem?
  intro j
  rw [wipe_at, wipe_at]
  by_cases hj : j ∈ vs
  · rw [if_pos hj, if_pos hj]
    by_cases hi : i = j
    · subst hi
      by_cases hl : i < σ.length
      · rw [List.getElem?_set_self hl, List.getElem?_eq_getElem hl]; rfl
      · rw [List.getElem?_eq_none (by rw [List.length_set]; omega), List.getElem?_eq_none (by omega)]
    · rw [List.getElem?_set_ne hi]
  · rw [if_neg hj, if_neg hj]
    rw [List.getElem?_set_ne (fun z => hj (by rw [← z]; exact h))]
theorem wipe_wipe {σ : L2.St} {vs : List Nat} : wipe (wipe σ vs) vs = wipe σ vs := by
  apply List.ext_getElem?
  intro j
  rw [wipe_at, wipe_at]
  by_cases hj : j ∈ vs
  · rw [if_pos hj, if_pos hj]; cases σ[j]? <;> rfl
  · rw [if_neg hj, if_neg hj]
/-- a target that stores into the slots sl alone -/
def rdTg (K : PySem.W.Frag) (mg : Str → Option Value) (sl : List Nat) (f : Tgt) : TG := fun v σ H Q => ∃ m env d env', EnvOk K mg m H env σ ∧ Rp K mg m H d v ∧ f d env = some env' ∧
  ∀ σ', EnvOk K mg m H env' σ' → (∀ vs : List Nat, (∀ i ∈ sl, i ∈ vs) → wipe σ' vs = wipe σ vs) → Q σ' H
def rdTgs (K : PySem.W.Frag) (mg : Str → Option Value) (sl : List Nat) (f : Tgts) : TGs := fun v σ H Q => ∃ m env d env', EnvOk K mg m H env σ ∧ RpL K mg m H d v ∧ f d env = some env' ∧
  ∀ σ', EnvOk K mg m H env' σ' → (∀ vs : List Nat, (∀ i ∈ sl, i ∈ vs) → wipe σ' vs = wipe σ vs) → Q σ' H
section
variable {X : Cx} {pos : Pos}
theorem PG.weak {e : Expr} {t t' : TG} (h : PG X e t) (i : ∀ v σ H Q, t' v σ H Q → t v σ H Q) : PG X e t' := ⟨fun pins s σ H v u Q I r q => h.run pins s σ H v u Q I r (i v σ H Q q)⟩
theorem PGs.weak {e : List Expr} {t t' : TGs} (h : PGs X e t) (i : ∀ v σ H Q, t' v σ H Q → t v σ H Q) : PGs X e t' := ⟨fun pins s σ H v u Q I r q => h.run pins s σ H v u Q I r (i v σ H Q q)⟩
theorem pg_tgN {i : Nat} {x : Str} (hN : X.N.Nodup) (hi : X.N[i]? = some x) (hx : Loc X.env.scope x) (hf : X.fn x = true ∨ X.env.scope.names.lookup x = some .local := by first | exact .inl rfl | exact .inr rfl | assumption) : PG X (.Name x pos) (rdTg X.K X.mg [i] (tgN i)) :=
  PG.weak (pg_name hN hi hx hf) fun v σ H Q h => by
    obtain ⟨m, env, d, env', ho, rd, e, h⟩ := h
    cases e
    exact h _ (ho.set rd) fun vs hv => wipe_set (hv i List.mem_cons_self)
theorem pgs_tgNil : PGs X [] (rdTgs X.K X.mg [] tgsNil) := PGs.weak pgs_nil fun v σ H Q h => by
  obtain ⟨m, env, d, env', ho, rd, e, h⟩ := h
  cases d with
  | nil => cases e; exact ⟨rd.nil, h _ ho fun _ _ => rfl⟩
  | cons d r => cases e
theorem pgs_tgCons {e : Expr} {es : List Expr} {sl sls : List Nat} {t : Tgt} {u : Tgts} (h1 : PG X e (rdTg X.K X.mg sl t)) (h2 : PGs X es (rdTgs X.K X.mg sls u))
    (hs : (assignEach (e :: es) X.env).map (·.2) = assign e X.env :: (assignEach es X.env).map (·.2) := by rfl) : PGs X (e :: es) (rdTgs X.K X.mg (sl ++ sls) (tgsCons t u)) := PGs.weak (pgs_cons h1 h2 hs) fun v σ H Q h => by
  obtain ⟨m, env, d, env', ho, rd, e, h⟩ := h
  cases d with
  | nil => cases e
  | cons d r =>
    obtain ⟨x, xs, rfl, r1, r2⟩ := rd
    obtain ⟨env1, e1, e2⟩ := Option.bind_eq_some_iff.mp e
    refine ⟨x, xs, rfl, m, env, d, env1, ho, r1, e1, fun σ1 ho1 w1 => ⟨m, env1, r, env', ho1, r2, e2, fun σ2 ho2 w2 => h σ2 ho2 fun vs hv => ?_⟩⟩
    rw [w2 vs fun i hi => hv i (List.mem_append_right _ hi), w1 vs fun i hi => hv i (List.mem_append_left _ hi)]
theorem pg_tgT {es : List Expr} {k : Nat} {sl : List Nat} {t : Tgts} {n : Nat} (hc : X.calm = true) (h : PGs X es (rdTgs X.K X.mg sl t))
    (hn : (assignEach es X.env).length = n := by rfl) (hst : (assignEach es X.env).findIdx? (·.1) = none := by rfl) : PG X (.Tuple es k pos) (rdTg X.K X.mg sl (tgT n t)) := PG.weak (pg_tup hc h hn hst) fun v σ H Q h => by
  obtain ⟨m, env, d, env', ho, rd, e, h⟩ := h
  cases d with
  | tup b ds =>
    obtain ⟨a, xs, rfl, ta, rl⟩ := rd
    simp only [tgT] at e
    split at e
    · rename_i hl
      exact ⟨a, xs, rfl, ta.sq, by rw [rl.length]; exact hl, m, env, ds, env', ho, rl, e, h⟩
    · cases e
  | _ => cases e
end

/-! ### comprehensions -/
def fuelF : Nat := 16777300
/-- one turn's place: an item more at l -/
def pushAt (l : Nat) (y : D) (st : Store) : Option Store := match st[l]? with
  | some (false, .lst acc) => if acc.length < sizeLine then some (st.set l (false, .lst (acc ++ [y]))) else none
  | _ => none
def lcLoop (g : Src) (tg : Tgt) (env : EnvD) (tt : Ev Bool) (te : Ev D) (l : Nat) : Nat → Nat → Store → Res D
  | 0, _, _ => .stuck
  | n + 1, i, st => match g i st with
    | none => .stuck
    | some none => .ok (.ref l) st
    | some (some d) => match tg d env with
      | none => .stuck
      | some env1 => match tt env1 st with
        | .ok b st2 => if b = true then match te env1 st2 with
          | .ok y st3 => match pushAt l y st3 with
            | some st4 => lcLoop g tg env tt te l n (i + 1) st4
            | none => .stuck
          | _ => .stuck else lcLoop g tg env tt te l n (i + 1) st2
        | _ => .stuck
def evLc (src : Ev Src) (tg : Tgt) (vs : List Nat) (tt : Ev Bool) (te : Ev D) : Ev D := fun env st => (src env st).bind fun g st1 => lcLoop g tg (wipeD env vs) tt te st1.length fuelF 0 (st1 ++ [(false, .lst [])])
/-- no exception is let out -/
abbrev WN : WX := fun _ _ _ _ => False
section
variable {X : Cx} {W : WX}
theorem pushAt_of {K : PySem.W.Frag} {mg : Str → Option Value} {m : List Addr} {H : Hp} {st st4 : Store} {l : Nat} {a : Addr} {y : D} {v : V} (so : StOk K mg m H st) (em : m[l]? = some a) (r : Rp K mg m H y v) (h : pushAt l y st = some st4) :
    ∃ acc, H a = some (.lst acc) ∧ acc.length < sizeLine ∧ StOk K mg m (upd H a (.lst (acc ++ [v]))) st4 ∧ Pers H (upd H a (.lst (acc ++ [v]))) := by
  unfold pushAt at h
  split at h
  · rename_i ds e
    split at h
    · rename_i hl
      cases h
      obtain ⟨xs, rx, eH⟩ := (show CellOk K mg m H a false (.lst ds) from so.at_ l _ _ a e em)
      have eH : H a = some (.lst xs) := eH
      have p : Pers H (upd H a (.lst (xs ++ [v]))) := Pers.write eH (fun z => z)
      exact ⟨xs, eH, by rw [rx.length]; exact hl, so.write e em p ⟨_, RpL.mono (Pre.refl m) p _ _ (rx.append (.mk_cons r .mk_nil)), upd_same⟩, p⟩
    · cases h
  · cases h
theorem rd_lc {src : Ev Src} {tg : Tgt} {sl vs : List Nat} {tt : Ev Bool} {te : Ev D} {σ : L2.St} {H : Hp} {Q : VK} (hsl : ∀ i ∈ sl, i ∈ vs) (h : rdE X.K X.mg W (evLc src tg vs tt te) σ H Q) :
    tLc (rdI X.K X.mg W src) (rdTg X.K X.mg sl tg) (rdT X.K X.mg WN tt) (rdE X.K X.mg WN te) vs σ H Q := by
  obtain ⟨m, env, st, ho, so, h⟩ := h
  refine ⟨m, env, st, ho, so, (Fin.bind (R := SrcOk X.K X.mg) h).imp fun J H1 p1 hv => ?_⟩
  obtain ⟨m1, st1, g, pm1, _, s1, sg, h1⟩ := hv
  intro D hD
  have pD : Pers H1 (upd H1 D (.lst [])) := Pers.new hD
  have sD : StOk X.K X.mg (m1 ++ [D]) (upd H1 D (.lst [])) (st1 ++ [(false, .lst [])]) := s1.snoc hD ⟨[], rfl, upd_same⟩
  have eD : (m1 ++ [D])[st1.length]? = some D := Pre.last s1.len
  refine ⟨fun i n H => ∃ mm st2, Pre (m1 ++ [D]) mm ∧ Pers (upd H1 D (.lst [])) H ∧ StOk X.K X.mg mm H st2 ∧ Fin X.K X.mg (Rp X.K X.mg) W σ mm H (lcLoop g tg (wipeD env vs) tt te st1.length n i st2) Q,
    ⟨fuelF, m1 ++ [D], _, Pre.refl _, Pers.refl _, sD, Fin.mono (Pre.snoc m1 D) pD h1⟩, ?_⟩
  rintro i n H2 ⟨mm, st2, pm, p, s2, hf⟩
  obtain ⟨go, stop⟩ := sg i mm H2 st2 ((Pre.snoc m1 D).trans pm) (pD.trans p) s2
  cases n with
  | zero => exact hf.elim
  | succ n =>
    unfold lcLoop at hf
    split at hf
    · exact hf.elim
    · rename_i eg
      exact .inl ⟨stop eg, hf mm H2 _ (Pre.refl _) (Pers.refl _) s2 ⟨D, rfl, pm _ _ eD⟩⟩
    · rename_i d eg
      obtain ⟨jg, jy⟩ := go d eg
      refine .inr ⟨jg, fun H3 => ∃ mm st3, Pre (m1 ++ [D]) mm ∧ Pers (upd H1 D (.lst [])) H3 ∧ StOk X.K X.mg mm H3 st3 ∧ Fin X.K X.mg (Rp X.K X.mg) W σ mm H3 (lcLoop g tg (wipeD env vs) tt te st1.length n (i + 1) st3) Q, fun H3 h3 => ⟨n, Nat.lt_succ_self n, h3⟩, fun x H3 hy => ?_⟩
      obtain ⟨p3, s3, r3⟩ := jy x H3 hy
      split at hf
      · exact hf.elim
      · rename_i env1 et
        have ho3 : EnvOk X.K X.mg mm H3 (wipeD env vs) (wipe σ vs) := ((((ho.mono pm1 p1).mono (Pre.snoc m1 D) pD).mono pm p).mono (Pre.refl _) p3).wipe vs
        refine ⟨mm, wipeD env vs, d, env1, ho3, r3, et, fun σ2 ho4 hw => ⟨(hw vs hsl).trans wipe_wipe, mm, env1, st2, ho4, s3, ?_⟩⟩
        split at hf
        · rename_i b st4 eb
          rw [eb]
          intro m5 H5 b5 pm5 p5 s5 rb
          cases (show b = b5 from rb)
          by_cases hb : b = true
          · subst hb
            rw [if_pos rfl] at hf ⊢
            split at hf
            · rename_i y st6 ey
              refine ⟨m5, env1, st4, ho4.mono pm5 p5, s5, ?_⟩
              rw [ey]
              intro m7 H7 y7 pm7 p7 s7 r7
              split at hf
              · rename_i st8 e8
                have em7 : m7[st1.length]? = some D := pm7 _ _ (pm5 _ _ (pm _ _ eD))
                obtain ⟨acc, eH, hl, s8, p8⟩ := pushAt_of s7 em7 r7 e8
                refine ⟨acc, eH, hl, m7, st8, (pm.trans pm5).trans pm7, (((p.trans p3).trans p5).trans p7).trans p8, s8, ?_⟩
                exact Fin.mono (pm5.trans pm7) (((p3.trans p5).trans p7).trans p8) hf
              · exact hf.elim
            · exact hf.elim
          · rw [if_neg hb] at hf ⊢
            exact ⟨m5, st4, pm.trans pm5, (p.trans p3).trans p5, s5, Fin.mono pm5 (p3.trans p5) hf⟩
        · exact hf.elim
theorem pts_evNil : PTs X [] (rdT X.K X.mg WN tyes) := ⟨fun pins s σ H Q I h => by
  obtain ⟨m, env, st, ho, so, h⟩ := h
  exact pts_nil.run pins s σ H Q I (h m H true (Pre.refl _) (Pers.refl _) so rfl)⟩
abbrev BlkE (X : Cx) (scope : Scope) (e : Expr) (f : Ev D) : Prop := ∀ (s : Shared) (H : Hp) (C : Addr) (cl : List (Str × Addr)) (fp : List Addr), PE (X.blk s H scope (compEnvC scope cl C X.env) fp) e (rdE X.K X.mg WN f)
abbrev BlkG (X : Cx) (scope : Scope) (e : Expr) (sl : List Nat) (f : Tgt) : Prop := ∀ (s : Shared) (H : Hp) (C : Addr) (cl : List (Str × Addr)) (fp : List Addr), PG (X.blk s H scope (compEnvC scope cl C X.env) fp) e (rdTg X.K X.mg sl f)
abbrev BlkT (X : Cx) (scope : Scope) (e : List Expr) (f : Ev Bool) : Prop := ∀ (s : Shared) (H : Hp) (C : Addr) (cl : List (Str × Addr)) (fp : List Addr), PTs (X.blk s H scope (compEnvC scope cl C X.env) fp) e (rdT X.K X.mg WN f)
abbrev BlkI (X : Cx) (scope : Scope) (tg e : Expr) (f : Ev Src) : Prop := ∀ (s : Shared) (H : Hp) (C : Addr) (cl : List (Str × Addr)) (fp : List Addr), PI (X.blk s H scope (compEnvC scope cl C X.env) fp) tg e (rdI X.K X.mg WN f)
variable {elt tg iter : Expr} {ifs : List Expr} {scope : Scope} {own : List (Str × Nat)} {pos : Pos} {src : Ev Src} {tgt : Tgt} {sl : List Nat} {tt : Ev Bool} {te : Ev D}
theorem pe_evLc (hc : X.calm = true) (hN : X.N.Nodup) (hi : PI X tg iter (rdI X.K X.mg W src)) (ok : blkC X.N X.env.scope scope own = true) (hsl : sl.all (fun i => (own.map (·.2)).contains i) = true) (hg : BlkG X scope tg sl tgt) (ht : BlkT X scope ifs tt) (he : BlkE X scope elt te)
    (hs : ∀ x, foldedSetIterable iter X.env x = pure x := by intro _; rfl) : PE X (.ListComp elt [⟨tg, iter, ifs, 0⟩] scope pos) (rdE X.K X.mg W (evLc src tgt (own.map (·.2)) tt te)) :=
  PE.weak (pe_lc hc hN hi (blkOk_by ok) hg ht he hs) fun _ _ _ h => rd_lc (fun i hi => List.contains_iff_mem.mp (List.all_eq_true.mp hsl i hi)) h

/-! ### two clauses -/
/-- the inner loop: what becomes of the store -/
def lcIn (g : Src) (tg : Tgt) (env : EnvD) (tt : Ev Bool) (te : Ev D) (l : Nat) : Nat → Nat → Store → Option Store
  | 0, _, _ => none
  | n + 1, i, st => match g i st with
    | none => none
    | some none => some st
    | some (some d) => match tg d env with
      | none => none
      | some env1 => match tt env1 st with
        | .ok b st2 => if b = true then match te env1 st2 with
          | .ok y st3 => match pushAt l y st3 with
            | some st4 => lcIn g tg env tt te l n (i + 1) st4
            | none => none
          | _ => none else lcIn g tg env tt te l n (i + 1) st2
        | _ => none
def lcOut (g : Src) (tg : Tgt) (env : EnvD) (tt : Ev Bool) (src1 : Ev Src) (tg1 : Tgt) (vs1 : List Nat) (tt1 : Ev Bool) (te : Ev D) (l : Nat) : Nat → Nat → Store → Res D
  | 0, _, _ => .stuck
  | n + 1, i, st => match g i st with
    | none => .stuck
    | some none => .ok (.ref l) st
    | some (some d) => match tg d env with
      | none => .stuck
      | some env1 => match tt env1 st with
        | .ok b st2 => if b = true then match src1 env1 st2 with
          | .ok g1 st3 => match lcIn g1 tg1 (wipeD env1 vs1) tt1 te l fuelF 0 st3 with
            | some st4 => lcOut g tg env tt src1 tg1 vs1 tt1 te l n (i + 1) st4
            | none => .stuck
          | _ => .stuck else lcOut g tg env tt src1 tg1 vs1 tt1 te l n (i + 1) st2
        | _ => .stuck
def evLc2 (src : Ev Src) (tg : Tgt) (vs : List Nat) (tt : Ev Bool) (src1 : Ev Src) (tg1 : Tgt) (vs1 : List Nat) (tt1 : Ev Bool) (te : Ev D) : Ev D :=
  fun env st => (src env st).bind fun g st1 => lcOut g tg (wipeD env vs) tt src1 tg1 vs1 tt1 te st1.length fuelF 0 (st1 ++ [(false, .lst [])])
theorem rd_lc2 {src src1 : Ev Src} {tg tg1 : Tgt} {sl sl1 vs vs1 : List Nat} {tt tt1 : Ev Bool} {te : Ev D} {σ : L2.St} {H : Hp} {Q : VK} (hsl : ∀ i ∈ sl, i ∈ vs) (hsl1 : ∀ i ∈ sl1, i ∈ vs1) (h : rdE X.K X.mg W (evLc2 src tg vs tt src1 tg1 vs1 tt1 te) σ H Q) :
    tLc2 (rdI X.K X.mg W src) (rdTg X.K X.mg sl tg) (rdT X.K X.mg WN tt) (rdI X.K X.mg WN src1) (rdTg X.K X.mg sl1 tg1) (rdT X.K X.mg WN tt1) (rdE X.K X.mg WN te) vs vs1 σ H Q := by
  obtain ⟨m, env, st, ho, so, h⟩ := h
  refine ⟨m, env, st, ho, so, (Fin.bind (R := SrcOk X.K X.mg) h).imp fun J H1 p1 hv => ?_⟩
  obtain ⟨m1, st1, g, pm1, _, s1, sg, h1⟩ := hv
  intro D hD
  have pD : Pers H1 (upd H1 D (.lst [])) := Pers.new hD
  have sD : StOk X.K X.mg (m1 ++ [D]) (upd H1 D (.lst [])) (st1 ++ [(false, .lst [])]) := s1.snoc hD ⟨[], rfl, upd_same⟩
  have eD : (m1 ++ [D])[st1.length]? = some D := Pre.last s1.len
  refine ⟨fun i n H => ∃ mm st2, Pre (m1 ++ [D]) mm ∧ Pers (upd H1 D (.lst [])) H ∧ StOk X.K X.mg mm H st2 ∧ Fin X.K X.mg (Rp X.K X.mg) W σ mm H (lcOut g tg (wipeD env vs) tt src1 tg1 vs1 tt1 te st1.length n i st2) Q,
    ⟨fuelF, m1 ++ [D], _, Pre.refl _, Pers.refl _, sD, Fin.mono (Pre.snoc m1 D) pD h1⟩, ?_⟩
  rintro i n H2 ⟨mm, st2, pm, p, s2, hf⟩
  obtain ⟨go, stop⟩ := sg i mm H2 st2 ((Pre.snoc m1 D).trans pm) (pD.trans p) s2
  cases n with
  | zero => exact hf.elim
  | succ n =>
    unfold lcOut at hf
    split at hf
    · exact hf.elim
    · rename_i eg
      exact .inl ⟨stop eg, hf mm H2 _ (Pre.refl _) (Pers.refl _) s2 ⟨D, rfl, pm _ _ eD⟩⟩
    · rename_i d eg
      obtain ⟨jg, jy⟩ := go d eg
      refine .inr ⟨jg, fun H3 => ∃ mm st3, Pre (m1 ++ [D]) mm ∧ Pers (upd H1 D (.lst [])) H3 ∧ StOk X.K X.mg mm H3 st3 ∧ Fin X.K X.mg (Rp X.K X.mg) W σ mm H3 (lcOut g tg (wipeD env vs) tt src1 tg1 vs1 tt1 te st1.length n (i + 1) st3) Q, fun H3 h3 => ⟨n, Nat.lt_succ_self n, h3⟩, fun x H3 hy => ?_⟩
      obtain ⟨p3, s3, r3⟩ := jy x H3 hy
      split at hf
      · exact hf.elim
      · rename_i env1 et
        have ho3 : EnvOk X.K X.mg mm H3 (wipeD env vs) (wipe σ vs) := ((((ho.mono pm1 p1).mono (Pre.snoc m1 D) pD).mono pm p).mono (Pre.refl _) p3).wipe vs
        refine ⟨mm, wipeD env vs, d, env1, ho3, r3, et, fun σ2 ho4 hw => ⟨(hw vs hsl).trans wipe_wipe, mm, env1, st2, ho4, s3, ?_⟩⟩
        split at hf
        · rename_i b st4 eb
          rw [eb]
          intro m5 H5 b5 pm5 p5 s5 rb
          cases (show b = b5 from rb)
          by_cases hb : b = true
          · subst hb
            rw [if_pos rfl] at hf ⊢
            split at hf
            · rename_i g1 st6 e6
              refine ⟨m5, env1, st4, ho4.mono pm5 p5, s5, ?_⟩
              rw [e6]
              intro m7 H7 J1 pm7 p7 s7 sg1
              split at hf
              · rename_i st8 e8
                -- the inner loop
                refine ⟨fun j k H => ∃ mk st9, Pre m7 mk ∧ Pers H7 H ∧ StOk X.K X.mg mk H st9 ∧ lcIn g1 tg1 (wipeD env1 vs1) tt1 te st1.length k j st9 = some st8, ⟨fuelF, m7, st6, Pre.refl _, Pers.refl _, s7, e8⟩, ?_⟩
                rintro j k H9 ⟨mk, st9, pm9, p9, s9, hk⟩
                obtain ⟨go1, stop1⟩ := sg1 j mk H9 st9 pm9 p9 s9
                have pmA : Pre (m1 ++ [D]) mk := ((pm.trans pm5).trans pm7).trans pm9
                have pA : Pers (upd H1 D (.lst [])) H9 := (((p.trans p3).trans p5).trans p7).trans p9
                cases k with
                | zero => cases hk
                | succ k =>
                  unfold lcIn at hk
                  split at hk
                  · cases hk
                  · rename_i eg1
                    cases hk
                    exact .inl ⟨stop1 eg1, mk, st8, pmA, pA, s9, Fin.mono ((pm5.trans pm7).trans pm9) (((p3.trans p5).trans p7).trans p9) hf⟩
                  · rename_i d1 eg1
                    obtain ⟨jg1, jy1⟩ := go1 d1 eg1
                    refine .inr ⟨jg1, fun H10 => ∃ mk st10, Pre m7 mk ∧ Pers H7 H10 ∧ StOk X.K X.mg mk H10 st10 ∧ lcIn g1 tg1 (wipeD env1 vs1) tt1 te st1.length k (j + 1) st10 = some st8, fun H10 h10 => ⟨k, Nat.lt_succ_self k, h10⟩, fun x1 H10 hy1 => ?_⟩
                    obtain ⟨p10, s10, r10⟩ := jy1 x1 H10 hy1
                    split at hk
                    · cases hk
                    · rename_i env2 et2
                      have ho5 : EnvOk X.K X.mg mk H10 (wipeD env1 vs1) (wipe σ2 vs1) := (((ho4.mono pm5 p5).mono pm7 p7).mono pm9 (p9.trans p10)).wipe vs1
                      refine ⟨mk, wipeD env1 vs1, d1, env2, ho5, r10, et2, fun σ3 ho6 hw3 => ⟨(hw3 vs1 hsl1).trans wipe_wipe, mk, env2, st9, ho6, s10, ?_⟩⟩
                      split at hk
                      · rename_i b2 st11 eb2
                        rw [eb2]
                        intro m12 H12 b12 pm12 p12 s12 rb2
                        cases (show b2 = b12 from rb2)
                        by_cases hb2 : b2 = true
                        · subst hb2
                          rw [if_pos rfl] at hk ⊢
                          split at hk
                          · rename_i y st13 ey
                            refine ⟨m12, env2, st11, ho6.mono pm12 p12, s12, ?_⟩
                            rw [ey]
                            intro m14 H14 y14 pm14 p14 s14 r14
                            split at hk
                            · rename_i st15 e15
                              have em : m14[st1.length]? = some D := pm14 _ _ (pm12 _ _ (pmA _ _ eD))
                              obtain ⟨acc, eH, hl, s16, p16⟩ := pushAt_of s14 em r14 e15
                              exact ⟨acc, eH, hl, m14, st15, (pm9.trans pm12).trans pm14, (((p9.trans p10).trans p12).trans p14).trans p16, s16, hk⟩
                            · cases hk
                          · cases hk
                        · rw [if_neg hb2] at hk ⊢
                          exact ⟨m12, st11, pm9.trans pm12, (p9.trans p10).trans p12, s12, hk⟩
                      · cases hk
              · exact hf.elim
            · exact hf.elim
          · rw [if_neg hb] at hf ⊢
            exact ⟨m5, st4, pm.trans pm5, (p.trans p3).trans p5, s5, Fin.mono pm5 (p3.trans p5) hf⟩
        · exact hf.elim
variable {tg1 iter1 : Expr} {ifs1 : List Expr} {src1 : Ev Src} {tgt1 : Tgt} {sl1 vs1 : List Nat} {tt1 : Ev Bool}
theorem pe_evLc2 (hc : X.calm = true) (hN : X.N.Nodup) (hi : PI X tg iter (rdI X.K X.mg W src)) (ok : blkC X.N X.env.scope scope own = true) (hsl : sl.all (fun i => (own.map (·.2)).contains i) = true) (hv : vs1.all (fun i => (own.map (·.2)).contains i) = true) (hsl1 : sl1.all (fun i => vs1.contains i) = true)
    (hg : BlkG X scope tg sl tgt) (ht : BlkT X scope ifs tt) (hi1 : BlkI X scope tg1 iter1 src1) (hg1 : BlkG X scope tg1 sl1 tgt1) (ht1 : BlkT X scope ifs1 tt1) (he : BlkE X scope elt te)
    (hs : ∀ x, foldedSetIterable iter X.env x = pure x := by intro _; rfl) (hs1 : ∀ env x, foldedSetIterable iter1 env x = pure x := by intro _ _; rfl) : PE X (.ListComp elt [⟨tg, iter, ifs, 0⟩, ⟨tg1, iter1, ifs1, 0⟩] scope pos) (rdE X.K X.mg W (evLc2 src tgt (own.map (·.2)) tt src1 tgt1 vs1 tt1 te)) :=
  PE.weak (pe_lc2 hc hN hi (blkOk_by ok) (fun i hi => List.contains_iff_mem.mp (List.all_eq_true.mp hv i hi)) hg ht hi1 hg1 ht1 he hs hs1) fun _ _ _ h => rd_lc2 (fun i hi => List.contains_iff_mem.mp (List.all_eq_true.mp hsl i hi)) (fun i hi => List.contains_iff_mem.mp (List.all_eq_true.mp hsl1 i hi)) h

/-! ### dict comprehensions: keys that are ints or texts -/
def dcPut (l : Nat) (k v : D) (st : Store) : Option Store := match st[l]? with
  | some (false, .dcK kvs) => if isK k = true ∧ kvs.length < sizeLine then some (st.set l (false, .dcK (dput kvs k v))) else none
  | _ => none
def dcEnd (l : Nat) (st : Store) : Res D := match st[l]? with
  | some (false, .dcK kvs) => .ok (.ref l) (st.set l (false, .dct kvs))
  | _ => .stuck
def dcLoop (g : Src) (tg : Tgt) (env : EnvD) (tt : Ev Bool) (tk te : Ev D) (l : Nat) : Nat → Nat → Store → Res D
  | 0, _, _ => .stuck
  | n + 1, i, st => match g i st with
    | none => .stuck
    | some none => dcEnd l st
    | some (some d) => match tg d env with
      | none => .stuck
      | some env1 => match tt env1 st with
        | .ok b st2 => if b = true then match tk env1 st2 with
          | .ok k st3 => match te env1 st3 with
            | .ok y st4 => match dcPut l k y st4 with
              | some st5 => dcLoop g tg env tt tk te l n (i + 1) st5
              | none => .stuck
            | _ => .stuck
          | _ => .stuck else dcLoop g tg env tt tk te l n (i + 1) st2
        | _ => .stuck
def evDc (src : Ev Src) (tg : Tgt) (vs : List Nat) (tt : Ev Bool) (tk te : Ev D) : Ev D := fun env st => (src env st).bind fun g st1 => dcLoop g tg (wipeD env vs) tt tk te st1.length fuelF 0 (st1 ++ [(false, .dcK [])])
theorem set_self {st : Store} {l : Nat} {x : Bool × Cell} (h : l < st.length) : (st.set l x)[l]? = some x := List.getElem?_set_self h
theorem dcPut_of {K : PySem.W.Frag} {mg : Str → Option Value} {m : List Addr} {H : Hp} {st st4 : Store} {l : Nat} {a : Addr} {k y : D} {kv v : V} (so : StOk K mg m H st) (em : m[l]? = some a) (rk : Rp K mg m H k kv) (r : Rp K mg m H y v) (h : dcPut l k y st = some st4) :
    ∃ kvs k', kv = kV k' ∧ H a = some (.dK kvs) ∧ kvs.length < sizeLine ∧ StOk K mg m (upd H a (.dK (putK kvs k' v))) st4 ∧ Pers H (upd H a (.dK (putK kvs k' v))) := by
  unfold dcPut at h
  split at h
  · rename_i ds e
    split at h
    · rename_i hl
      cases h
      obtain ⟨k', rfl⟩ := isK_of hl.1
      obtain ⟨xs, rx, eH⟩ := (show CellOk K mg m H a false (.dcK ds) from so.at_ l _ _ a e em)
      have eH : H a = some (.dK xs) := eH
      have p : Pers H (upd H a (.dK (putK xs k' v))) := Pers.write eH (fun z => z)
      exact ⟨xs, k', Rp_kD.mp rk, eH, by rw [← rx.length]; exact hl.2, so.write e em p ⟨_, (Kvs.put keq_fK k' r rx).mono (Pre.refl m) p, upd_same⟩, p⟩
    · cases h
  · cases h
theorem rd_dc {src : Ev Src} {tg : Tgt} {sl vs : List Nat} {tt : Ev Bool} {tk te : Ev D} {σ : L2.St} {H : Hp} {Q : VK} (hsl : ∀ i ∈ sl, i ∈ vs) (h : rdE X.K X.mg W (evDc src tg vs tt tk te) σ H Q) :
    tDc (rdI X.K X.mg W src) (rdTg X.K X.mg sl tg) (rdT X.K X.mg WN tt) (rdE X.K X.mg WN tk) (rdE X.K X.mg WN te) vs σ H Q := by
  obtain ⟨m, env, st, ho, so, h⟩ := h
  refine ⟨m, env, st, ho, so, (Fin.bind (R := SrcOk X.K X.mg) h).imp fun J H1 p1 hv => ?_⟩
  obtain ⟨m1, st1, g, pm1, _, s1, sg, h1⟩ := hv
  intro D hD
  have pD : Pers H1 (upd H1 D (.dK [])) := Pers.new hD
  have sD : StOk X.K X.mg (m1 ++ [D]) (upd H1 D (.dK [])) (st1 ++ [(false, .dcK [])]) := s1.snoc hD ⟨[], .nil, upd_same⟩
  have eD : (m1 ++ [D])[st1.length]? = some D := Pre.last s1.len
  refine ⟨fun i n H => ∃ mm st2, Pre (m1 ++ [D]) mm ∧ Pers (upd H1 D (.dK [])) H ∧ StOk X.K X.mg mm H st2 ∧ Fin X.K X.mg (Rp X.K X.mg) W σ mm H (dcLoop g tg (wipeD env vs) tt tk te st1.length n i st2) Q,
    ⟨fuelF, m1 ++ [D], _, Pre.refl _, Pers.refl _, sD, Fin.mono (Pre.snoc m1 D) pD h1⟩, ?_⟩
  rintro i n H2 ⟨mm, st2, pm, p, s2, hf⟩
  obtain ⟨go, stop⟩ := sg i mm H2 st2 ((Pre.snoc m1 D).trans pm) (pD.trans p) s2
  cases n with
  | zero => exact hf.elim
  | succ n =>
    unfold dcLoop at hf
    split at hf
    · exact hf.elim
    · rename_i eg
      unfold dcEnd at hf
      split at hf
      · rename_i kvs ek
        obtain ⟨xs, rx, eH⟩ := (show CellOk X.K X.mg mm H2 D false (.dcK kvs) from s2.at_ _ _ _ D ek (pm _ _ eD))
        have eH : H2 D = some (.dK xs) := eH
        have s3 : StOk X.K X.mg mm H2 (st2.set st1.length (false, .dct kvs)) := by
          have q := s2.write (o := .dK xs) (c' := .dct kvs) (lk' := false) ek (pm _ _ eD) (by rw [show upd H2 D (.dK xs) = H2 from funext fun b => by by_cases hb : b = D <;> simp [upd, hb, eH]]; exact Pers.refl _) (.inl ⟨xs, rx.mono (Pre.refl _) (by rw [show upd H2 D (.dK xs) = H2 from funext fun b => by by_cases hb : b = D <;> simp [upd, hb, eH]]; exact Pers.refl _), upd_same⟩)
          rw [show upd H2 D (.dK xs) = H2 from funext fun b => by by_cases hb : b = D <;> simp [upd, hb, eH]] at q
          exact q
        exact .inl ⟨stop eg, hf mm H2 _ (Pre.refl _) (Pers.refl _) s3 ⟨D, rfl, pm _ _ eD⟩⟩
      · exact hf.elim
    · rename_i d eg
      obtain ⟨jg, jy⟩ := go d eg
      refine .inr ⟨jg, fun H3 => ∃ mm st3, Pre (m1 ++ [D]) mm ∧ Pers (upd H1 D (.dK [])) H3 ∧ StOk X.K X.mg mm H3 st3 ∧ Fin X.K X.mg (Rp X.K X.mg) W σ mm H3 (dcLoop g tg (wipeD env vs) tt tk te st1.length n (i + 1) st3) Q, fun H3 h3 => ⟨n, Nat.lt_succ_self n, h3⟩, fun x H3 hy => ?_⟩
      obtain ⟨p3, s3, r3⟩ := jy x H3 hy
      split at hf
      · exact hf.elim
      · rename_i env1 et
        have ho3 : EnvOk X.K X.mg mm H3 (wipeD env vs) (wipe σ vs) := ((((ho.mono pm1 p1).mono (Pre.snoc m1 D) pD).mono pm p).mono (Pre.refl _) p3).wipe vs
        refine ⟨mm, wipeD env vs, d, env1, ho3, r3, et, fun σ2 ho4 hw => ⟨(hw vs hsl).trans wipe_wipe, mm, env1, st2, ho4, s3, ?_⟩⟩
        split at hf
        · rename_i b st4 eb
          rw [eb]
          intro m5 H5 b5 pm5 p5 s5 rb
          cases (show b = b5 from rb)
          by_cases hb : b = true
          · subst hb
            rw [if_pos rfl] at hf ⊢
            split at hf
            · rename_i k st6 ek
              refine ⟨m5, env1, st4, ho4.mono pm5 p5, s5, ?_⟩
              rw [ek]
              intro m7 H7 k7 pm7 p7 s7 r7
              split at hf
              · rename_i y st8 ey
                refine ⟨m7, env1, st6, (ho4.mono pm5 p5).mono pm7 p7, s7, ?_⟩
                rw [ey]
                intro m9 H9 y9 pm9 p9 s9 r9
                split at hf
                · rename_i st10 e10
                  have em : m9[st1.length]? = some D := pm9 _ _ (pm7 _ _ (pm5 _ _ (pm _ _ eD)))
                  obtain ⟨kvs, k', ek', eH, hl, s11, p11⟩ := dcPut_of s9 em (Rp.mono pm9 p9 _ _ r7) r9 e10
                  exact ⟨kvs, k', ek', eH, hl, m9, st10, ((pm.trans pm5).trans pm7).trans pm9, ((((p.trans p3).trans p5).trans p7).trans p9).trans p11, s11, Fin.mono ((pm5.trans pm7).trans pm9) ((((p3.trans p5).trans p7).trans p9).trans p11) hf⟩
                · exact hf.elim
              · exact hf.elim
            · exact hf.elim
          · rw [if_neg hb] at hf ⊢
            exact ⟨m5, st4, pm.trans pm5, (p.trans p3).trans p5, s5, Fin.mono pm5 (p3.trans p5) hf⟩
        · exact hf.elim
variable {kx vx : Expr} {tk : Ev D}
theorem pe_evDc (hc : X.calm = true) (hN : X.N.Nodup) (hi : PI X tg iter (rdI X.K X.mg W src)) (ok : blkC X.N X.env.scope scope own = true) (hsl : sl.all (fun i => (own.map (·.2)).contains i) = true) (hg : BlkG X scope tg sl tgt) (ht : BlkT X scope ifs tt) (hk : BlkE X scope kx tk) (he : BlkE X scope vx te)
    (hs : ∀ x, foldedSetIterable iter X.env x = pure x := by intro _; rfl) : PE X (.DictComp kx vx [⟨tg, iter, ifs, 0⟩] scope pos) (rdE X.K X.mg W (evDc src tgt (own.map (·.2)) tt tk te)) :=
  PE.weak (pe_dc hc hN hi (blkOk_by ok) hg ht hk he hs) fun _ _ _ h => rd_dc (fun i hi => List.contains_iff_mem.mp (List.all_eq_true.mp hsl i hi)) h
end
end PP
set_option Elab.async false
set_option linter.all false
set_option maxRecDepth 100000
set_option maxHeartbeats 2000000
/-! PP11: statements. -/
namespace PP
open PySem PySem.Spec PyProof.Rows L2

inductive Flw where
  | nx (env : EnvD) | rt (d : D) | bk (env : EnvD) | ct (env : EnvD)
inductive ResS where
  | fl (f : Flw) (st : Store)
  | er (c : Str) (fs : List (Str × D)) (env : EnvD) (st : Store)
  | stuck
abbrev Ss := EnvD → Store → ResS
def ofE {α : Type} (env : EnvD) (r : Res α) (k : α → Store → ResS) : ResS := match r with
  | .ok a st => k a st
  | .err c fs st => .er c fs env st
  | .stuck => .stuck
def sNext : Ss := fun env st => .fl (.nx env) st
def sBrk : Ss := fun env st => .fl (.bk env) st
def sCont : Ss := fun env st => .fl (.ct env) st
def sSeq (f g : Ss) : Ss := fun env st => match f env st with
  | .fl (.nx e) s => g e s
  | r => r
def sSet (i : Nat) (f : Ev D) : Ss := fun env st => ofE env (f env st) fun d s => .fl (.nx (env.set i (some d))) s
def sTg (t : Tgt) (f : Ev D) : Ss := fun env st => ofE env (f env st) fun d s => match t d env with
  | some e => .fl (.nx e) s
  | none => .stuck
/-- a, b = x, y (both sides written) -/
def sPar (i j : Nat) (f : Ev (List D)) : Ss := fun env st => ofE env (f env st) fun ds s => match ds with
  | [d, e] => .fl (.nx ((env.set i (some d)).set j (some e))) s
  | _ => .stuck
def sSub (put : OpS) (o i v : Ev D) : Ss := fun env st => ofE env (v env st) fun x s1 => ofE env (o env s1) fun d s2 => ofE env (i env s2) fun k s3 => match put d k x s3 with
  | some s4 => .fl (.nx env) s4
  | none => .stuck
def sAug (i : Nat) (op : Op2) (f : Ev D) : Ss := fun env st => match env[i]? with
  | some (some d) => ofE env (f env st) fun e s => match op d e s with
    | some (r, s1) => .fl (.nx (env.set i (some r))) s1
    | none => .stuck
  | _ => .stuck
def sExpr (f : Ev D) : Ss := fun env st => ofE env (f env st) fun _ s => .fl (.nx env) s
def sRet (f : Ev D) : Ss := fun env st => ofE env (f env st) fun d s => .fl (.rt d) s
def sRetN : Ss := fun _ st => .fl (.rt .non) st
def sIf (c : Ev Bool) (f g : Ss) : Ss := fun env st => ofE env (c env st) fun b s => if b = true then f env s else g env s
def forE (g : Src) (tg : Tgt) (body : Ss) : Nat → Nat → Ss
  | 0, _ => fun _ _ => .stuck
  | n + 1, i => fun env st => match g i st with
    | none => .stuck
    | some none => .fl (.nx env) st
    | some (some d) => match tg d env with
      | none => .stuck
      | some env1 => match body env1 st with
        | .fl (.nx e) s => forE g tg body n (i + 1) e s
        | .fl (.ct e) s => forE g tg body n (i + 1) e s
        | .fl (.bk e) s => .fl (.nx e) s
        | r => r
def sFor (src : Ev Src) (tg : Tgt) (body : Ss) : Ss := fun env st => ofE env (src env st) fun g s => forE g tg body fuelF 0 env s
def whileE (c : Ev Bool) (body : Ss) : Nat → Ss
  | 0 => fun _ _ => .stuck
  | n + 1 => fun env st => ofE env (c env st) fun b s => if b = true then match body env s with
      | .fl (.nx e) s => whileE c body n e s
      | .fl (.ct e) s => whileE c body n e s
      | .fl (.bk e) s => .fl (.nx e) s
      | r => r else .fl (.nx env) s
def fuelW : Nat := 1000000000
def sWhile (c : Ev Bool) (body : Ss) : Ss := whileE c body fuelW

section
variable (K : PySem.W.Frag) (mg : Str → Option Value)
def FlOk (D : Ends) (m : List Addr) (H : Hp) : Flw → Prop
  | .nx env => ∀ σ, EnvOk K mg m H env σ → D.nx σ H
  | .rt d => ∀ v, Rp K mg m H d v → D.rt v H
  | .bk env => ∀ σ, EnvOk K mg m H env σ → D.bk σ H
  | .ct env => ∀ σ, EnvOk K mg m H env σ → D.ct σ H
def FinS (W : WX) (D : Ends) (m : List Addr) (H : Hp) : ResS → Prop
  | .fl f st => ∀ m' H', Pre m m' → Pers H H' → StOk K mg m' H' st → FlOk K mg D m' H' f
  | .er c fs env st => ∀ m' H' σ cls dd, Pre m m' → Pers H H' → StOk K mg m' H' st → EnvOk K mg m' H' env σ → ExOk K mg m' H' c fs cls dd → W cls dd σ H'
  | .stuck => False
def rdS (W : WX) (f : Ss) : TS := fun D σ H => ∃ m env st, EnvOk K mg m H env σ ∧ StOk K mg m H st ∧ FinS K mg W D m H (f env st)
variable {K mg}
variable {W : WX} {D : Ends} {m m1 : List Addr} {H H1 : Hp} {σ : L2.St}
theorem FinS.mono {r : ResS} (pm : Pre m m1) (p : Pers H H1) (h : FinS K mg W D m H r) : FinS K mg W D m1 H1 r := by
  cases r with
  | fl f st => exact fun m' H' a1 a2 => h m' H' (pm.trans a1) (p.trans a2)
  | er c fs env st => exact fun m' H' σ cls dd a1 a2 => h m' H' σ cls dd (pm.trans a1) (p.trans a2)
  | stuck => exact h
/-- an expression, then the rest -/
theorem FinS.ofE {α β : Type} {R : RL α β} {env : EnvD} {r : Res α} {k : α → Store → ResS} (ho : EnvOk K mg m H env σ) (h : FinS K mg W D m H (PP.ofE env r k)) :
    Fin K mg R W σ m H r (fun y H1 => ∃ m1 st1 a, Pre m m1 ∧ Pers H H1 ∧ StOk K mg m1 H1 st1 ∧ R m1 H1 a y ∧ FinS K mg W D m1 H1 (k a st1)) := by
  cases r with
  | ok a st => exact fun m' H' v a1 a2 a3 a4 => ⟨m', st, a, a1, a2, a3, a4, FinS.mono a1 a2 h⟩
  | err c fs st => exact fun m' H' cls dd a1 a2 a3 a4 => h m' H' σ cls dd a1 a2 a3 (ho.mono a1 a2) a4
  | stuck => exact h
theorem FinS.here {f : Flw} {st : Store} (h : FinS K mg W D m H (.fl f st)) (so : StOk K mg m H st) : FlOk K mg D m H f := h m H (Pre.refl m) (Pers.refl H) so
end
section
variable {X : Cx} {W : WX} {pos : Pos} {e : Expr} {f : Ev D}
theorem ps_sNext {st : Stmt} (h : PS X st tNext) : PS X st (rdS X.K X.mg W sNext) := PS.weak h fun D σ H h => by
  obtain ⟨m, env, st, ho, so, h⟩ := h
  exact h.here so σ ho
theorem ps_sPass : PS X (.Pass pos) (rdS X.K X.mg W sNext) := ps_sNext ps_pass
theorem ps_sDoc {x j pos'} : PS X (.Expr (.Constant (.str x) j pos) pos') (rdS X.K X.mg W sNext) := ps_sNext ps_doc
theorem ps_sBrk : PS X (.Break pos) (rdS X.K X.mg W sBrk) := PS.weak ps_break fun D σ H h => by
  obtain ⟨m, env, st, ho, so, h⟩ := h
  exact h.here so σ ho
theorem ps_sCont : PS X (.Continue pos) (rdS X.K X.mg W sCont) := PS.weak ps_continue fun D σ H h => by
  obtain ⟨m, env, st, ho, so, h⟩ := h
  exact h.here so σ ho
theorem pss_sNil : PSs X [] (rdS X.K X.mg W sNext) := PSs.weak pss_nil fun D σ H h => by
  obtain ⟨m, env, st, ho, so, h⟩ := h
  exact h.here so σ ho
theorem rd_seq {f g : Ss} {D : Ends} {σ : L2.St} {H : Hp} (h : rdS X.K X.mg W (sSeq f g) D σ H) : tSeq (rdS X.K X.mg W f) (rdS X.K X.mg W g) D σ H := by
  obtain ⟨m, env, st, ho, so, h⟩ := h
  refine ⟨m, env, st, ho, so, ?_⟩
  unfold sSeq at h
  split at h
  · rename_i e s ef
    rw [ef]
    exact fun m' H' a1 a2 a3 σ' ho' => ⟨m', e, s, ho', a3, FinS.mono a1 a2 h⟩
  · rename_i ef
    cases r : f env st with
    | fl fl s =>
      rw [r] at h ef
      cases fl with
      | nx e => exact absurd rfl (ef e s)
      | rt d => exact h
      | bk e => exact h
      | ct e => exact h
    | er c fs e s => rw [r] at h; exact h
    | stuck => rw [r] at h; exact h
theorem pss_sSeq {st : Stmt} {rest : List Stmt} {f g : Ss} (h1 : PS X st (rdS X.K X.mg W f)) (h2 : PSs X rest (rdS X.K X.mg W g)) : PSs X (st :: rest) (rdS X.K X.mg W (sSeq f g)) := PSs.weak (pss_cons h1 h2) fun _ _ _ h => rd_seq h
theorem pss_sOne {st : Stmt} {f : Ss} (h1 : PS X st (rdS X.K X.mg W f)) : PSs X [st] (rdS X.K X.mg W f) := pss_one h1
theorem rd_asg {f : Ev D} {g : TG} {k : D → EnvD → Store → ResS} {D : Ends} {σ : L2.St} {H : Hp} (hk : ∀ m env d v st H, EnvOk X.K X.mg m H env σ → StOk X.K X.mg m H st → Rp X.K X.mg m H d v → FinS X.K X.mg W D m H (k d env st) → g v σ H D.nx)
    (h : rdS X.K X.mg W (fun env st => ofE env (f env st) fun d s => k d env s) D σ H) : tAsg (rdE X.K X.mg W f) g D σ H := by
  obtain ⟨m, env, st, ho, so, h⟩ := h
  refine ⟨m, env, st, ho, so, (FinS.ofE (R := Rp X.K X.mg) ho h).imp fun v H1 p hv => ?_⟩
  obtain ⟨m1, st1, d, pm, _, s1, r1, h1⟩ := hv
  exact hk m1 env d v st1 H1 (ho.mono pm p) s1 r1 h1
theorem rd_sSet {i : Nat} {D : Ends} {σ : L2.St} {H : Hp} (h : rdS X.K X.mg W (sSet i f) D σ H) : tAsg (rdE X.K X.mg W f) (gName i) D σ H :=
  rd_asg (k := fun d env s => .fl (.nx (env.set i (some d))) s) (fun m env d v st H ho so r h => h.here so _ (ho.set r)) h
theorem ps_sSet {i : Nat} {x : Str} {pos' : Pos} (hN : X.N.Nodup) (hi : X.N[i]? = some x) (hx : Loc X.env.scope x) (he : PE X e (rdE X.K X.mg W f)) (hs : swapsWith e (some (.Name x pos')) pos.line X.env = pure false := by rfl) (hf : X.fn x = true ∨ X.env.scope.names.lookup x = some .local := by first | exact .inl rfl | exact .inr rfl | assumption) :
    PS X (.Assign [.Name x pos'] e pos) (rdS X.K X.mg W (sSet i f)) := PS.weak (ps_set hN hi hx he hs hf) fun _ _ _ h => rd_sSet h
theorem rd_sTg {sl : List Nat} {t : Tgt} {D : Ends} {σ : L2.St} {H : Hp} (h : rdS X.K X.mg W (sTg t f) D σ H) : tAsg (rdE X.K X.mg W f) (rdTg X.K X.mg sl t) D σ H :=
  rd_asg (k := fun d env s => match t d env with
    | some e => .fl (.nx e) s
    | none => .stuck) (fun m env d v st H ho so r h => by
      split at h
      · rename_i env1 e1
        exact ⟨m, env, d, env1, ho, r, e1, fun σ' ho' _ => h.here so σ' ho'⟩
      · exact h.elim) h
theorem ps_sTg {tg : Expr} {sl : List Nat} {t : Tgt} (he : PE X e (rdE X.K X.mg W f)) (hg : PG X tg (rdTg X.K X.mg sl t)) (hs : swapsWithSole [tg] e pos.line X.env = pure false := by rfl) (hw : swappedStores [tg] e X.env = pure none := by rfl)
    (h1 : (assignEach [tg] X.env).map (·.2) = [assign tg X.env] := by rfl) : PS X (.Assign [tg] e pos) (rdS X.K X.mg W (sTg t f)) := PS.weak (ps_asg he hg hs hw h1) fun _ _ _ h => rd_sTg h
theorem ps_sPar {i j : Nat} {x y : Str} {a b : Expr} {fl : Ev (List D)} {px py pt : Pos} {kt k2 pt2} (hc : X.calm = true) (hN : X.N.Nodup) (hi : X.N[i]? = some x) (hj : X.N[j]? = some y) (hij : i ≠ j)
    (hx : X.env.scope.names.lookup x = some .local) (hy : X.env.scope.names.lookup y = some .local) (ha : PA X [a, b] (rdA X.K X.mg W fl))
    (hw : swappedStores [.Tuple [.Name x px, .Name y py] kt pt] (.Tuple [a, b] k2 pt2) X.env = pure (some [x, y]))
    (hs : swapsWithSole [.Tuple [.Name x px, .Name y py] kt pt] (.Tuple [a, b] k2 pt2) pos.line X.env = pure false := by rfl) :
    PS X (.Assign [.Tuple [.Name x px, .Name y py] kt pt] (.Tuple [a, b] k2 pt2) pos) (rdS X.K X.mg W (sPar i j fl)) := PS.weak (ps_par hc hN hi hj hij hx hy ha hw hs) fun D σ H h => by
  obtain ⟨m, env, st, ho, so, h⟩ := h
  refine ⟨m, env, st, ho, so, (FinS.ofE (R := RpL X.K X.mg) ho h).imp fun vs H1 p hv => ?_⟩
  obtain ⟨m1, st1, ds, pm, _, s1, r1, h1⟩ := hv
  split at h1
  · rename_i d e
    obtain ⟨v, w, rfl, rv, rw'⟩ := r1.two
    exact ⟨v, w, rfl, h1.here s1 _ (((ho.mono pm p).set rv).set rw')⟩
  · exact h1.elim
theorem ps_sSub {o i : Expr} {fo fi fv : Ev D} {put : OpS} {pos' : Pos} (hset : PSet X (rdSet X.K X.mg put)) (ho : PE X o (rdE X.K X.mg W fo)) (hi : PE X i (rdE X.K X.mg W fi)) (hv : PE X e (rdE X.K X.mg W fv))
    (ha : ∀ v, assign (.Subscript o i pos') X.env v = (do
      let ov ← holding [v] (eval o X.env)
      let iv ← holding [v, ov] (eval i X.env)
      standAt pos'
      holding [v, ov, iv] (setItem ov iv v)
      release [v, ov, iv] []) := by intro _; rfl)
    (hs : swapsWithSole [.Subscript o i pos'] e pos.line X.env = pure false := by rfl) (hw : swappedStores [.Subscript o i pos'] e X.env = pure none := by rfl)
    (h1 : (assignEach [.Subscript o i pos'] X.env).map (·.2) = [assign (.Subscript o i pos') X.env] := by rfl) : PS X (.Assign [.Subscript o i pos'] e pos) (rdS X.K X.mg W (sSub put fo fi fv)) :=
  PS.weak (ps_asg hv (pg_sub ho hi hset ha) hs hw h1) fun D σ H h => by
    obtain ⟨m, env, st, hv0, so, h⟩ := h
    refine ⟨m, env, st, hv0, so, (FinS.ofE (R := Rp X.K X.mg) hv0 h).imp fun v H1 p hv => ?_⟩
    obtain ⟨m1, st1, d1, pm, _, s1, r1, h1⟩ := hv
    have hv1 := hv0.mono pm p
    refine ⟨m1, env, st1, hv1, s1, (FinS.ofE (R := Rp X.K X.mg) hv1 h1).imp fun o H2 p2 hv => ?_⟩
    obtain ⟨m2, st2, d2, pm2, _, s2, r2, h2⟩ := hv
    have hv2 := hv1.mono pm2 p2
    refine ⟨m2, env, st2, hv2, s2, (FinS.ofE (R := Rp X.K X.mg) hv2 h2).imp fun k H3 p3 hv => ?_⟩
    obtain ⟨m3, st3, d3, pm3, _, s3, r3, h3⟩ := hv
    split at h3
    · rename_i st4 e4
      exact ⟨m3, st3, d2, d3, d1, s3, Rp.mono pm3 p3 _ _ r2, r3, Rp.mono pm3 p3 _ _ (Rp.mono pm2 p2 _ _ r1), st4, e4, fun H4 p4 s4 => h3 m3 H4 (Pre.refl _) p4 s4 σ ((hv2.mono pm3 p3).mono (Pre.refl _) p4)⟩
    · exact h3.elim
theorem ps_sAug {i : Nat} {x : Str} {op : Operator} {g : Op2} {pos' : Pos} (hN : X.N.Nodup) (hi : X.N[i]? = some x) (hx : Loc X.env.scope x) (he : PE X e (rdE X.K X.mg W f)) (hop : PIp X op (rdOp2 X.K X.mg g)) (hf : X.fn x = true ∨ X.env.scope.names.lookup x = some .local := by first | exact .inl rfl | exact .inr rfl | assumption) :
    PS X (.AugAssign (.Name x pos') op e pos) (rdS X.K X.mg W (sAug i g f)) := PS.weak (ps_aug hN hi hx he hop hf) fun D σ H h => by
  obtain ⟨m, env, st, ho, so, h⟩ := h
  unfold sAug at h
  split at h
  · rename_i d ed
    obtain ⟨v, ev, rv⟩ := ho.at_ i d ed
    refine ⟨v, ev, m, env, st, ho, so, (FinS.ofE (R := Rp X.K X.mg) ho h).imp fun w H1 p hv => ?_⟩
    obtain ⟨m1, st1, d1, pm, _, s1, r1, h1⟩ := hv
    refine ⟨m1, st1, d, d1, s1, Rp.mono pm p _ _ rv, r1, ?_⟩
    cases eg : g d d1 st1 with
    | none => rw [eg] at h1; exact h1.elim
    | some q =>
      obtain ⟨r, st2⟩ := q
      rw [eg] at h1
      exact fun m' H' z a1 a2 a3 a4 => h1 m' H' a1 a2 a3 _ (((ho.mono pm p).mono a1 a2).set a4)
  · exact h.elim
theorem ps_sExpr (he : PE X e (rdE X.K X.mg W f)) (hs : swapsWith e none pos.line X.env = pure false := by rfl) : PS X (.Expr e pos) (rdS X.K X.mg W (sExpr f)) := PS.weak (ps_expr he hs) fun D σ H h => by
  obtain ⟨m, env, st, ho, so, h⟩ := h
  refine ⟨m, env, st, ho, so, (FinS.ofE (R := Rp X.K X.mg) ho h).imp fun w H1 p hv => ?_⟩
  obtain ⟨m1, st1, d1, pm, _, s1, r1, h1⟩ := hv
  exact h1.here s1 σ (ho.mono pm p)
theorem ps_sRet (he : PE X e (rdE X.K X.mg W f)) : PS X (.Return (some e) pos) (rdS X.K X.mg W (sRet f)) := PS.weak (ps_ret he) fun D σ H h => by
  obtain ⟨m, env, st, ho, so, h⟩ := h
  refine ⟨m, env, st, ho, so, (FinS.ofE (R := Rp X.K X.mg) ho h).imp fun w H1 p hv => ?_⟩
  obtain ⟨m1, st1, d1, pm, _, s1, r1, h1⟩ := hv
  exact h1.here s1 w r1
theorem ps_sRetN : PS X (.Return none pos) (rdS X.K X.mg W sRetN) := PS.weak ps_retN fun D σ H h => by
  obtain ⟨m, env, st, ho, so, h⟩ := h
  exact h.here so _ rfl
theorem ps_sIf {c : Expr} {tc : Ev Bool} {a b : List Stmt} {f g : Ss} (hc : PT X c (rdT X.K X.mg W tc)) (ha : PSs X a (rdS X.K X.mg W f)) (hb : PSs X b (rdS X.K X.mg W g)) : PS X (.If c a b pos) (rdS X.K X.mg W (sIf tc f g)) := PS.weak (ps_if hc ha hb) fun D σ H h => by
  obtain ⟨m, env, st, ho, so, h⟩ := h
  refine ⟨m, env, st, ho, so, (FinS.ofE (R := rEq Bool) ho h).imp fun w H1 p hv => ?_⟩
  obtain ⟨m1, st1, d1, pm, _, s1, r1, h1⟩ := hv
  cases (show d1 = w from r1)
  cases w with
  | true => exact ⟨m1, env, st1, ho.mono pm p, s1, h1⟩
  | false => exact ⟨m1, env, st1, ho.mono pm p, s1, h1⟩
/-- one turn's end: on, or out -/
theorem turn_end {D : Ends} {m : List Addr} {H : Hp} {r : ResS} {again : EnvD → Store → ResS} {N : L2.St → Hp → Prop} (hN : ∀ m' H' e s σ, Pre m m' → Pers H H' → StOk X.K X.mg m' H' s → EnvOk X.K X.mg m' H' e σ → FinS X.K X.mg W D m' H' (again e s) → N σ H')
    (h : FinS X.K X.mg W D m H (match r with
      | .fl (.nx e) s => again e s
      | .fl (.ct e) s => again e s
      | .fl (.bk e) s => .fl (.nx e) s
      | r => r)) : FinS X.K X.mg W { D with nx := N, ct := N, bk := D.nx } m H r := by
  cases r with
  | fl f s =>
    cases f with
    | nx e => exact fun m' H' a1 a2 a3 σ ho => hN m' H' e s σ a1 a2 a3 ho (FinS.mono a1 a2 h)
    | ct e => exact fun m' H' a1 a2 a3 σ ho => hN m' H' e s σ a1 a2 a3 ho (FinS.mono a1 a2 h)
    | bk e => exact h
    | rt d => exact h
  | er c fs e s => exact h
  | stuck => exact h
theorem ps_sFor {tg iter : Expr} {body : List Stmt} {src : Ev Src} {sl : List Nat} {t : Tgt} {b : Ss} (hp : PassesOwn (model X.prog X.w) X.A X.env X.xe) (hc : X.calm = true) (hi : PI X tg iter (rdI X.K X.mg W src)) (hg : PG X tg (rdTg X.K X.mg sl t)) (hb : PSs X body (rdS X.K X.mg W b))
    (hs : ∀ x, foldedSetIterable iter X.env x = pure x := by intro _; rfl) : PS X (.For tg iter body [] pos) (rdS X.K X.mg W (sFor src t b)) := PS.weak (ps_for hp hc hi hg hb hs) fun D σ H h => by
  obtain ⟨m, env, st, ho, so, h⟩ := h
  refine ⟨m, env, st, ho, so, (FinS.ofE (R := SrcOk X.K X.mg) ho h).imp fun J H1 p1 hv => ?_⟩
  obtain ⟨m1, st1, g, pm1, _, s1, sg, h1⟩ := hv
  refine ⟨fun i n σ H => ∃ mm env2 st2, Pre m1 mm ∧ Pers H1 H ∧ EnvOk X.K X.mg mm H env2 σ ∧ StOk X.K X.mg mm H st2 ∧ FinS X.K X.mg W D mm H (forE g t b n i env2 st2), ⟨fuelF, m1, env, st1, Pre.refl _, Pers.refl _, ho.mono pm1 p1, s1, h1⟩, ?_⟩
  rintro i n σ2 H2 ⟨mm, env2, st2, pm, p, ho2, s2, hf⟩
  obtain ⟨go, stop⟩ := sg i mm H2 st2 pm p s2
  cases n with
  | zero => exact hf.elim
  | succ n =>
    unfold forE at hf
    split at hf
    · exact hf.elim
    · rename_i eg
      exact .inl ⟨stop eg, hf.here s2 σ2 ho2⟩
    · rename_i d eg
      obtain ⟨jg, jy⟩ := go d eg
      refine .inr ⟨jg, fun σ H => ∃ mm env2 st2, Pre m1 mm ∧ Pers H1 H ∧ EnvOk X.K X.mg mm H env2 σ ∧ StOk X.K X.mg mm H st2 ∧ FinS X.K X.mg W D mm H (forE g t b n (i + 1) env2 st2), fun σ3 H3 h3 => ⟨n, Nat.lt_succ_self n, h3⟩, fun x H3 hy => ?_⟩
      obtain ⟨p3, s3, r3⟩ := jy x H3 hy
      split at hf
      · exact hf.elim
      · rename_i env3 et
        have ho3 := ho2.mono (Pre.refl mm) p3
        refine ⟨mm, env2, d, env3, ho3, r3, et, fun σ4 ho4 _ => ⟨mm, env3, st2, ho4, s3, ?_⟩⟩
        exact turn_end (again := forE g t b n (i + 1)) (fun m' H' e s σ5 a1 a2 a3 ho5 hf5 => ⟨m', e, s, pm.trans a1, (p.trans p3).trans a2, ho5, a3, hf5⟩) (FinS.mono (Pre.refl mm) p3 hf)
theorem ps_sWhile {c : Expr} {body : List Stmt} {tc : Ev Bool} {b : Ss} (hp : PassesOwn (model X.prog X.w) X.A X.env X.xe) (hc : PT X c (rdT X.K X.mg W tc)) (hb : PSs X body (rdS X.K X.mg W b)) : PS X (.While c body [] pos) (rdS X.K X.mg W (sWhile tc b)) := PS.weak (ps_while hp hc hb) fun D σ H h => by
  obtain ⟨m, env, st, ho, so, h⟩ := h
  refine ⟨fun n σ H => ∃ m env st, EnvOk X.K X.mg m H env σ ∧ StOk X.K X.mg m H st ∧ FinS X.K X.mg W D m H (whileE tc b n env st), ⟨fuelW, m, env, st, ho, so, h⟩, ?_⟩
  rintro n σ2 H2 ⟨m2, env2, st2, ho2, s2, hf⟩
  cases n with
  | zero => exact hf.elim
  | succ n =>
    refine ⟨m2, env2, st2, ho2, s2, (FinS.ofE (R := rEq Bool) ho2 (by unfold whileE at hf; exact hf)).imp fun w H3 p3 hv => ?_⟩
    obtain ⟨m3, st3, d3, pm3, _, s3, r3, h3⟩ := hv
    cases (show d3 = w from r3)
    have ho3 := ho2.mono pm3 p3
    by_cases hd : w = true
    · rw [if_pos hd] at h3
      rw [if_pos hd]
      exact ⟨fun σ H => ∃ m env st, EnvOk X.K X.mg m H env σ ∧ StOk X.K X.mg m H st ∧ FinS X.K X.mg W D m H (whileE tc b n env st), fun σ' H' h' => ⟨n, Nat.lt_succ_self n, h'⟩, m3, env2, st3, ho3, s3,
        turn_end (again := whileE tc b n) (fun m' H' e s σ5 a1 a2 a3 ho5 hf5 => ⟨m', e, s, ho5, a3, hf5⟩) h3⟩
    · rw [if_neg hd] at h3
      rw [if_neg hd]
      exact h3.here s3 σ2 ho3
end
end PP
set_option Elab.async false
set_option linter.all false
set_option maxRecDepth 100000
set_option maxHeartbeats 2000000
/-! PP12: defs of the text: what they promise, their calls, the law's own call. -/
namespace PP
open PySem PySem.Spec PyProof.Rows L2

/-- a def as a function of data -/
abbrev Fn := List D → Store → Res D
def startD (n : Nat) (ds : List D) : EnvD := ds.map some ++ List.replicate (n - ds.length) none
def runS (n : Nat) (f : Ss) : Fn := fun ds st => match f (startD n ds) st with
  | .fl (.rt d) s => .ok d s
  | .fl (.nx _) s => .ok .non s
  | .er c fs _ s => .err c fs s
  | _ => .stuck
def evCall (g : Fn) (a : Ev (List D)) : Ev D := fun env st => (a env st).bind fun ds s => g ds s

section
variable (K : PySem.W.Frag) (mg : Str → Option Value)
def FinC (m : List Addr) (H : Hp) (r : Res D) (Q : VK) (E : XK) : Prop := match r with
  | .ok d st => ∀ m' H' v, Pre m m' → Pers H H' → StOk K mg m' H' st → Rp K mg m' H' d v → Q v H'
  | .err c fs st => ∀ m' H' cls dd, Pre m m' → Pers H H' → StOk K mg m' H' st → ExOk K mg m' H' c fs cls dd → E cls dd H'
  | .stuck => False
def spG (n : Nat) (g : Fn) : Sp := fun vs H Q E => ∃ m st ds, StOk K mg m H st ∧ RpL K mg m H ds vs ∧ ds.length = n ∧ FinC K mg m H (g ds st) Q E
/-- f keeps the promise of g, called where no repr is under way -/
structure FnG (P : Program) (w : World) (base : Heap) (k : Nat) (f : Addr) (fd : FuncData) (ps : List Str) (g : Fn) : Prop where
  run : ∀ (A : Around) (outer : List Env) (s : Shared) (H : Hp) (args : Args) (us : List Value) (vs : List V) (Q : VK) (E : XK), Room k A → A.guards = some [] → Env0 P w K mg base A outer s H → BindsTo s fd args (ps.zip us) → Vals vs us →
    spG K mg ps.length g vs H Q E → codeAny (model P w) A (.call (.ref f) args) (CR (L2.CX P w) outer P w H s Q E) s
variable {K mg}
theorem FnG.mono {P : Program} {w : World} {base : Heap} {j k : Nat} {f : Addr} {fd : FuncData} {ps : List Str} {g : Fn} (F : FnG K mg P w base j f fd ps g) (h : j ≤ k) : FnG K mg P w base k f fd ps g :=
  ⟨fun A outer s H args us vs Q E hr => F.run A outer s H args us vs Q E (hr.mono h)⟩
theorem spG.len {n : Nat} {g : Fn} {vs : List V} {H : Hp} {Q : VK} {E : XK} (h : spG K mg n g vs H Q E) : vs.length = n := by
  obtain ⟨m, st, ds, _, r, e, _⟩ := h
  rw [r.length, e]
theorem start_ok {m : List Addr} {H : Hp} {N : List Str} {ds : List D} {vs : List V} (r : RpL K mg m H ds vs) (hl : ds.length ≤ N.length) : EnvOk K mg m H (startD N.length ds) (L2.start N vs) := by
  refine ⟨?_, fun i d e => ?_⟩
  · unfold startD L2.start
    simp only [List.length_append, List.length_map, List.length_replicate]
    rw [r.length]
  · unfold startD at e
    by_cases hi : i < ds.length
    · rw [List.getElem?_append_left (by rw [List.length_map]; exact hi), List.getElem?_map] at e
      obtain ⟨d', e1, e2⟩ := Option.map_eq_some_iff.mp e
      cases e2
      obtain ⟨v, ev, rv⟩ := r.get e1
      refine ⟨v, ?_, rv⟩
      unfold L2.start
      rw [List.getElem?_append_left (by rw [List.length_map, r.length]; exact hi), List.getElem?_map, ev]
      rfl
    · exfalso
      rw [List.getElem?_append_right (by rw [List.length_map]; omega)] at e
      have := List.mem_of_getElem? e
      rw [List.mem_replicate] at this
      cases this.2
end
section
variable {P : Program} {w : World} {K : PySem.W.Frag} {mg : Str → Option Value} {base : Heap}
/-- a body's end is the def's -/
theorem runS_fin {W : WX} {f : Ss} {N : List Str} {ds : List D} {st : Store} {m : List Addr} {H : Hp} {Q : VK} {E : XK} (hW : ∀ cls d σ H, E cls d H → W cls d σ H) (h : FinC K mg m H (runS N.length f ds st) Q E) :
    FinS K mg W { nx := fun _ H' => Q .non H', rt := Q } m H (f (startD N.length ds) st) := by
  unfold runS at h
  cases e : f (startD N.length ds) st with
  | fl fl s =>
    rw [e] at h
    cases fl with
    | nx env => exact fun m' H' a1 a2 a3 σ _ => h m' H' .non a1 a2 a3 rfl
    | rt d => exact fun m' H' a1 a2 a3 v r => h m' H' v a1 a2 a3 r
    | bk env => exact h.elim
    | ct env => exact h.elim
  | er c fs env s =>
    rw [e] at h
    exact fun m' H' σ cls dd a1 a2 a3 _ x => hW cls dd σ H' (h m' H' cls dd a1 a2 a3 x)
  | stuck => rw [e] at h; exact h
/-- a def by its body -/
theorem fnG_of {k : Nat} {f : Addr} {name qual : Str} {params : Arguments} {body : List Stmt} {scope : Scope} {dV kV doc pm cdv ct oc : Value} {an od : Option Addr} {osl : Array (Option Value)} {N ps : List Str} {b : Ss}
    (lk : K.lookup f = some ⟨oc, od, .func (PySem.W.fnOf name qual params body scope dV kV doc pm an cdv ct), osl⟩) (hcd : PySem.W.codeIn K cdv qual = true) (S : FnScope N ps scope)
    (hb : ∀ (A : Around) (outer : List Env) (s : Shared) (H : Hp) (E : XK), Room k (A.deeper (envOfC qual scope s.heap.objs.size f cdv)) → (A.deeper (envOfC qual scope s.heap.objs.size f cdv)).guards = some [] →
      PSs (cxOf (L2.CX P w) P w K mg base N qual scope f cdv A outer s H E) body (rdS K mg (fun cls d _ H => E cls d H) b)) :
    FnG K mg P w base (k + 1) f (PySem.W.fnOf name qual params body scope dV kV doc pm an cdv ct) ps (runS N.length b) := by
  constructor
  intro A outer s H args us vs Q E hr hgs e0 bd rel hsp
  have hlen := spG.len hsp
  have hold : ∀ a u, base.get? a = some u → s.heap.get? a = some u := fun a u q => (e0.bs a u q).1
  have kinS : K.In s.heap := e0.mod.kin.keeps hold
  have noLim : s.heap.NoLimit := e0.mod.nolimit.keeps hold
  refine codeAny_call_function hr.depth (kinS _ _ lk) rfl S.co S.gen rfl (PySem.W.codeRec_of kinS hcd) (bd _ _ _ _ ?_)
  refine wpAny_newFunctionEnv_cells S.kind (fun y hy => ?_) fun env henv s2 fresh => ?_
  · rcases S.par y.1 (List.of_mem_zip (a := y.1) (b := y.2) hy).1 with hloc | hcell
    · exact .inl hloc
    · exact .inr ⟨hcell, PySem.W.cellsFrom_some _ _ _ (.inl hcell)⟩
  · subst henv
    refine ⟨noLim.keeps fresh.toInCall.keep, codeAny_func ?_⟩
    have J0 := inv_start (CX := L2.CX P w) (E := E) S hr.hd e0 hlen rel fresh
    have run := (hb A outer s H E (hr.deeper _) hgs).run [] s2 (L2.start N vs) H { nx := fun _ H' => Q .non H', rt := Q } J0
    obtain ⟨m, st, ds, so, rl, hd, fc⟩ := hsp
    have hle : ds.length ≤ N.length := by
      have := congrArg List.length S.pre
      rw [List.length_take] at this
      omega
    have done : ∀ {σ' : L2.St} {H' : Hp} {s' : Shared} {v : V} {u : Value}, Inv (cxOf (L2.CX P w) P w K mg base N qual scope f cdv A outer s H E) [] σ' H' s' → RelV v u → Q v H' → CE outer P w H s Q u s' :=
      fun {_ H' _ v _} J rv q => ⟨v, H', J.os, J.bare, J.base, J.hok, rv, q⟩
    refine wpAny_mono (run ⟨m, startD N.length ds, st, start_ok rl hle, so, runS_fin (fun _ _ _ _ z => z) fc⟩) (fun fl s3 hfl => ?_) fun _ _ z => z
    cases fl with
    | next => obtain ⟨_, _, J, q⟩ := hfl; exact done (v := V.non) (u := Value.none) J rfl q
    | ret u => obtain ⟨_, _, _, J, rv, q⟩ := hfl; exact done J rv q
    | brk => obtain ⟨_, _, _, q⟩ := hfl; exact q.elim
    | cont => obtain ⟨_, _, _, q⟩ := hfl; exact q.elim
/-- .. of a def that stands in the text -/
theorem Fun.okG {x qual : Str} {stm : Stmt} {f : Addr} {fd : FuncData} {N ps : List Str} {k n : Nat} {b : Ss} (F : Fun K x qual stm f fd) (S : FnScope N ps (defScope stm)) (hn : N.length = n)
    (hb : ∀ (cdv : Value) (A : Around) (outer : List Env) (s : Shared) (H : Hp) (E : XK), Room k (A.deeper (envOfC qual (defScope stm) s.heap.objs.size f cdv)) → (A.deeper (envOfC qual (defScope stm) s.heap.objs.size f cdv)).guards = some [] →
      PSs (cxOf (L2.CX P w) P w K mg base N qual (defScope stm) f cdv A outer s H E) (defBody stm) (rdS K mg (fun cls d _ H => E cls d H) b)) :
    FnG K mg P w base (k + 1) f fd ps (runS n b) := by
  obtain ⟨oc, od, kV, doc, pm, an, cdv, ct, osl, rfl, lk, hcd⟩ := F.ex
  subst hn
  exact fnG_of lk hcd S (hb cdv)
end
section
variable {X : Cx} {W : WX} {k : Nat} {f : Addr} {fd : FuncData} {ps : List Str} {g : Fn} {x : Str} {p pos : Pos} {e : Expr} {es : List Expr} {fl : Ev (List D)}
theorem run_fnG {pins : List (Addr × Obj)} {σ : L2.St} {H : Hp} {s : Shared} {Q : VK} {us : List Value} {vs : List V} (F : FnG X.K X.mg X.prog X.w X.base k f fd ps g) (hr : Room k X.A) (hgs : X.A.guards = some []) (hb : Binds X.K fd ps []) (tk : Takes X W) (I : Inv X pins σ H s) (rel : Vals vs us)
    (h : spG X.K X.mg ps.length g vs H Q (fun cls d H => W cls d σ H)) : wpAny (model X.prog X.w) X.A (call (.ref f) us) (EP X pins σ Q) X.xe s := by
  have bd := hb s us I.kIn (by rw [List.append_nil, ← rel.length]; exact spG.len h)
  rw [List.append_nil] at bd
  refine wpAny_call (codeAny_mono (F.run X.A X.stack s H ⟨us, []⟩ us vs Q _ hr hgs I.env0 bd rel h) fun res s2 hres => ?_)
  cases res with
  | error ex => exact passAt tk σ pins H s ex s2 I hres
  | ok flow =>
    cases flow with
    | ret u => exact I.after hres
    | next => exact hres.elim
    | brk => exact hres.elim
    | cont => exact hres.elim
theorem rd_call {n : Nat} {σ : L2.St} {H : Hp} {Q : VK} (hn : ∀ env st ds s, fl env st = .ok ds s → ds.length = n) (h : rdE X.K X.mg W (evCall g fl) σ H Q) : rdA X.K X.mg W fl σ H fun vs H1 => spG X.K X.mg n g vs H1 Q fun cls d H => W cls d σ H := by
  obtain ⟨m, env, st, ho, so, h⟩ := h
  have hn' := hn env st
  unfold evCall at h
  refine ⟨m, env, st, ho, so, ?_⟩
  cases e : fl env st with
  | ok ds s =>
    rw [e] at h
    intro m1 H1 vs pm p s1 r1
    refine ⟨m1, s, ds, s1, r1, hn' ds s e, ?_⟩
    have h2 := Fin.mono pm p (show Fin X.K X.mg (Rp X.K X.mg) W σ m H (g ds s) Q from h)
    cases eg : g ds s with
    | ok d s2 => rw [eg] at h2; exact h2
    | err c fs s2 => rw [eg] at h2; exact h2
    | stuck => rw [eg] at h2; exact h2
  | err c fs s => rw [e] at h; exact h
  | stuck => rw [e] at h; exact h
theorem pe_evCall (F : FnG X.K X.mg X.prog X.w X.base k f fd ps g) (hr : Room k X.A) (hgs : X.A.guards = some []) (hg : Gl X x) (hm : X.mg x = some (.ref f)) (hk : PySem.W.keepIn X.K (.ref f) = true) (hb : Binds X.K fd ps []) (tk : Takes X W) (ha : PA X (e :: es) (rdA X.K X.mg W fl))
    (hn : ∀ env st ds s, fl env st = .ok ds s → ds.length = ps.length) (hdb : (x == ("__debug__" : Str)) = false := by decide) (he : starEach (e :: es) X.env = (false, eval e X.env) :: starEach es X.env := by rfl) (hpl : (backTo pos (starEach es X.env)).any (·.1) = false := by rfl) :
    PE X (.Call (.Name x p) (e :: es) [] pos) (rdE X.K X.mg W (evCall g fl)) := ⟨fun pins s σ H Q I h => by
  refine wpAny_Call_Name_kw (ld_glob I hg hm ?_ hdb)
  exact PySem.W.callWith_K (h₀ := X.base) I.ok.mod.kin hk (thn (ha.run pos pins s σ H _ I (rd_call hn h)) fun us s1 hh => (by
    obtain ⟨vs, H1, I1, rel, q⟩ := hh
    exact ⟨I1.kIn, run_fnG F hr hgs hb tk I1 rel q⟩)) he hpl⟩
theorem pe_evCall0 (F : FnG X.K X.mg X.prog X.w X.base k f fd [] g) (hr : Room k X.A) (hgs : X.A.guards = some []) (hg : Gl X x) (hm : X.mg x = some (.ref f)) (hk : PySem.W.keepIn X.K (.ref f) = true) (hb : Binds X.K fd [] []) (tk : Takes X W)
    (hdb : (x == ("__debug__" : Str)) = false := by decide) : PE X (.Call (.Name x p) [] [] pos) (rdE X.K X.mg W (evCall g evNil)) := ⟨fun pins s σ H Q I h => by
  have h2 := rd_call (n := 0) (fun env st ds s (z : Res.ok [] st = .ok ds s) => by cases z; rfl) h
  obtain ⟨m, env, st, ho, so, h2⟩ := h2
  exact wpAny_Call_Name_kw (ld_glob I hg hm (PySem.W.callWith_K0 I.kIn hk (run_fnG (us := []) F hr hgs hb tk I .nil (h2 m H [] (Pre.refl _) (Pers.refl _) so rfl))) hdb)⟩
theorem len_nil {env : EnvD} {st : Store} {ds : List D} {s : Store} (h : evNil env st = .ok ds s) : ds.length = 0 := by
  have h' : Res.ok [] st = .ok ds s := h
  cases h'; rfl
theorem len_cons {a : Ev D} {b : Ev (List D)} {n : Nat} (hb : ∀ env st ds s, b env st = .ok ds s → ds.length = n) (env : EnvD) (st : Store) (ds : List D) (s : Store) (h : evCons a b env st = .ok ds s) : ds.length = n + 1 := by
  unfold evCons at h
  cases e : a env st with
  | ok x s1 =>
    rw [e] at h
    cases e2 : b env s1 with
    | ok xs s2 =>
      simp only [Res.bind, e2] at h
      cases h
      rw [List.length_cons, hb env s1 xs _ e2]
    | err c fs s2 => simp only [Res.bind, e2] at h; cases h
    | stuck => simp only [Res.bind, e2] at h; cases h
  | err c fs s1 => rw [e] at h; cases h
  | stuck => rw [e] at h; cases h
end
end PP
set_option Elab.async false
set_option linter.all false
set_option maxRecDepth 100000
set_option maxHeartbeats 2000000
/-! PP13: the law's own call. -/
namespace PP
open PySem PySem.Spec PyProof.Rows L2

theorem RpL.ofInts {K : PySem.W.Frag} {mg : Str → Option Value} {m : List Addr} {H : Hp} : ∀ ns : List Int, RpL K mg m H (ns.map D.int) (ns.map V.int)
  | [] => rfl
  | n :: ns => ⟨_, _, rfl, rfl, RpL.ofInts ns⟩
/-- what the law's def gives at a script: True -/
def LawTrue (g : Fn) (ns : List Int) : Prop := ∃ st, g [.ref 0] [(true, .lst (ns.map D.int))] = .ok (.bl true) st
theorem spG_law {K : PySem.W.Frag} {mg : Str → Option Value} {g : Fn} {ns : List Int} {H : Hp} {a : Addr} {o : Obj} (h : LawTrue g ns) (eH : H a = some (.frz o (.lst (ns.map V.int)))) : spG K mg 1 g [.ref a] H (fun v _ => v = .bl true) fun _ _ _ => False := by
  obtain ⟨st, e⟩ := h
  refine ⟨[a], [(true, .lst (ns.map D.int))], [.ref 0], ⟨rfl, by simp, fun l lk c b e1 e2 => ?_⟩, ⟨_, [], rfl, ⟨a, rfl, rfl⟩, rfl⟩, rfl, ?_⟩
  · cases l with
    | zero =>
      cases e1; cases e2
      exact ⟨_, RpL.ofInts ns, o, eH⟩
    | succ l => simp at e1
  · rw [e]
    exact fun m' H' v _ _ _ r => r
/-- no list stands in the written part -/
def noList (K : PySem.W.Frag) : Bool := K.all fun p => !(p.2.cls == Value.type "list")
theorem mem_lk {α : Type} {a : Addr} {o : α} : ∀ {l : List (Addr × α)}, l.lookup a = some o → (a, o) ∈ l
  | [], h => by cases h
  | (b, u) :: r, h => by
    rw [List.lookup_cons] at h
    split at h
    · rename_i e
      cases h
      have e' : a = b := by simpa using e
      subst e'
      exact List.mem_cons_self
    · exact List.mem_cons_of_mem _ (mem_lk h)
theorem noList_none {K : PySem.W.Frag} {h : Heap} {a : Addr} {vs : Array Value} (hn : noList K = true) (kin : K.In h) (ha : h.get? a = some { cls := .type "list", data := .seq vs }) : K.lookup a = none := by
  cases e : K.lookup a with
  | none => rfl
  | some o =>
    have q := kin a o e
    rw [ha] at q
    cases q
    have hm := mem_lk e
    have := List.all_eq_true.mp hn _ hm
    cases this
section
variable {P : Program} {w : World} {K : PySem.W.Frag} {mg mb : Str → Option Value} {k : Nat} {fa a : Addr} {fd : FuncData} {x : Str} {g : Fn} {s0 : Shared} {vs : List Value} {ns : List Int}
/-- the law's call at the heap behind the top, the script alone tracked (the script is a new list: the written part has none at its place) -/
theorem law_callG (kin : K.In s0.heap) (hns : s0.heap.Ns mainGlobals mg) (hb : s0.heap.Ns builtinsNs mb) (hbb : ∀ y : Str, y ≠ "__name__" → mb y = bootBuiltins y) (hlim : s0.heap.NoLimit) (hgen : s0.gens = #[])
    (ha : s0.heap.get? a = some { cls := .type "list", data := .seq vs.toArray }) (hK : K.lookup a = none) (hi : IntsAre vs ns) (hl : ns.length ≤ sizeLine) (hr : Room k callerA)
    (F : ∀ base : Heap, K.In base → base.Ns mainGlobals mg → FnG K mg P w base k fa fd [x] g) (hbind : ∀ (s : Shared) (u : Value), BindsTo s fd ⟨[u], []⟩ [(x, u)]) (ht : LawTrue g ns) :
    codeAny (model P w) callerA (.call (.ref fa) ⟨[.ref a], []⟩) (fun r s' => r = .ok (.ret (.bool true)) ∧ OldK s0.heap s'.heap ∧ s'.os = s0.os ∧ AllBare s'.gens) s0 := by
  have rv := vals_ints hi
  generalize hH : (fun b => if b = a then some (HO.frz { cls := .type "list", data := .seq vs.toArray } (.lst (ns.map V.int))) else none : Hp) = H
  have atA : H a = some (.frz { cls := .type "list", data := .seq vs.toArray } (.lst (ns.map V.int))) := by rw [← hH]; exact if_pos rfl
  have offA : ∀ b, b ≠ a → H b = none := fun b h => by rw [← hH]; exact if_neg h
  have okH : HOk P w H s0.heap := fun b u q => by
    by_cases hba : b = a
    · subst hba
      rw [atA] at q
      cases q
      exact ⟨ha, by rw [List.length_map]; exact hl, vs, _, rv, ha⟩
    · rw [offA b hba] at q; cases q
  have hid : ∀ {b : Addr} {ob : Obj}, s0.heap.get? b = some ob → b ≠ a → (hidT s0.heap H).get? b = some ob := fun q h => hidT_get q (offA _ h)
  have notA : ∀ {b : Addr} {ob : Obj} {es : Array DictEntry} {ep : Nat}, s0.heap.get? b = some ob → ob.data = .dict es ep → b ≠ a := fun {b ob es ep} q d z => by
    subst z
    rw [ha] at q
    cases q
    have z' : Data.seq vs.toArray _ = Data.dict es ep := d
    cases z'
  have nsH : ∀ {b : Addr} {mm : Str → Option Value}, s0.heap.Ns b mm → (hidT s0.heap H).Ns b mm := fun {b mm} ⟨ob, es, ep, q, d, r⟩ => ⟨ob, es, ep, hid q (notA q d), d, r⟩
  have kinH : K.In (hidT s0.heap H) := fun b ob q => hid (kin b ob q) fun z => by rw [z, hK] at q; cases q
  have md : Mod K mg (hidT s0.heap H) := ⟨kinH, nsH hns, ⟨mb, nsH hb, hbb⟩, hlim.elim fun mc q => ⟨mc, nsH q.1, q.2⟩⟩
  have e0 : Env0 P w K mg (hidT s0.heap H) callerA [] s0 H := ⟨rfl, md, fun b ob q => of_hidT q, Nat.le_of_eq (hidT_size _ _), trivial, fun b q => (nomatch (show b ∈ ([] : List Addr) from q)), okH, .of_eq hgen⟩
  have run := (F _ kinH (nsH hns)).run callerA [] s0 H ⟨[.ref a], []⟩ [.ref a] [.ref a] (fun v _ => v = .bl true) (fun _ _ _ => False) hr rfl e0 (hbind s0 (.ref a)) (.cons rfl .nil) (spG_law ht atA)
  refine codeAny_mono run fun res s2 hres => ?_
  cases res with
  | error ex =>
    obtain ⟨_, _, _, _, _, _, _, _, _, _, _, _, z⟩ := hres
    exact z.elim
  | ok fl =>
    cases fl with
    | next => exact hres.elim
    | brk => exact hres.elim
    | cont => exact hres.elim
    | ret u =>
      obtain ⟨v, H', os, bare, un, ok2, rel, q⟩ := hres
      cases (show v = .bl true from q)
      cases (show u = Value.bool true from rel)
      refine ⟨rfl, OldK.of_keep fun b ob z => ?_, os, bare⟩
      by_cases hba : b = a
      · subst hba
        have z2 := un.frzs b _ _ atA
        obtain ⟨y2, _⟩ := ok2 b _ z2
        rw [ha] at z
        cases z
        exact y2
      · exact un.keep b ob z (offA b hba) (fun y => (nomatch (show b ∈ ([] : List Addr) from y))) (fun y => (nomatch (show b ∈ ([] : List Addr) from y)))
/-- a law, by facts of its head -/
theorem walk_ofG {l : PySem.W.OpenLaw} {n : Nat} {q : Program} {loose : List Str} {XP : (Str → Option Value) → Heap → Prop} {YP : World → Heap → Prop} {d : DefRec} (hn : l.most = some n) (hn2 : n ≤ sizeLine) (hdf : d.params.defaults = []) (hr : Room k callerA)
    (F : ∀ (w : World) (mg : Str → Option Value) (fa : Addr) (h : Heap), YP w h → h.Ns mainGlobals mg → mg d.name = some (.ref fa) →
      ∃ (K : PySem.W.Frag) (fd : FuncData) (g : Fn), K.In h ∧ noList K = true ∧ (∀ (s : Shared) (u : Value), BindsTo s fd ⟨[u], []⟩ [(x, u)]) ∧ (∀ ns : List Int, ns.length ≤ n → LawTrue g ns) ∧
        ∀ base : Heap, K.In base → base.Ns mainGlobals mg → FnG K mg l.prog w base k fa fd [x] g) :
    PySem.W.WalkO q loose XP YP l.row.toRowW d [] (fun f vs => PySem.call f vs) := by
  refine Att.attach_call hn hdf fun w s₀ s₁ mg mb fa o pm cd doc a vs ns G Y ho hd hcd hmg hobj hints hlen hg => ?_
  obtain ⟨K, fd, g, kin, nl, hb, ht, hF⟩ := F w mg fa _ Y G.T.g hmg
  exact law_callG kin G.T.g G.T.b G.T.builtins G.T.nolimit hg hobj (noList_none nl kin hobj) hints (Nat.le_trans hlen hn2) hr hF hb (ht ns hlen)
end
end PP
set_option Elab.async false
set_option linter.all false
set_option maxRecDepth 100000
set_option maxHeartbeats 2000000
/-! PP14: walks over dicts (locked meanwhile); y = [..] on one line. -/
namespace PP
open PySem PySem.Spec PyProof.Rows L2

def unlockD (l : Nat) (st : Store) : Option Store := match st[l]? with
  | some (true, .dct kvs) => some (st.set l (false, .dct kvs))
  | _ => none
/-- the place of an unlocked dict that stands at slot i -/
def lockAt (i : Nat) (env : EnvD) (st : Store) : Option (Nat × List (D × D)) := match env[i]? with
  | some (some (.ref l)) => match st[l]? with
    | some (false, .dct kvs) => some (l, kvs)
    | _ => none
  | _ => none
/-- a statement that walks over what stands at slot i: a dict is locked meanwhile -/
def sLock (i : Nat) (f : Ss) : Ss := fun env st => match lockAt i env st with
  | some (l, kvs) => match f env (st.set l (true, .dct kvs)) with
    | .fl fl s => match unlockD l s with
      | some s2 => .fl fl s2
      | none => .stuck
    | r => r
  | none => f env st
def evLock (i : Nat) (f : Ev D) : Ev D := fun env st => match lockAt i env st with
  | some (l, kvs) => match f env (st.set l (true, .dct kvs)) with
    | .ok d s => match unlockD l s with
      | some s2 => .ok d s2
      | none => .stuck
    | r => r
  | none => f env st
section
variable {K : PySem.W.Frag} {mg : Str → Option Value} {m m' : List Addr} {H H' : Hp} {st st' : Store} {l : Nat} {a : Addr} {kvs : List (D × D)}
/-- the dict's own object -/
structure DObj (K : PySem.W.Frag) (mg : Str → Option Value) (m : List Addr) (H : Hp) (a : Addr) (kvs : List (D × D)) (u : HO) : Prop where
  at_ : H a = some u
  mu : Mut (some u)
  st : Stays u → False
  tu : ∀ xs, u ≠ .tup xs
  re : ∀ (m' : List Addr) (H' : Hp) (ob : Obj), Pre m m' → PersT H H' → H' a = some (.frz ob u) → CellOk K mg m' H' a true (.dct kvs)
theorem dObj (h : CellOk K mg m H a false (.dct kvs)) : ∃ u, DObj K mg m H a kvs u := by
  rcases h with ⟨kv', r, c⟩ | ⟨kv', r, c⟩
  · exact ⟨.dK kv', c, True.intro, fun z => z, fun xs z => (by cases z), fun m' H' ob pm p e => .inl ⟨kv', r.monoT pm p, ob, e⟩⟩
  · exact ⟨.dT kv', c, True.intro, fun z => z, fun xs z => (by cases z), fun m' H' ob pm p e => .inr ⟨kv', r.monoT pm p, ob, e⟩⟩
theorem set_same {st : Store} {l : Nat} {x : Bool × Cell} (h : st[l]? = some x) : l < st.length := (List.getElem?_eq_some_iff.mp h).1
/-- a dict locked -/
theorem StOk.lock (so : StOk K mg m H st) (e : st[l]? = some (false, .dct kvs)) (em : m[l]? = some a) {u : HO} (d : DObj K mg m H a kvs u) (od : Obj) : StOk K mg m (upd H a (.frz od u)) (st.set l (true, .dct kvs)) ∧ Pers H (upd H a (.frz od u)) := by
  have p : Pers H (upd H a (.frz od u)) := Pers.write d.at_ d.st
  exact ⟨so.write e em p (d.re m _ od (Pre.refl m) p.toT upd_same), p⟩
/-- .. and unlocked again -/
theorem StOk.unlock (so : StOk K mg m' H' st') (em : m'[l]? = some a) {u : HO} {od : Obj} (eH : H' a = some (.frz od u)) (tu : ∀ xs, u ≠ .tup xs) (h : unlockD l st' = some st) : StOk K mg m' (upd H' a u) st ∧ PersT H' (upd H' a u) := by
  have pT : PersT H' (upd H' a u) := by
    refine ⟨fun b xs q => ?_, fun b o xs q => ?_⟩
    · rw [upd_ne (fun z => by subst z; rw [eH] at q; cases q)]; exact q
    · rw [upd_ne (fun z => by
        subst z
        rw [eH] at q
        cases q
        exact tu xs rfl)]; exact q
  unfold unlockD at h
  split at h
  · rename_i kvs e
    cases h
    refine ⟨⟨by rw [List.length_set, so.len], so.nd, fun j lk c b e1 e2 => ?_⟩, pT⟩
    by_cases hj : l = j
    · subst hj
      rw [List.getElem?_set_self (set_same e)] at e1
      rw [em] at e2
      cases e1; cases e2
      rcases so.at_ l _ _ a e em with ⟨kv', r, ob, c⟩ | ⟨kv', r, ob, c⟩
      · rw [eH] at c
        cases c
        exact .inl ⟨kv', r.monoT (Pre.refl _) pT, upd_same⟩
      · rw [eH] at c
        cases c
        exact .inr ⟨kv', r.monoT (Pre.refl _) pT, upd_same⟩
    · rw [List.getElem?_set_ne hj] at e1
      have nb : b ≠ a := fun z => by
        subst z
        obtain ⟨h1, q1⟩ := List.getElem?_eq_some_iff.mp em
        obtain ⟨h2, q2⟩ := List.getElem?_eq_some_iff.mp e2
        exact hj ((List.getElem_inj so.nd).mp (q1.trans q2.symm))
      exact (so.at_ j lk c b e1 e2).monoT (Pre.refl _) pT (upd_ne nb)
  · cases h
theorem pers_through {u : HO} {od : Obj} (d : H a = some u) (ns : Stays u → False) (p : Pers (upd H a (.frz od u)) H') : Pers H (upd H' a u) := fun b o w e => by
  have nb : b ≠ a := fun z => by subst z; rw [d] at e; cases e; exact ns w
  rw [upd_ne nb]
  exact p b o w (by rw [upd_ne nb]; exact e)
end
section
variable {X : Cx} {W : WX}
theorem PS.or {st : Stmt} {t t' : TS} (h : PS X st t) (h' : PS X st t') : PS X st (fun D σ H => t D σ H ∨ t' D σ H) := ⟨fun pins s σ H D I q => q.elim (h.run pins s σ H D I) (h'.run pins s σ H D I)⟩
theorem PE.or {e : Expr} {t t' : TE} (h : PE X e t) (h' : PE X e t') : PE X e (fun σ H Q => t σ H Q ∨ t' σ H Q) := ⟨fun pins s σ H Q I q => q.elim (h.run pins s σ H Q I) (h'.run pins s σ H Q I)⟩
theorem lockAt_some {i : Nat} {env : EnvD} {st : Store} {l : Nat} {kvs : List (D × D)} (h : lockAt i env st = some (l, kvs)) : env[i]? = some (some (.ref l)) ∧ st[l]? = some (false, .dct kvs) := by
  unfold lockAt at h
  split at h
  · rename_i l' e
    split at h
    · rename_i kvs' e2
      cases h
      exact ⟨e, e2⟩
    · cases h
  · cases h
theorem ps_sLock {st : Stmt} {f : Ss} {i : Nat} (h : PS X st (rdS X.K X.mg W f)) : PS X st (rdS X.K X.mg W (sLock i f)) := PS.weak (PS.or (ps_lock h) h) fun D σ H h => by
  obtain ⟨m, env, st, ho, so, h⟩ := h
  unfold sLock at h
  cases e : lockAt i env st with
  | none =>
    rw [e] at h
    exact .inr ⟨m, env, st, ho, so, h⟩
  | some q =>
    obtain ⟨l, kvs⟩ := q
    rw [e] at h
    obtain ⟨e1, e2⟩ := lockAt_some e
    obtain ⟨v, ev, a, _, em⟩ := ho.at_ i _ e1
    obtain ⟨u, d⟩ := dObj (so.at_ l _ _ a e2 em)
    refine .inl ⟨a, u, d.at_, d.mu, fun od => ?_⟩
    obtain ⟨s1, p1⟩ := so.lock e2 em d od
    refine ⟨m, env, _, ho.mono (Pre.refl m) p1, s1, ?_⟩
    have h : FinS X.K X.mg W D m H (match f env (st.set l (true, .dct kvs)) with
      | .fl fl s => match unlockD l s with
        | some s2 => .fl fl s2
        | none => .stuck
      | r => r) := h
    cases er : f env (st.set l (true, .dct kvs)) with
    | stuck => rw [er] at h; exact h
    | er c fs env' s' =>
      rw [er] at h
      exact fun m' H' σ' cls dd a1 a2 a3 a4 a5 => h m' H' σ' cls dd a1 (p1.trans a2) a3 a4 a5
    | fl fl s' =>
      rw [er] at h
      cases eu : unlockD l s' with
      | none => simp only [eu] at h; exact h.elim
      | some s2 =>
        simp only [eu] at h
        intro m' H' a1 a2 a3
        have eH : H' a = some (.frz od u) := a2 a _ (show Stays (.frz _ _) from True.intro) upd_same
        obtain ⟨s3, pT⟩ := a3.unlock (a1 l a em) eH d.tu eu
        have fin := h m' (upd H' a u) a1 (pers_through d.at_ d.st a2) s3
        cases fl with
        | nx env' => exact fun σ' ho' => ⟨eH, fin σ' (ho'.monoT (Pre.refl _) pT)⟩
        | rt dd => exact fun v r => ⟨eH, fin v (Rp.monoT (Pre.refl _) pT _ _ r)⟩
        | bk env' => exact fun σ' ho' => ⟨eH, fin σ' (ho'.monoT (Pre.refl _) pT)⟩
        | ct env' => exact fun σ' ho' => ⟨eH, fin σ' (ho'.monoT (Pre.refl _) pT)⟩
theorem rd_evLock {f : Ev D} {i : Nat} {σ : L2.St} {H : Hp} {Q : VK} (h : rdE X.K X.mg W (evLock i f) σ H Q) : tLockE (rdE X.K X.mg W f) σ H Q ∨ rdE X.K X.mg W f σ H Q := by
  obtain ⟨m, env, st, ho, so, h⟩ := h
  unfold evLock at h
  cases e : lockAt i env st with
  | none =>
    rw [e] at h
    exact .inr ⟨m, env, st, ho, so, h⟩
  | some q =>
    obtain ⟨l, kvs⟩ := q
    rw [e] at h
    obtain ⟨e1, e2⟩ := lockAt_some e
    obtain ⟨v, ev, a, _, em⟩ := ho.at_ i _ e1
    obtain ⟨u, d⟩ := dObj (so.at_ l _ _ a e2 em)
    refine .inl ⟨a, u, d.at_, d.mu, fun od => ?_⟩
    obtain ⟨s1, p1⟩ := so.lock e2 em d od
    refine ⟨m, env, _, ho.mono (Pre.refl m) p1, s1, ?_⟩
    have h : Fin X.K X.mg (Rp X.K X.mg) W σ m H (match f env (st.set l (true, .dct kvs)) with
      | .ok d s => match unlockD l s with
        | some s2 => .ok d s2
        | none => .stuck
      | r => r) Q := h
    cases er : f env (st.set l (true, .dct kvs)) with
    | stuck => rw [er] at h; exact h
    | err c fs s' =>
      rw [er] at h
      exact fun m' H' cls dd a1 a2 a3 a4 => h m' H' cls dd a1 (p1.trans a2) a3 a4
    | ok dd s' =>
      rw [er] at h
      cases eu : unlockD l s' with
      | none => simp only [eu] at h; exact h.elim
      | some s2 =>
        simp only [eu] at h
        intro m' H' v a1 a2 a3 r
        have eH : H' a = some (.frz od u) := a2 a _ (show Stays (.frz _ _) from True.intro) upd_same
        obtain ⟨s3, pT⟩ := a3.unlock (a1 l a em) eH d.tu eu
        exact ⟨eH, h m' (upd H' a u) v a1 (pers_through d.at_ d.st a2) s3 (Rp.monoT (Pre.refl _) pT _ _ r)⟩
theorem pe_evLock {e : Expr} {f : Ev D} {i : Nat} (h : PE X e (rdE X.K X.mg W f)) : PE X e (rdE X.K X.mg W (evLock i f)) := PE.weak (PE.or (pe_lock h) h) fun _ _ _ h => rd_evLock h

/-! ### y = [..] -/
variable {i : Nat} {y : Str} {py : Pos} {elt tg iter : Expr} {ifs : List Expr} {scope : Scope} {own : List (Str × Nat)} {pos spos : Pos} {src : Ev Src} {tgt : Tgt} {sl : List Nat} {tt : Ev Bool} {te : Ev D}
theorem ps_sSetLc (hc : X.calm = true) (hN : X.N.Nodup) (hy : X.N[i]? = some y) (hyl : X.env.scope.names.lookup y = some .local) (hsw : swapsWith (.ListComp elt [⟨tg, iter, ifs, 0⟩] scope pos) (some (.Name y py)) spos.line X.env = pure true)
    (hi : PI X tg iter (rdI X.K X.mg W src)) (ok : blkC X.N X.env.scope scope own = true) (hsl : sl.all (fun i => (own.map (·.2)).contains i) = true) (hg : BlkG X scope tg sl tgt) (ht : BlkT X scope ifs tt) (he : BlkE X scope elt te)
    (hs : ∀ x, foldedSetIterable iter X.env x = pure x := by intro _; rfl) : PS X (.Assign [.Name y py] (.ListComp elt [⟨tg, iter, ifs, 0⟩] scope pos) spos) (rdS X.K X.mg W (sSet i (evLc src tgt (own.map (·.2)) tt te))) :=
  PS.weak (ps_setLc hc hN hy hyl hsw hi (blkOk_by ok) hg ht he hs) fun D σ H h => rd_lc (W := W) (fun i hi => List.contains_iff_mem.mp (List.all_eq_true.mp hsl i hi)) (rd_sSet h)
variable {tg1 iter1 : Expr} {ifs1 : List Expr} {src1 : Ev Src} {tgt1 : Tgt} {sl1 vs1 : List Nat} {tt1 : Ev Bool}
theorem ps_sSetLc2 (hc : X.calm = true) (hN : X.N.Nodup) (hy : X.N[i]? = some y) (hyl : X.env.scope.names.lookup y = some .local) (hsw : swapsWith (.ListComp elt [⟨tg, iter, ifs, 0⟩, ⟨tg1, iter1, ifs1, 0⟩] scope pos) (some (.Name y py)) spos.line X.env = pure true)
    (hi : PI X tg iter (rdI X.K X.mg W src)) (ok : blkC X.N X.env.scope scope own = true) (hsl : sl.all (fun i => (own.map (·.2)).contains i) = true) (hv : vs1.all (fun i => (own.map (·.2)).contains i) = true) (hsl1 : sl1.all (fun i => vs1.contains i) = true)
    (hg : BlkG X scope tg sl tgt) (ht : BlkT X scope ifs tt) (hi1 : BlkI X scope tg1 iter1 src1) (hg1 : BlkG X scope tg1 sl1 tgt1) (ht1 : BlkT X scope ifs1 tt1) (he : BlkE X scope elt te)
    (hs : ∀ x, foldedSetIterable iter X.env x = pure x := by intro _; rfl) (hs1 : ∀ env x, foldedSetIterable iter1 env x = pure x := by intro _ _; rfl) :
    PS X (.Assign [.Name y py] (.ListComp elt [⟨tg, iter, ifs, 0⟩, ⟨tg1, iter1, ifs1, 0⟩] scope pos) spos) (rdS X.K X.mg W (sSet i (evLc2 src tgt (own.map (·.2)) tt src1 tgt1 vs1 tt1 te))) :=
  PS.weak (ps_setLc2 hc hN hy hyl hsw hi (blkOk_by ok) (fun i hi => List.contains_iff_mem.mp (List.all_eq_true.mp hv i hi)) hg ht hi1 hg1 ht1 he hs hs1) fun D σ H h =>
    rd_lc2 (W := W) (fun i hi => List.contains_iff_mem.mp (List.all_eq_true.mp hsl i hi)) (fun i hi => List.contains_iff_mem.mp (List.all_eq_true.mp hsl1 i hi)) (rd_sSet h)
end
end PP
set_option Elab.async false
set_option linter.all false
set_option maxRecDepth 100000
set_option maxHeartbeats 2000000
/-! PP15: own exceptions: made, raised, caught. -/
namespace PP
open PySem PySem.Spec PyProof.Rows L2

/-- the fields of an exception made of some values, the last stored first -/
def fldsOf : List Str → List D → List (Str × D) → Option (List (Str × D))
  | [], [], acc => some acc
  | n :: ns, d :: ds, acc => fldsOf ns ds ((n, d) :: acc)
  | _, _, _ => none
/-- raise C(e, ..) -/
def sRaise (c : Str) (ns : List Str) (f : Ev (List D)) : Ss := fun env st => ofE env (f env st) fun ds s => match fldsOf ns ds [] with
  | some fs => .er c fs env s
  | none => .stuck
/-- a field of the exception that the suite holds -/
def evFld (fs : List (Str × D)) (n : Str) : Ev D := fun _ st => .ofOpt ((fs.lookup n).map fun d => (d, st))
/-- what a clause's name says of an exception's class -/
abbrev ExT := Str → Str → Option Bool
/-- try: body / except cn as ..: return e -/
def sTry (T : ExT) (cn : Str) (i : Nat) (body : Ss) (h : List (Str × D) → Ev D) : Ss := fun env st => match body env st with
  | .er c fs env' s => match T c cn with
    | some true => if i < env'.length then (match h fs (env'.set i none) s with
      | .ok d s2 => .fl (.rt d) s2
      | _ => .stuck) else .stuck
    | some false => .er c fs env' s
    | none => .stuck
  | r => r
/-- what the written part says of the clauses' classes -/
def TabOk (K : PySem.W.Frag) (mg : Str → Option Value) (T : ExT) : Prop := ∀ c cn b a, T c cn = some b → mg c = some (.ref a) → ∀ v, mg cn = some v → PySem.W.exmOne K (.ref a) v = some b
section
variable {X : Cx} {W : WX} {k : Nat}
/-! ### __init__ of one field, of two -/
def spI1 (C : Addr) (K : PySem.W.Frag) (f : Str) : Sp := fun vs H Q _ => ∃ a v, vs = [.ref a, v] ∧ H a = some (exo a C none) ∧ ∀ dx, H dx = none → dx ≠ a → Q .non (upd (upd H dx (exd dx [(f, v)])) a (exo a C (some dx)))
def spI2 (C : Addr) (K : PySem.W.Frag) (f g : Str) : Sp := fun vs H Q _ => ∃ a v w, vs = [.ref a, v, w] ∧ H a = some (exo a C none) ∧ ∀ dx, H dx = none → dx ≠ a → Q .non (upd (upd (upd H dx (exd dx [(f, v)])) a (exo a C (some dx))) dx (exd dx [(g, w), (f, v)]))
/-- a heap where one thing stands beside -/
theorem end_heap {H1 : Hp} {a d : Addr} {o : HO} (h : Hp) (hn : H1 a = none) (e : ∀ b, b ≠ a → b ≠ d → h b = H1 b) : upd (del h a) d o = upd H1 d o := by
  funext b
  by_cases hd : b = d
  · subst hd; rw [upd_same, upd_same]
  · rw [upd_ne hd, upd_ne hd]
    by_cases ha : b = a
    · subst ha; rw [del_same, hn]
    · rw [del_ne ha, e b ha hd]
theorem ex_ok {m : List Addr} {H1 : Hp} {st : Store} {env : EnvD} {σ : L2.St} {d : Addr} {C : Addr} {c : Str} {fs : List (Str × D)} {xs : List (Str × V)} (hd : H1 d = none) (so : StOk X.K X.mg m H1 st) (gC : X.mg c = some (.ref C)) (r : FldOk X.K X.mg m H1 fs xs) :
    StOk X.K X.mg m (upd H1 d (.xd xs)) st ∧ Pers H1 (upd H1 d (.xd xs)) ∧ ExOk X.K X.mg m (upd H1 d (.xd xs)) c fs (.ref C) (some d) := by
  have p : Pers H1 (upd H1 d (.xd xs)) := Pers.new hd
  exact ⟨so.beside hd, p, C, rfl, gC, .inr ⟨d, xs, rfl, upd_same, Paired.mapP r fun q1 q2 h => ⟨h.1, Rp.mono (Pre.refl m) p _ _ h.2⟩⟩⟩
variable {c : Str} {C fI : Addr} {fd : FuncData} {f g : Str} {fl : Ev (List D)} {e : Expr} {es : List Expr} {p p2 pos pos2 : Pos}
/-- raise C(e), C's __init__ storing one field -/
theorem ps_sRaise1 (hc : X.calm = true) (tk : Takes X W) (T : OexC X.K C) (iC : PySem.W.findIn X.K (.ref C) "__init__" = some (some (.ref fI))) (tI : PySem.W.typeIn X.K (.ref fI) = some (.type "function"))
    (F1 : FnOk X.prog X.w X.K X.mg X.base CX0 k fI fd ["self", f] (spI1 C X.K f)) (hr : Room (k + 1) X.A) (hb : Binds X.K fd ["self", f] []) (hg : Gl X c) (gC : X.mg c = some (.ref C)) (ha : PA X (e :: es) (rdA X.K X.mg W fl))
    (hdb : (c == ("__debug__" : Str)) = false := by decide) (he : starEach (e :: es) X.env = (false, eval e X.env) :: starEach es X.env := by rfl) (hpl : (backTo pos (starEach es X.env)).any (·.1) = false := by rfl) :
    PS X (.Raise (some (.Call (.Name c p) (e :: es) [] pos)) none pos2) (rdS X.K X.mg W (sRaise c [f] fl)) := PS.weak (ps_raise hc tk (pmk_oex T iC tI F1 hr hb .nil pass0 hg gC ha hdb he hpl)) fun D σ H h => by
  obtain ⟨m, env, st, ho, so, h⟩ := h
  refine ⟨m, env, st, ho, so, (FinS.ofE (R := RpL X.K X.mg) ho h).imp fun vs H1 p hv => ?_⟩
  obtain ⟨m1, st1, ds, pm, _, s1, r1, h1⟩ := hv
  cases ds with
  | nil => exact h1.elim
  | cons d ds =>
    cases ds with
    | cons d2 ds => exact h1.elim
    | nil =>
      obtain ⟨v, rfl, rv⟩ := r1.one
      refine ⟨by simp, fun a hn => ⟨a, v, rfl, upd_same, fun dx hdx hne => ⟨rfl, dx, [(f, v)], upd_same, ?_, ?_, ?_⟩⟩⟩
      · rw [upd_ne hne, upd_same]
      · rw [upd_ne hne] at hdx; exact hdx
      · rw [upd_ne hne] at hdx
        rw [end_heap _ hn (fun b h1 h2 => by rw [upd_ne h1, upd_ne h2, upd_ne h1])]
        obtain ⟨s2, p2, x2⟩ := ex_ok (X := X) (env := env) (σ := σ) (fs := [(f, d)]) (xs := [(f, v)]) hdx s1 gC (.cons ⟨rfl, rv⟩ .nil)
        exact h1 m1 _ σ (.ref C) (some dx) (Pre.refl _) p2 s2 (((ho.mono pm p)).mono (Pre.refl _) p2) x2
/-- raise C(e, e'), two fields -/
theorem ps_sRaise2 (hc : X.calm = true) (tk : Takes X W) (T : OexC X.K C) (iC : PySem.W.findIn X.K (.ref C) "__init__" = some (some (.ref fI))) (tI : PySem.W.typeIn X.K (.ref fI) = some (.type "function"))
    (F1 : FnOk X.prog X.w X.K X.mg X.base CX0 k fI fd ["self", f, g] (spI2 C X.K f g)) (hr : Room (k + 1) X.A) (hb : Binds X.K fd ["self", f, g] []) (hg : Gl X c) (gC : X.mg c = some (.ref C)) (ha : PA X (e :: es) (rdA X.K X.mg W fl))
    (hdb : (c == ("__debug__" : Str)) = false := by decide) (he : starEach (e :: es) X.env = (false, eval e X.env) :: starEach es X.env := by rfl) (hpl : (backTo pos (starEach es X.env)).any (·.1) = false := by rfl) :
    PS X (.Raise (some (.Call (.Name c p) (e :: es) [] pos)) none pos2) (rdS X.K X.mg W (sRaise c [f, g] fl)) := PS.weak (ps_raise hc tk (pmk_oex T iC tI F1 hr hb .nil pass0 hg gC ha hdb he hpl)) fun D σ H h => by
  obtain ⟨m, env, st, ho, so, h⟩ := h
  refine ⟨m, env, st, ho, so, (FinS.ofE (R := RpL X.K X.mg) ho h).imp fun vs H1 p hv => ?_⟩
  obtain ⟨m1, st1, ds, pm, _, s1, r1, h1⟩ := hv
  match ds, r1, h1 with
  | [d, d2], r1, h1 =>
    obtain ⟨v, w, rfl, rv, rw'⟩ := r1.two
    refine ⟨by simp, fun a hn => ⟨a, v, w, rfl, upd_same, fun dx hdx hne => ⟨rfl, dx, [(g, w), (f, v)], ?_, upd_same, ?_, ?_⟩⟩⟩
    · rw [upd_ne (Ne.symm hne), upd_same]
    · rw [upd_ne hne] at hdx; exact hdx
    · rw [upd_ne hne] at hdx
      rw [end_heap _ hn (fun b h1 h2 => by rw [upd_ne h2, upd_ne h1, upd_ne h2, upd_ne h1])]
      obtain ⟨s2, p2, x2⟩ := ex_ok (X := X) (env := env) (σ := σ) (fs := [(g, d2), (f, d)]) (xs := [(g, w), (f, v)]) hdx s1 gC (.cons ⟨rfl, rw'⟩ (.cons ⟨rfl, rv⟩ .nil))
      exact h1 m1 _ σ (.ref C) (some dx) (Pre.refl _) p2 s2 (((ho.mono pm p)).mono (Pre.refl _) p2) x2
  | [], _, h1 => exact h1.elim
  | [_], _, h1 => exact h1.elim
  | _ :: _ :: _ :: _, _, h1 => exact h1.elim
end
section
variable {P : Program} {w : World} {K : PySem.W.Frag} {mg : Str → Option Value} {base : Heap} {C fI : Addr} {fd : FuncData} {f g : Str}
theorem init1_ok {qual : Str} {b : Stmt} {q1 q2 q3 q4 : Pos} {params : Arguments} {scope : Scope} {dV kV doc pm cdv ct oc : Value} {an od : Option Addr} {osl : Array (Option Value)}
    (lk : K.lookup fI = some ⟨oc, od, .func (PySem.W.fnOf "__init__" qual params [.Assign [.Attribute (.Name "self" q1) f q2] (.Name f q3) q4] scope dV kV doc pm an cdv ct), osl⟩) (hcd : PySem.W.codeIn K cdv qual = true) (S : FnScope ["self", f] ["self", f] scope)
    (T : OexC K C) (hno : PySem.W.findIn K (.ref C) f = some none) (hself : scope.names.lookup ("self" : Str) = some NameKind.local) (hf : scope.names.lookup f = some NameKind.local) (hd1 : (f == ("__debug__" : Str)) = false) (hd2 : (f == ("__classdict__" : Str)) = false) :
    FnOk P w K mg base CX0 1 fI (PySem.W.fnOf "__init__" qual params [.Assign [.Attribute (.Name "self" q1) f q2] (.Name f q3) q4] scope dV kV doc pm an cdv ct) ["self", f] (spI1 C K f) := by
  refine fn_of lk hcd S (fun vs H Q E h => ?_) (fun A outer s H vs Q E hr h => ?_)
  · obtain ⟨a, v, rfl, _⟩ := h
    rfl
  · obtain ⟨a, v, rfl, eH, q⟩ := h
    refine ⟨_, (pss_one (ps_ost (pe_var (i := 0) rfl (.inl hself)) (pe_var (i := 1) rfl (.inl hf) hd1 hd2))).nox, ?_⟩
    exact ⟨v, rfl, .ref a, rfl, a, C, rfl, T, hno, .inl ⟨eH, fun dx hdx hne => q dx hdx hne⟩⟩
theorem init2_ok {qual : Str} {q1 q2 q3 q4 q5 q6 q7 q8 : Pos} {params : Arguments} {scope : Scope} {dV kV doc pm cdv ct oc : Value} {an od : Option Addr} {osl : Array (Option Value)}
    (lk : K.lookup fI = some ⟨oc, od, .func (PySem.W.fnOf "__init__" qual params [.Assign [.Attribute (.Name "self" q1) f q2] (.Name f q3) q4, .Assign [.Attribute (.Name "self" q5) g q6] (.Name g q7) q8] scope dV kV doc pm an cdv ct), osl⟩) (hcd : PySem.W.codeIn K cdv qual = true) (S : FnScope ["self", f, g] ["self", f, g] scope)
    (T : OexC K C) (hno : PySem.W.findIn K (.ref C) f = some none) (hno2 : PySem.W.findIn K (.ref C) g = some none) (hself : scope.names.lookup ("self" : Str) = some NameKind.local) (hf : scope.names.lookup f = some NameKind.local) (hg : scope.names.lookup g = some NameKind.local)
    (hd1 : (f == ("__debug__" : Str)) = false) (hd2 : (f == ("__classdict__" : Str)) = false) (hd3 : (g == ("__debug__" : Str)) = false) (hd4 : (g == ("__classdict__" : Str)) = false) :
    FnOk P w K mg base CX0 1 fI (PySem.W.fnOf "__init__" qual params [.Assign [.Attribute (.Name "self" q1) f q2] (.Name f q3) q4, .Assign [.Attribute (.Name "self" q5) g q6] (.Name g q7) q8] scope dV kV doc pm an cdv ct) ["self", f, g] (spI2 C K f g) := by
  refine fn_of lk hcd S (fun vs H Q E h => ?_) (fun A outer s H vs Q E hr h => ?_)
  · obtain ⟨a, v, w, rfl, _⟩ := h
    rfl
  · obtain ⟨a, v, w, rfl, eH, q⟩ := h
    refine ⟨_, (pss_cons (ps_ost (pe_var (i := 0) rfl (.inl hself)) (pe_var (i := 1) rfl (.inl hf) hd1 hd2)) (pss_one (ps_ost (pe_var (i := 0) rfl (.inl hself)) (pe_var (i := 2) rfl (.inl hg) hd3 hd4)))).nox, ?_⟩
    refine ⟨v, rfl, .ref a, rfl, a, C, rfl, T, hno, .inl ⟨eH, fun dx hdx hne => ?_⟩⟩
    refine ⟨w, rfl, .ref a, rfl, a, C, rfl, T, hno2, .inr ⟨dx, [(f, v)], upd_same, ?_, by simp, q dx hdx hne⟩⟩
    rw [upd_ne hne, upd_same]
end
/-! ### an except clause's expression: the exception at slot i, its class, its dict -/
section
variable (K : PySem.W.Frag) (mg : Str → Option Value)
def rdHG {α β : Type} (R : RL α β) (i : Nat) (a : Addr) (cls : Value) (dd : Option Addr) (h : List (Str × D) → Ev α) : L2.St → Hp → (β → Hp → Prop) → Prop := fun σ H Q =>
  ∃ c fs m env st, σ[i]? = some (some (.ref a)) ∧ ExOk K mg m H c fs cls dd ∧ EnvOk K mg m H env σ ∧ StOk K mg m H st ∧ Fin K mg R WN σ m H (h fs env st) Q
abbrev rdH (i : Nat) (a : Addr) (cls : Value) (dd : Option Addr) (h : List (Str × D) → Ev D) : TE := rdHG K mg (Rp K mg) i a cls dd h
abbrev rdHA (i : Nat) (a : Addr) (cls : Value) (dd : Option Addr) (h : List (Str × D) → Ev (List D)) : TA := rdHG K mg (RpL K mg) i a cls dd h
variable {K mg}
theorem ExOk.mono {m m' : List Addr} {H H' : Hp} {c : Str} {fs : List (Str × D)} {cls : Value} {dd : Option Addr} (pm : Pre m m') (p : Pers H H') (x : ExOk K mg m H c fs cls dd) : ExOk K mg m' H' c fs cls dd := by
  obtain ⟨a, e1, e2, h | ⟨ad, xs, e3, e4, r⟩⟩ := x
  · exact ⟨a, e1, e2, .inl h⟩
  · exact ⟨a, e1, e2, .inr ⟨ad, xs, e3, p _ _ True.intro e4, Paired.mapP r fun q1 q2 h => ⟨h.1, Rp.mono pm p _ _ h.2⟩⟩⟩
theorem flds_get {m : List Addr} {H : Hp} : ∀ {fs : List (Str × D)} {xs : List (Str × V)} {n : Str} {d : D}, FldOk K mg m H fs xs → fs.lookup n = some d → ∃ v, xs.lookup n = some v ∧ Rp K mg m H d v
  | _, _, _, _, .nil, e => by cases e
  | (n1, d1) :: fs, (n2, v2) :: xs, n, d, .cons ⟨e1, r⟩ t, e => by
    have e1 : n1 = n2 := e1
    subst e1
    rw [List.lookup_cons] at e ⊢
    split at e
    · cases e; exact ⟨v2, rfl, r⟩
    · exact flds_get t e
end
section
variable {X : Cx} {i : Nat} {a : Addr} {cls : Value} {dd : Option Addr} {σ : L2.St} {H : Hp}
theorem rdH_bind {α β γ δ : Type} {R : RL α β} {R2 : RL γ δ} {h : List (Str × D) → Ev α} {k : List (Str × D) → α → Ev γ} {Q : δ → Hp → Prop} (q : rdHG X.K X.mg R2 i a cls dd (fun fs env st => (h fs env st).bind fun x s => k fs x env s) σ H Q) :
    rdHG X.K X.mg R i a cls dd h σ H fun y H1 => ∃ c fs m env st x, σ[i]? = some (some (.ref a)) ∧ ExOk X.K X.mg m H1 c fs cls dd ∧ EnvOk X.K X.mg m H1 env σ ∧ StOk X.K X.mg m H1 st ∧ R m H1 x y ∧ Fin X.K X.mg R2 WN σ m H1 (k fs x env st) Q := by
  obtain ⟨c, fs, m, env, st, e, x, ho, so, q⟩ := q
  refine ⟨c, fs, m, env, st, e, x, ho, so, (Fin.bind (R := R) q).imp fun y H1 p hv => ?_⟩
  obtain ⟨m1, st1, x1, pm, _, s1, r1, h1⟩ := hv
  exact ⟨c, fs, m1, env, st1, x1, e, x.mono pm p, ho.mono pm p, s1, r1, h1⟩
variable {X' : Cx} (hK : X'.K = X.K) (hM : X'.mg = X.mg)
theorem pe_hC {e : Expr} {d : D} {v : V} (hr : ∀ m H, Rp X.K X.mg m H d v) (h : PE X' e (tC v)) : PE X' e (rdH X.K X.mg i a cls dd fun _ => evC d) := PE.weak h fun σ H Q q => by
  obtain ⟨c, fs, m, env, st, _, _, _, so, q⟩ := q
  exact q m H v (Pre.refl _) (Pers.refl _) so (hr m H)
theorem pa_hNil : PA X' [] (rdHA X.K X.mg i a cls dd fun _ => evNil) := PA.weak pa_nil fun σ H Q q => by
  obtain ⟨c, fs, m, env, st, _, _, _, so, q⟩ := q
  exact q m H [] (Pre.refl _) (Pers.refl _) so rfl
theorem pa_hCons {e : Expr} {es : List Expr} {h : List (Str × D) → Ev D} {hl : List (Str × D) → Ev (List D)} (h1 : PE X' e (rdH X.K X.mg i a cls dd h)) (h2 : PA X' es (rdHA X.K X.mg i a cls dd hl)) (hs : starEach (e :: es) X'.env = (false, eval e X'.env) :: starEach es X'.env := by rfl) :
    PA X' (e :: es) (rdHA X.K X.mg i a cls dd fun fs => evCons (h fs) (hl fs)) := PA.weak (pa_cons h1 h2 hs) fun σ H Q q => by
  obtain ⟨c, fs, m, env, st, e, x, ho, so, q⟩ := q
  refine ⟨c, fs, m, env, st, e, x, ho, so, (Fin.bind (R := Rp X.K X.mg) q).imp fun y H1 p hv => ?_⟩
  obtain ⟨m1, st1, x1, pm, _, s1, r1, h1⟩ := hv
  refine ⟨c, fs, m1, env, st1, e, x.mono pm p, ho.mono pm p, s1, (Fin.bind (R := RpL X.K X.mg) h1).imp fun ys H2 p2 hv => ?_⟩
  obtain ⟨m2, st2, xs, pm2, _, s2, r2, h2⟩ := hv
  exact h2 m2 H2 (y :: ys) (Pre.refl _) (Pers.refl _) s2 (RpL.mk_cons (Rp.mono pm2 p2 _ _ r1) r2)
theorem pe_hOp {op : Operator} {f : Op2} {e e2 : Expr} {h h' : List (Str × D) → Ev D} {pos : Pos} (ho : OpR X' (binaryOp op) (rdOp2 X.K X.mg f)) (h1 : PE X' e (rdH X.K X.mg i a cls dd h)) (h2 : PE X' e2 (rdH X.K X.mg i a cls dd h')) :
    PE X' (.BinOp e op e2 pos) (rdH X.K X.mg i a cls dd fun fs => ev2 f (h fs) (h' fs)) := PE.weak (pe_op ho h1 h2) fun σ H Q q => by
  obtain ⟨c, fs, m, env, st, e, x, ho, so, q⟩ := q
  refine ⟨c, fs, m, env, st, e, x, ho, so, (Fin.bind (R := Rp X.K X.mg) q).imp fun y H1 p hv => ?_⟩
  obtain ⟨m1, st1, x1, pm, _, s1, r1, h1⟩ := hv
  refine ⟨c, fs, m1, env, st1, e, x.mono pm p, ho.mono pm p, s1, (Fin.bind (R := Rp X.K X.mg) h1).imp fun y2 H2 p2 hv => ?_⟩
  obtain ⟨m2, st2, x2, pm2, _, s2, r2, h2⟩ := hv
  exact ⟨m2, st2, x1, x2, s2, Rp.mono pm2 p2 _ _ r1, r2, h2.out⟩
theorem rdH_L {f : OpL} {hl : List (Str × D) → Ev (List D)} {Q : VK} (q : rdH X.K X.mg i a cls dd (fun fs => evL f (hl fs)) σ H Q) : tCB (rdOpL X.K X.mg f) (rdHA X.K X.mg i a cls dd hl) σ H Q := by
  obtain ⟨c, fs, m, env, st, e, x, ho, so, q⟩ := q
  refine ⟨c, fs, m, env, st, e, x, ho, so, (Fin.bind (R := RpL X.K X.mg) q).imp fun y H1 p hv => ?_⟩
  obtain ⟨m1, st1, x1, pm, _, s1, r1, h1⟩ := hv
  exact ⟨m1, st1, x1, s1, r1, h1.out⟩
theorem pe_hB {f : OpL} {x : Str} {id : String} {e : Expr} {es : List Expr} {hl : List (Str × D) → Ev (List D)} {p pos : Pos} (hc : CallR X' (.builtin id) (rdOpL X.K X.mg f)) (hg : Gl X' x) (hm : X'.mg x = none) (hv : bootBuiltins x = some (.builtin id)) (ha : PA X' (e :: es) (rdHA X.K X.mg i a cls dd hl))
    (hn : x ≠ "__name__" := by decide) (hdb : (x == ("__debug__" : Str)) = false := by decide) (he : starEach (e :: es) X'.env = (false, eval e X'.env) :: starEach es X'.env := by rfl) (hpl : (backTo pos (starEach es X'.env)).any (·.1) = false := by rfl) :
    PE X' (.Call (.Name x p) (e :: es) [] pos) (rdH X.K X.mg i a cls dd fun fs => evL f (hl fs)) := PE.weak (pe_callB hc hg hm hv ha hn hdb he hpl) fun σ H Q q => rdH_L q
theorem pe_hTup {es : List Expr} {hl : List (Str × D) → Ev (List D)} {k} {pos : Pos} (h : PA X' es (rdHA X.K X.mg i a cls dd hl)) : PE X' (.Tuple es k pos) (rdH X.K X.mg i a cls dd fun fs => evL mkTup (hl fs)) := PE.weak (pe_tup h) fun σ H Q q => by
  obtain ⟨c, fs, m, env, st, e, x, ho, so, q⟩ := q
  refine ⟨c, fs, m, env, st, e, x, ho, so, (Fin.bind (R := RpL X.K X.mg) q).imp fun y H1 p hv => ?_⟩
  obtain ⟨m1, st1, x1, pm, _, s1, r1, h1⟩ := hv
  replace h1 := h1.out
  unfold mkTup at h1
  split at h1
  · rename_i hl
    exact ⟨by rw [r1.length]; exact hl, fun p hp => h1.tup s1 r1 hp⟩
  · exact h1.elim
theorem pe_hLst {es : List Expr} {hl : List (Str × D) → Ev (List D)} {pos : Pos} (h : PA X' es (rdHA X.K X.mg i a cls dd hl)) : PE X' (.List es pos) (rdH X.K X.mg i a cls dd fun fs => evL mkLst (hl fs)) := PE.weak (pe_lst h) fun σ H Q q => by
  obtain ⟨c, fs, m, env, st, e, x, ho, so, q⟩ := q
  refine ⟨c, fs, m, env, st, e, x, ho, so, (Fin.bind (R := RpL X.K X.mg) q).imp fun y H1 p hv => ?_⟩
  obtain ⟨m1, st1, x1, pm, _, s1, r1, h1⟩ := hv
  replace h1 := h1.out
  unfold mkLst at h1
  split at h1
  · rename_i hl
    exact ⟨by rw [r1.length]; exact hl, fun p hp => h1.lst s1 r1 hp⟩
  · exact h1.elim
/-- e.f, e the exception at slot i (its class: C, by its name) -/
theorem pe_hFld {oe : Obj} {pn : List (Addr × Obj)} {x n : Str} {p pos : Pos} (cn : Str) (C : Addr) (hcl : cls = .ref C) (T : XfC X.K C) (hno : PySem.W.findIn X.K (.ref C) n = some none) (hz : Zc cls dd oe) (hf : ∃ vs, oe.data = .fields vs) (hN : X.N[i]? = some x) (hv : Vis X.env.scope x)
    (hd : (x == ("__debug__" : Str)) = false := by decide) (hcd : (x == ("__classdict__" : Str)) = false := by decide) (hb : attributeBase (.Name x p) n X.env (eval (.Name x p) X.env) = eval (.Name x p) X.env := by rfl) :
    PE (X.suite a ((a, oe) :: pn)) (.Attribute (.Name x p) n pos) (rdH X.K X.mg i a cls dd fun fs => evFld fs n) := PE.weak (pe_xf T hno hz hf (pe_var (X := X.suite a ((a, oe) :: pn)) hN hv hd hcd) hb) fun σ H Q q => by
  obtain ⟨c, fs, m, env, st, es, x, ho, so, q⟩ := q
  replace q := q.out
  refine ⟨_, es, rfl, hcl, ?_⟩
  cases e : fs.lookup n with
  | none => rw [e] at q; exact q.elim
  | some d =>
    rw [e] at q
    obtain ⟨ca, _, _, ⟨e1, _⟩ | ⟨ad, xs, e3, e4, r⟩⟩ := x
    · rw [e1] at e; cases e
    · obtain ⟨v, ev, rv⟩ := flds_get r e
      exact ⟨ad, xs, v, e3, e4, ev, q.here so rv⟩
/-- try: body / except cn as n: return expr -/
theorem ps_sTry {W : WX} {T : ExT} {cn n : Str} {c : Value} {body : List Stmt} {b : Ss} {h : List (Str × D) → Ev D} {ex : Expr} {np pos pos' rp : Pos} (hT : TabOk X.K X.mg T) (hs : X.stack = X.env :: X.outer) (hfr : X.env.frame = some X.env.locals) (hN : X.N.Nodup) (hi : X.N[i]? = some n) (hln : X.env.kindOf n = some .local) (hg : Gl X cn) (hdb : (cn == ("__debug__" : Str)) = false) (hcn : X.mg cn = some c) (tk : Takes X W)
    (hb : ∀ (W : WX) (pn : List (Addr × Obj)) (xe : Value → Shared → Prop), Takes (X.tr pn xe) W → PassesOwn (model X.prog X.w) X.A X.env xe → PSs (X.tr pn xe) body (rdS X.K X.mg W b))
    (hh : ∀ (a : Addr) (oe : Obj) (cls : Value) (d : Option Addr) (pn : List (Addr × Obj)), (∃ cc, T cc cn = some true ∧ X.mg cc = some cls) → Zc cls d oe → (∃ vs, oe.data = .fields vs) → PE (X.suite a ((a, oe) :: pn)) ex (rdH X.K X.mg i a cls d h)) :
    PS X (.Try body [.ExceptHandler (some (.Name cn np)) (some n) [.Return (some ex) rp] pos'] [] [] pos) (rdS X.K X.mg W (sTry T cn i b h)) := by
  have hsu : ∀ (a : Addr) (oe : Obj) (cls : Value) (d : Option Addr) (pn : List (Addr × Obj)), Zc cls d oe → (∃ vs, oe.data = .fields vs) → PSs (X.suite a ((a, oe) :: pn)) [.Return (some ex) rp] (fun D σ H => (∃ cc, T cc cn = some true ∧ X.mg cc = some cls) ∧ rdH X.K X.mg i a cls d h σ H D.rt) := fun a oe cls d pn hz hf => by
    refine ⟨fun pins s σ H D I q => ?_⟩
    exact (pss_one (ps_ret (hh a oe cls d pn q.1 hz hf))).run pins s σ H D I q.2
  refine PS.weak (ps_try_as hs hfr hN hi hln ⟨hg, hdb, .inl hcn⟩ tk hb hsu) fun D σ H q => ?_
  obtain ⟨m, env, st, ho, so, q⟩ := q
  refine ⟨m, env, st, ho, so, ?_⟩
  unfold sTry at q
  cases e : b env st with
  | stuck => rw [e] at q; exact q
  | fl f s => rw [e] at q; exact q
  | er cc fs env' s =>
    rw [e] at q
    intro m' H' σ' cls dd pm p s1 ho1 x1
    obtain ⟨ca, ec, emg, rest⟩ := id x1
    cases eT : T cc cn with
    | none => simp only [eT] at q; exact q.elim
    | some bb =>
      refine ⟨bb, ec ▸ hT cc cn bb ca eT emg c hcn, fun hbt a ha => ?_, fun hbf => ?_⟩
      · subst hbt
        simp only [eT] at q
        split at q
        · rename_i hl
          refine ⟨⟨cc, eT, by rw [ec]; exact emg⟩, cc, fs, m', env'.set i none, s, ?_, x1, ho1.forget i, s1, ?_⟩
          · rw [List.getElem?_set_self (by rw [← ho1.len]; exact hl)]
          · cases eh : h fs (env'.set i none) s with
            | ok d s2 =>
              rw [eh] at q
              exact fun m2 H2 v a1 a2 a3 r => q m2 H2 (pm.trans a1) (p.trans a2) a3 v r
            | err _ _ _ => rw [eh] at q; exact q.elim
            | stuck => rw [eh] at q; exact q.elim
        · exact q.elim
      · subst hbf
        simp only [eT] at q
        exact q m' H' σ' cls dd pm p s1 ho1 x1
end
end PP
set_option Elab.async false
set_option linter.all false
set_option maxRecDepth 100000
set_option maxHeartbeats 2000000
/-! PP16: dict displays; callees in short; room. -/
namespace PP
open PySem PySem.Spec PyProof.Rows L2

theorem u1 {A : Around} {k : Nat} (hr : Room k A) : A.units + 1 < cLine := by have := hr.un; omega
theorem u64 {A : Around} {k : Nat} (hr : Room k A) : A.units + 64 < cLine := by have := hr.un; omega
theorem u65 {A : Around} {k : Nat} (hr : Room k A) : A.units + 65 < cLine := by have := hr.un; omega
/-- what a caller knows of a def x -/
structure Cal (K : PySem.W.Frag) (mg : Str → Option Value) (P : Program) (w : World) (base : Heap) (x : Str) (k : Nat) (ps : List Str) (g : Fn) : Prop where
  ex : ∃ (f : Addr) (fd : FuncData), FnG K mg P w base k f fd ps g ∧ mg x = some (.ref f) ∧ PySem.W.keepIn K (.ref f) = true ∧ Binds K fd ps []
section
variable {X : Cx} {W : WX} {k : Nat} {ps : List Str} {g : Fn} {x : Str} {p pos : Pos} {e : Expr} {es : List Expr} {fl : Ev (List D)}
theorem pe_evCal (c : Cal X.K X.mg X.prog X.w X.base x k ps g) (hr : Room k X.A) (hgs : X.A.guards = some []) (hg : Gl X x) (tk : Takes X W) (ha : PA X (e :: es) (rdA X.K X.mg W fl)) (hn : ∀ env st ds s, fl env st = .ok ds s → ds.length = ps.length)
    (hdb : (x == ("__debug__" : Str)) = false := by decide) (he : starEach (e :: es) X.env = (false, eval e X.env) :: starEach es X.env := by rfl) (hpl : (backTo pos (starEach es X.env)).any (·.1) = false := by rfl) :
    PE X (.Call (.Name x p) (e :: es) [] pos) (rdE X.K X.mg W (evCall g fl)) := by
  obtain ⟨f, fd, F, hm, hk, hb⟩ := c.ex
  exact pe_evCall F hr hgs hg hm hk hb tk ha hn hdb he hpl
theorem pe_evCal0 (c : Cal X.K X.mg X.prog X.w X.base x k [] g) (hr : Room k X.A) (hgs : X.A.guards = some []) (hg : Gl X x) (tk : Takes X W) (hdb : (x == ("__debug__" : Str)) = false := by decide) :
    PE X (.Call (.Name x p) [] [] pos) (rdE X.K X.mg W (evCall g evNil)) := by
  obtain ⟨f, fd, F, hm, hk, hb⟩ := c.ex
  exact pe_evCall0 F hr hgs hg hm hk hb tk hdb

/-! ### {k: v, ..} -/
abbrev Evs := EnvD → Store → Res (List (D × D))
def evPrs : List (Ev D × Ev D) → Evs
  | [] => fun _ st => .ok [] st
  | (k, v) :: r => fun env st => (k env st).bind fun x s1 => (v env s1).bind fun y s2 => (evPrs r env s2).bind fun ps s3 => .ok ((x, y) :: ps) s3
def dispEnd (l : Nat) (ps : List (D × D)) (st : Store) : Res D := match st[l]? with
  | some (false, .dcK []) => if (ps.all fun p => isK p.1) = true ∧ ps.length ≤ 15 then .ok (.ref l) (st.set l (false, .dct (putAll [] ps))) else .stuck
  | _ => .stuck
def evDisp (trs : List (Ev D × Ev D)) : Ev D := fun env st => (evPrs trs env (st ++ [(false, .dcK [])])).bind fun ps s => dispEnd st.length ps s
def PrR (K : PySem.W.Frag) (mg : Str → Option Value) : RL (List (D × D)) (List (V × V)) := fun m H ps vs => Paired (fun (p : D × D) (q : V × V) => Rp K mg m H p.1 q.1 ∧ Rp K mg m H p.2 q.2) ps vs
theorem rd_prs : ∀ (trs : List (Ev D × Ev D)) {σ : L2.St} {H : Hp} {Q : List (V × V) → Hp → Prop}, rdG X.K X.mg (PrR X.K X.mg) W (evPrs trs) σ H Q → tPairs (trs.map fun t => (rdE X.K X.mg W t.1, rdE X.K X.mg W t.2)) σ H Q
  | [], σ, H, Q, h => by
    obtain ⟨m, env, st, ho, so, h⟩ := h
    exact h m H [] (Pre.refl _) (Pers.refl _) so .nil
  | (k, v) :: r, σ, H, Q, h => by
    obtain ⟨m, env, st, ho, so, h⟩ := h
    refine ⟨m, env, st, ho, so, (Fin.bind (R := Rp X.K X.mg) h).imp fun x H1 p hv => ?_⟩
    obtain ⟨m1, st1, d, pm, _, s1, r1, h1⟩ := hv
    refine ⟨m1, env, st1, ho.mono pm p, s1, (Fin.bind (R := Rp X.K X.mg) h1).imp fun y H2 p2 hv => ?_⟩
    obtain ⟨m2, st2, d2, pm2, _, s2, r2, h2⟩ := hv
    refine rd_prs r ⟨m2, env, st2, (ho.mono pm p).mono pm2 p2, s2, (Fin.bind (R := PrR X.K X.mg) h2).imp fun ps H3 p3 hv => ?_⟩
    obtain ⟨m3, st3, ds, pm3, _, s3, r3, h3⟩ := hv
    exact h3 m3 H3 ((x, y) :: ps) (Pre.refl _) (Pers.refl _) s3 (.cons ⟨Rp.mono pm3 p3 _ _ (Rp.mono pm2 p2 _ _ r1), Rp.mono pm3 p3 _ _ r2⟩ r3)
theorem prs_keys {K : PySem.W.Frag} {mg : Str → Option Value} {m : List Addr} {H : Hp} : ∀ {ps : List (D × D)} {vs : List (V × V)}, PrR K mg m H ps vs → (ps.all fun p => isK p.1) = true → ∃ kvs : List (Key × V), vs = kvs.map (fun kv => (kV kv.1, kv.2)) ∧ Kvs K mg m H fK ps kvs
  | _, _, .nil, _ => ⟨[], rfl, .nil⟩
  | p :: ps, q :: vs, .cons ⟨r1, r2⟩ t, h => by
    rw [List.all_cons, Bool.and_eq_true] at h
    obtain ⟨kvs, rfl, hk⟩ := prs_keys t h.2
    obtain ⟨k, ek⟩ := isK_of h.1
    rw [ek] at r1
    have e1 := Rp_kD.mp r1
    refine ⟨(k, q.2) :: kvs, ?_, .cons ⟨ek, r2⟩ hk⟩
    rw [List.map_cons, ← e1]
theorem pe_evDisp {trs : List (Ev D × Ev D)} {keys : List (Option Expr)} {values : List Expr} (h : PPs X pos keys values (trs.map fun t => (rdE X.K X.mg W t.1, rdE X.K X.mg W t.2))) (hall : keys.all (·.isSome) = true) (hl : keys.length = values.length) (h0 : keys ≠ [])
    (h15 : keys.length ≤ 15) : PE X (.Dict keys values pos) (rdE X.K X.mg W (evDisp trs)) := PE.weak (pe_disp h hall hl h0 h15) fun σ H Q h => by
  obtain ⟨m, env, st, ho, so, h⟩ := h
  intro p hp
  have pD : Pers H (upd H p (.dK [])) := Pers.new hp
  have sD : StOk X.K X.mg (m ++ [p]) (upd H p (.dK [])) (st ++ [(false, .dcK [])]) := so.snoc hp ⟨[], .nil, upd_same⟩
  have eD : (m ++ [p])[st.length]? = some p := Pre.last so.len
  refine rd_prs trs ⟨m ++ [p], env, _, ho.mono (Pre.snoc m p) pD, sD, (Fin.bind (R := PrR X.K X.mg) (Fin.mono (Pre.snoc m p) pD h)).imp fun vs H1 p1 hv => ?_⟩
  obtain ⟨m1, st1, ps, pm, _, s1, r1, h1⟩ := hv
  unfold dispEnd at h1
  split at h1
  · rename_i e1
    split at h1
    · rename_i hc
      obtain ⟨xs, rx, eH⟩ := (show CellOk X.K X.mg m1 H1 p false (.dcK []) from s1.at_ _ _ _ p e1 (pm _ _ eD))
      have eH : H1 p = some (.dK xs) := eH
      have ex := rx.nil_of
      subst ex
      obtain ⟨kvs, rfl, hk⟩ := prs_keys r1 hc.1
      refine ⟨eH, kvs, rfl, by rw [← hk.length]; exact hc.2, ?_⟩
      have pw : Pers H1 (upd H1 p (.dK (mergeK [] kvs))) := Pers.write eH (fun z => z)
      exact h1 m1 _ _ (Pre.refl _) pw (s1.write e1 (pm _ _ eD) pw (.inl ⟨_, (putAll_rp hk .nil).mono (Pre.refl _) pw, upd_same⟩)) ⟨p, rfl, pm _ _ eD⟩
    · exact h1.elim
  · exact h1.elim
end
end PP
set_option Elab.async false
set_option linter.all false
set_option maxRecDepth 100000
set_option maxHeartbeats 2000000
/-! PP17: a dict compared with an empty one; x op= e. -/
namespace PP
open PySem PySem.Spec PyProof.Rows L2

/-- d == {} or d != {}: is d empty -/
def empD (st : Store) (d e : D) : Option Bool := match d, e with
  | .ref l, .ref k => match st[k]? with
    | some (false, .dct []) => if l = k then none else (dctK st d).map (·.isEmpty)
    | _ => none
  | _, _ => none
def eqX : Op2 := fun d e st => match empD st d e with
  | some b => some (.bl b, st)
  | none => eqD d e st
def neX : Op2 := fun d e st => match empD st d e with
  | some b => some (.bl (!b), st)
  | none => neD d e st
section
variable {X : Cx}
theorem empD_at {pins : List (Addr × Obj)} {σ : L2.St} {m : List Addr} {H : Hp} {s : Shared} {st : Store} (I : Inv X pins σ H s) (so : StOk X.K X.mg m H st) {d e : D} {x y : V} {b : Bool} (rd : Rp X.K X.mg m H d x) (re : Rp X.K X.mg m H e y) (h : empD st d e = some b) :
    ∃ (a c : Addr) (kv : List (Key × V)) (H1 : Hp), x = .ref a ∧ y = .ref c ∧ Inv X pins σ H1 s ∧ StOk X.K X.mg m H1 st ∧ Pers H H1 ∧ Rd H1 a (.dK kv) ∧ Rd H1 c (.dK []) ∧ b = kv.isEmpty := by
  unfold empD at h
  split at h
  · rename_i l k
    split at h
    · rename_i ek
      split at h
      · cases h
      · rename_i hlk
        obtain ⟨kvs, e1, rfl⟩ := Option.map_eq_some_iff.mp h
        obtain ⟨a, rfl, ea⟩ := id rd
        obtain ⟨c, rfl, ec⟩ := re
        obtain ⟨a', kv', H1, q, I1, s1, p1, hd, kr⟩ := dctK_at I so rd e1
        cases q
        have hac : a ≠ c := fun z => by
          subst z
          obtain ⟨h1, q1⟩ := List.getElem?_eq_some_iff.mp ea
          obtain ⟨h2, q2⟩ := List.getElem?_eq_some_iff.mp ec
          exact hlk ((List.getElem_inj so.nd).mp (q1.trans q2.symm))
        have hb : kvs.isEmpty = kv'.isEmpty := by cases kr <;> rfl
        rcases (s1.at_ k _ _ c ek ec).emp with eH | eH
        · exact ⟨a, c, kv', H1, rfl, rfl, I1, s1, p1, hd, .inl eH, hb⟩
        · obtain ⟨s2, p2⟩ := s1.turn ek ec eH (fun z => z) (.inl rfl)
          refine ⟨a, c, kv', _, rfl, rfl, Inv.asK I1 eH, s2, p1.trans p2, ?_, .inl upd_same, hb⟩
          rcases hd with hd | ⟨o, hd⟩
          · exact .inl (by rw [upd_ne hac]; exact hd)
          · exact .inr ⟨o, by rw [upd_ne hac]; exact hd⟩
    · cases h
  · cases h
theorem hits_none {K : Type} [DecidableEq K] {A : Around} {s : Shared} {ka : List (K × Value)} (h : ka.length = ([] : List (K × Value)).length) : PySem.W.KeqHits A s ([] : List (K × Value)) ka true := by
  cases ka with
  | nil => exact .nil
  | cons p r => cases h
theorem len_emp {kv : List (Key × V)} {vs : List (Key × Value)} (r : KV kv vs) : (vs.length == ([] : List (Key × Value)).length) = kv.isEmpty := by
  cases r <;> rfl
theorem op_eqX (hu : X.A.units + 64 < cLine) : OpR X (compareOp .Eq) (rdOp2 X.K X.mg eqX) := by
  intro pins s σ H x y v u Q I rx ry h
  obtain ⟨m, st, d, e, so, rd, re, o⟩ := h
  unfold eqX at o
  split at o
  · rename_i b eb
    obtain ⟨a, c, kv, H1, rfl, rfl, I1, s1, p1, hd, hc, rfl⟩ := empD_at I so rd re eb
    cases rx; cases ry
    obtain ⟨_, lo, vs, rel, dd⟩ := dk_rd I1.hok hd
    obtain ⟨_, lo2, ws, rel2, dd2⟩ := dk_rd I1.hok hc
    cases rel2
    refine PySem.W.keq_eq lo lo2 dd dd2 (by omega) (fun q => hits_none q) ?_
    rw [len_emp rel, Bool.and_true]
    exact ⟨.bl kv.isEmpty, H1, I1, rfl, o m H1 _ (Pre.refl _) p1 s1 rfl⟩
  · exact op_eqDd hu pins s σ H x y v u Q I rx ry ⟨m, st, d, e, so, rd, re, o⟩
theorem op_neX (hu : X.A.units + 64 < cLine) : OpR X (compareOp .NotEq) (rdOp2 X.K X.mg neX) := by
  intro pins s σ H x y v u Q I rx ry h
  obtain ⟨m, st, d, e, so, rd, re, o⟩ := h
  unfold neX at o
  split at o
  · rename_i b eb
    obtain ⟨a, c, kv, H1, rfl, rfl, I1, s1, p1, hd, hc, rfl⟩ := empD_at I so rd re eb
    cases rx; cases ry
    obtain ⟨_, lo, vs, rel, dd⟩ := dk_rd I1.hok hd
    obtain ⟨_, lo2, ws, rel2, dd2⟩ := dk_rd I1.hok hc
    cases rel2
    refine PySem.W.keq_ne lo lo2 dd dd2 (by omega) (fun q => hits_none q) ?_
    rw [len_emp rel, Bool.and_true]
    exact ⟨.bl (!kv.isEmpty), H1, I1, rfl, o m H1 _ (Pre.refl _) p1 s1 rfl⟩
  · exact op_neDd hu pins s σ H x y v u Q I rx ry ⟨m, st, d, e, so, rd, re, o⟩
/-- x += e, x -= e of ints -/
def augI (f : Int → Int → Int) : Op2 := fun d e st => match d, e with
  | .int a, .int b => some (.int (f a b), st)
  | _, _ => none
theorem PIp.weak {op : Operator} {t t' : TIp} (h : PIp X op t) (i : ∀ x y H Q, t' x y H Q → t x y H Q) : PIp X op t' := fun pins s σ H x y v u Q I rx ry q => h pins s σ H x y v u Q I rx ry (i _ _ _ _ q)
theorem ip_augAdd : PIp X .Add (rdOp2 X.K X.mg (augI fun i j => i + j)) := PIp.weak ip_add fun x y H Q h => by
  obtain ⟨m, st, d, e, so, rd, re, o⟩ := h
  unfold augI at o
  split at o
  · cases rd; cases re; exact ⟨_, _, rfl, rfl, o.here so rfl⟩
  · exact o.elim
theorem ip_augSub : PIp X .Sub (rdOp2 X.K X.mg (augI fun i j => i - j)) := PIp.weak ip_sub fun x y H Q h => by
  obtain ⟨m, st, d, e, so, rd, re, o⟩ := h
  unfold augI at o
  split at o
  · cases rd; cases re; exact ⟨_, _, rfl, rfl, o.here so rfl⟩
  · exact o.elim
end
/-! ### own exception classes, in short -/
structure XC1 (K : PySem.W.Frag) (mg : Str → Option Value) (P : Program) (w : World) (base : Heap) (c f : Str) (C : Addr) : Prop where
  gC : mg c = some (.ref C)
  oex : OexC K C
  xf : XfC K C
  no : PySem.W.findIn K (.ref C) f = some none
  ini : ∃ (fI : Addr) (fd : FuncData), PySem.W.findIn K (.ref C) "__init__" = some (some (.ref fI)) ∧ PySem.W.typeIn K (.ref fI) = some (.type "function") ∧ FnOk P w K mg base CX0 1 fI fd ["self", f] (spI1 C K f) ∧ Binds K fd ["self", f] []
structure XC2 (K : PySem.W.Frag) (mg : Str → Option Value) (P : Program) (w : World) (base : Heap) (c f g : Str) (C : Addr) : Prop where
  gC : mg c = some (.ref C)
  oex : OexC K C
  xf : XfC K C
  no : PySem.W.findIn K (.ref C) f = some none
  no2 : PySem.W.findIn K (.ref C) g = some none
  ini : ∃ (fI : Addr) (fd : FuncData), PySem.W.findIn K (.ref C) "__init__" = some (some (.ref fI)) ∧ PySem.W.typeIn K (.ref fI) = some (.type "function") ∧ FnOk P w K mg base CX0 1 fI fd ["self", f, g] (spI2 C K f g) ∧ Binds K fd ["self", f, g] []
theorem blk_of {N : List Str} {sc scope : Scope} {own : List (Str × Nat)} (h : blkC N sc scope own = true) : blkC N sc scope own = true := h
theorem cls_of {mg : Str → Option Value} {T : ExT} {cn : Str} {cls : Value} {C : Addr} (h : ∃ cc, T cc cn = some true ∧ mg cc = some cls) (hT : ∀ cc, T cc cn = some true → cc = cn) (g : mg cn = some (.ref C)) : cls = .ref C := by
  obtain ⟨cc, e1, e2⟩ := h
  rw [hT cc e1, g] at e2
  exact (Option.some.inj e2).symm
section
variable {X : Cx} {W : WX} {c f g : Str} {C : Addr} {fl : Ev (List D)} {e : Expr} {es : List Expr} {p pos pos2 : Pos}
theorem XC1.raise (x : XC1 X.K X.mg X.prog X.w X.base c f C) (hc : X.calm = true) (tk : Takes X W) (hr : Room 2 X.A) (hg : Gl X c) (ha : PA X (e :: es) (rdA X.K X.mg W fl))
    (hdb : (c == ("__debug__" : Str)) = false := by decide) (he : starEach (e :: es) X.env = (false, eval e X.env) :: starEach es X.env := by rfl) (hpl : (backTo pos (starEach es X.env)).any (·.1) = false := by rfl) :
    PS X (.Raise (some (.Call (.Name c p) (e :: es) [] pos)) none pos2) (rdS X.K X.mg W (sRaise c [f] fl)) := by
  obtain ⟨fI, fd, h1, h2, h3, h4⟩ := x.ini
  exact ps_sRaise1 hc tk x.oex h1 h2 h3 hr h4 hg x.gC ha hdb he hpl
theorem XC2.raise (x : XC2 X.K X.mg X.prog X.w X.base c f g C) (hc : X.calm = true) (tk : Takes X W) (hr : Room 2 X.A) (hg : Gl X c) (ha : PA X (e :: es) (rdA X.K X.mg W fl))
    (hdb : (c == ("__debug__" : Str)) = false := by decide) (he : starEach (e :: es) X.env = (false, eval e X.env) :: starEach es X.env := by rfl) (hpl : (backTo pos (starEach es X.env)).any (·.1) = false := by rfl) :
    PS X (.Raise (some (.Call (.Name c p) (e :: es) [] pos)) none pos2) (rdS X.K X.mg W (sRaise c [f, g] fl)) := by
  obtain ⟨fI, fd, h1, h2, h3, h4⟩ := x.ini
  exact ps_sRaise2 hc tk x.oex h1 h2 h3 hr h4 hg x.gC ha hdb he hpl
end
end PP
set_option Elab.async false
set_option linter.all false
set_option maxRecDepth 100000
set_option maxHeartbeats 2000000
/-! PP18: the head's facts: a Hook of any test of the written part and of its defs. -/
namespace PP
open PySem PySem.Spec PyProof.Rows L2 He

def obsF (fb : PySem.W.Frag → Bool) (fn : List DefD) (K : PySem.W.Frag) : AlD := (fb K && fn.all fun d => d.ok K, fn.map fun d => fnW K d.at_)
def SaysF (fb : PySem.W.Frag → Bool) (fn : List DefD) (K : PySem.W.Frag) : Prop := obsF fb fn K = valD fn
def obsFG (n : Nat) (fb : PySem.W.Frag → Bool) (fn : List DefD) (g : Addr → Option Obj) : AlD := obsF fb fn (frG g (asD g n))
def hookF (n : Nat) (fb : PySem.W.Frag → Bool) (fn : List DefD) : PySem.W.Hook where
  α := AlD
  obs := fun s => obsFG n fb fn s.heap.get?
  val := fun _ => valD fn
  says := fun _ h => ∃ K : PySem.W.Frag, K.In h ∧ SaysF fb fn K
  of := fun _ _ q => ⟨_, frG_in, q⟩
  keeps := fun _ _ _ ⟨K, hK, q⟩ k => ⟨K, PySem.W.Frag.In.keeps hK k, q⟩
theorem obsFG_eq {n : Nat} {fb : PySem.W.Frag → Bool} {fn : List DefD} {g : Addr → Option Obj} {s : Shared} (h : ∀ a, g a = s.heap.get? a) : obsFG n fb fn g = (hookF n fb fn).obs s := by
  have q : g = s.heap.get? := funext h
  rw [q] <;> rfl
section
variable {tb : PySem.W.Frag → Bool} {fn : List DefD} {K : PySem.W.Frag}
theorem SaysF.test (c : SaysF tb fn K) : tb K = true := (ba (show (tb K && fn.all fun d => d.ok K) = true from congrArg (fun z : AlD => z.1) c)).1
theorem SaysF.at_ (c : SaysF tb fn K) (i : Nat) {d : DefD} (h : fn[i]? = some d := by rfl) : ∃ fd, FunD K d.name d.qual d.params d.body d.scope (d.dvs K) (d.kws K) (fAd K d.at_) fd := by
  have ok := (ba (show (tb K && fn.all fun d => d.ok K) = true from congrArg (fun z : AlD => z.1) c)).2
  have tx : fn.map (fun d => fnW K d.at_) = fn.map DefD.val := congrArg (fun z : AlD => z.2) c
  have q : (fn.map fun d => fnW K d.at_)[i]? = (fn.map DefD.val)[i]? := by rw [tx]
  rw [List.getElem?_map, List.getElem?_map, h] at q
  exact DefD.funD (Option.some.inj q) (List.all_eq_true.mp ok d (List.mem_of_getElem? h))
end
/-! ### own exception classes, by a test -/
def mroB (C : Addr) (hasDel hasDict : Bool) (mro : List Value) (l : List (Option Value)) : Bool := match mro, l with
  | .ref C' :: bm, [_, _, _, _, some (.builtin n), _] => decide (C' = C) && (decide (n = "ValueError.__new__") && (!hasDel && (hasDict && PySem.HandSPX.refsVE bm)))
  | _, _ => false
theorem mroB_of {C : Addr} {a b : Bool} {mro : List Value} {l : List (Option Value)} (h : mroB C a b mro l = true) : ∃ bm k0 k1 k2 k3 k5, mro = .ref C :: bm ∧ l = [k0, k1, k2, k3, some (.builtin "ValueError.__new__"), k5] ∧ a = false ∧ b = true ∧ PySem.HandSPX.refsVE bm = true := by
  unfold mroB at h
  split at h
  · obtain ⟨q1, h⟩ := ba h
    obtain ⟨q2, h⟩ := ba h
    obtain ⟨q3, h⟩ := ba h
    obtain ⟨q4, q5⟩ := ba h
    have q1 := of_decide_eq_true q1
    have q2 := of_decide_eq_true q2
    subst q1 q2
    exact ⟨_, _, _, _, _, _, rfl, rfl, by simpa using q3, q4, q5⟩
  · cases h
def clsB (K : PySem.W.Frag) (C : Addr) : Bool := match K.lookup C with
  | some ⟨.type t, _, .cls cd, sl⟩ => decide (t = "type") && mroB C cd.hasDel cd.hasDict cd.mro sl.toList
  | _ => false
theorem clsB_of {K : PySem.W.Frag} {C : Addr} (h : clsB K C = true) : ∃ nm q N bs bm sn sub ab col dd k0 k1 k2 k3 k5, K.lookup C = some (excClassObj nm q C N bs bm true sn sub ab col dd k0 k1 k2 k3 k5 "ValueError.__new__") ∧ PySem.HandSPX.refsVE bm = true := by
  unfold clsB at h
  cases e : K.lookup C with
  | none => rw [e] at h; cases h
  | some o =>
    rw [e] at h
    obtain ⟨oc, od, dt, sl⟩ := o
    cases oc with
    | type t =>
      cases dt with
      | cls cd =>
        obtain ⟨ht, hm⟩ := ba h
        have ht := of_decide_eq_true ht
        subst ht
        obtain ⟨bm, k0, k1, k2, k3, k5, e1, e2, e3, e4, e5⟩ := mroB_of hm
        obtain ⟨nm, bs, mro, nsp, qn, hdd, sn, sub, ab, col, del⟩ := cd
        obtain ⟨l⟩ := sl
        simp only at e1 e2 e3 e4
        subst e1 e2 e3 e4
        exact ⟨nm, qn, nsp, bs, bm, sn, sub, ab, col, od, k0, k1, k2, k3, k5, rfl, e5⟩
      | _ => cases h
    | _ => cases h
def oexB (K : PySem.W.Frag) (C : Addr) : Bool := clsB K C && (eqO (PySem.W.findIn K (.ref C) "__setattr__") (some (some (.builtin "object.__setattr__"))) && (decide (PySem.W.subIn K (.ref C) (.type "BaseException") = some true) && (decide (PySem.W.typeIn K (.ref C) = some (.type "type")) && PySem.W.keepIn K (.ref C))))
theorem oexB_ok {K : PySem.W.Frag} {C : Addr} (h : oexB K C = true) : OexC K C := by
  obtain ⟨h0, h⟩ := ba h
  obtain ⟨h1, h⟩ := ba h
  obtain ⟨h2, h⟩ := ba h
  obtain ⟨h3, h4⟩ := ba h
  exact ⟨clsB_of h0, eqO_ok h1, of_decide_eq_true h2, of_decide_eq_true h3, h4⟩
/-- a class's own statements -/
def clsBody : Stmt → List Stmt
  | .ClassDef _ _ _ b _ _ _ _ _ _ _ => b
  | _ => []
/-- a class c with an __init__ and these fields -/
def exB (c : Str) (fs : List Str) (K : PySem.W.Frag) : Bool := (Fa.glo c).ok K && (oexB K (ga K c) && (xfB K (ga K c) && (fs.all (fun f => eqO (PySem.W.findIn K (.ref (ga K c)) f) (some none)) &&
  (eqO (PySem.W.findIn K (.ref (ga K c)) "__init__") (some (some (.ref (ma K (ga K c) "__init__")))) && decide (PySem.W.typeIn K (.ref (ma K (ga K c) "__init__")) = some (.type "function"))))))
section
variable {P : Program} {w : World} {K : PySem.W.Frag} {h : Heap} {mg : Str → Option Value} {base : Heap}
theorem mkXC1 (kin : K.In h) (G : h.Ns mainGlobals mg) {c f : Str} (hb : exB c [f] K = true) {qual : Str} {params : Arguments} {scope : Scope} {q1 q2 q3 q4 : Pos} {fd : FuncData}
    (F : FunD K "__init__" qual params [.Assign [.Attribute (.Name "self" q1) f q2] (.Name f q3) q4] scope [] [] (fAd K (c, some "__init__")) fd) (S : FnScope ["self", f] ["self", f] scope) (hs : scope.names.lookup ("self" : Str) = some NameKind.local) (hf : scope.names.lookup f = some NameKind.local)
    (hd1 : (f == ("__debug__" : Str)) = false) (hd2 : (f == ("__classdict__" : Str)) = false)
    (bi : ∀ (kV doc pm : Value) (an : Option Addr) (cdv ct : Value) (us : List Value), us.length = 2 → bindArgs (PySem.W.fnOf "__init__" qual params [.Assign [.Attribute (.Name "self" q1) f q2] (.Name f q3) q4] scope .none kV doc pm an cdv ct) ⟨us, []⟩ = pure ((["self", f] : List Str).zip us)) :
    XC1 K mg P w base c f (ga K c) := by
  obtain ⟨h1, hb⟩ := ba hb
  obtain ⟨h2, hb⟩ := ba hb
  obtain ⟨h3, hb⟩ := ba hb
  obtain ⟨h4, hb⟩ := ba hb
  obtain ⟨h5, h6⟩ := ba hb
  have no := eqO_ok (List.all_eq_true.mp h4 f List.mem_cons_self)
  refine ⟨glo_ok kin G h1, oexB_ok h2, xfB_ok h3, no, ma K (ga K c) "__init__", fd, eqO_ok h5, of_decide_eq_true h6, ?_, FunD.bindsN F bi⟩
  obtain ⟨oc, od, dV, kV, doc, pm, an, cdv, ct, osl, rfl, lk, hcd, _, _⟩ := F.ex
  exact init1_ok (b := .Pass ⟨0, 0, 0, 0⟩) lk hcd S (oexB_ok h2) no hs hf hd1 hd2
/-- a def of the text -/
theorem FunD.okG {x qual : Str} {params : Arguments} {body : List Stmt} {scope : Scope} {f : Addr} {fd : FuncData} {N ps : List Str} {k n : Nat} {b : Ss} (F : FunD K x qual params body scope [] [] f fd) (S : FnScope N ps scope) (hn : N.length = n)
    (hb : ∀ (cdv : Value) (A : Around) (outer : List Env) (s : Shared) (H : Hp) (E : XK), Room k (A.deeper (envOfC qual scope s.heap.objs.size f cdv)) → (A.deeper (envOfC qual scope s.heap.objs.size f cdv)).guards = some [] →
      PSs (cxOf (L2.CX P w) P w K mg base N qual scope f cdv A outer s H E) body (rdS K mg (fun cls d _ H => E cls d H) b)) : FnG K mg P w base (k + 1) f fd ps (runS n b) := by
  obtain ⟨oc, od, dV, kV, doc, pm, an, cdv, ct, osl, rfl, lk, hcd, _, _⟩ := F.ex
  subst hn
  exact fnG_of lk hcd S (hb cdv)
theorem mkCal (kin : K.In h) (G : h.Ns mainGlobals mg) {x qual : Str} {params : Arguments} {body : List Stmt} {scope : Scope} {k : Nat} {ps : List Str} {g : Fn} {fd : FuncData} (hb : (Fa.glo x).ok K = true) (F : FunD K x qual params body scope [] [] (fAd K (x, none)) fd)
    (Gf : FnG K mg P w base k (fAd K (x, none)) fd ps g)
    (bi : ∀ (kV doc pm : Value) (an : Option Addr) (cdv ct : Value) (us : List Value), us.length = ps.length → bindArgs (PySem.W.fnOf x qual params body scope .none kV doc pm an cdv ct) ⟨us, []⟩ = pure (ps.zip us)) : Cal K mg P w base x k ps g :=
  ⟨_, fd, Gf, glo_ok kin G hb, F.kp, FunD.bindsN F bi⟩
end
end PP
set_option Elab.async false
set_option linter.all false
set_option maxRecDepth 100000
set_option maxHeartbeats 2000000
/-! PP19: reasoning about evaluators: values that hang on a part of the store alone; loops. -/
namespace PP
open PySem PySem.Spec PyProof.Rows L2

/-- S goes on from st -/
def Ext (st S : Store) : Prop := ∃ ex, S = st ++ ex
theorem Ext.refl (st : Store) : Ext st st := ⟨[], by simp⟩
theorem Ext.app {st S : Store} (h : Ext st S) (ex : Store) : Ext st (S ++ ex) := by obtain ⟨e, rfl⟩ := h; exact ⟨e ++ ex, by simp⟩
theorem Ext.trans {a b c : Store} (h : Ext a b) (k : Ext b c) : Ext a c := by obtain ⟨e, rfl⟩ := h; obtain ⟨f, rfl⟩ := k; exact ⟨e ++ f, by simp⟩
theorem Ext.get {st S : Store} (h : Ext st S) {l : Nat} {x : Bool × Cell} (e : st[l]? = some x) : S[l]? = some x := by
  obtain ⟨ex, rfl⟩ := h
  rw [List.getElem?_append_left (List.getElem?_eq_some_iff.mp e).1]; exact e
theorem Ext.len {st S : Store} (h : Ext st S) : st.length ≤ S.length := by obtain ⟨ex, rfl⟩ := h; simp
/-- in every store that goes on from st the result is a, and things are only laid -/
def Rpu {α : Type} (r : Store → Res α) (st : Store) (a : α) : Prop := ∀ S, Ext st S → ∃ ex, r S = .ok a (S ++ ex)
abbrev Pr {α : Type} (f : Ev α) (env : EnvD) (st : Store) (a : α) : Prop := Rpu (f env) st a
/-- a def at such values -/
abbrev Pg (g : Fn) (ds : List D) (st : Store) (a : D) : Prop := Rpu (g ds) st a
/-- an operation that changes nothing -/
def Po {α : Type} (f : Store → Option (α × Store)) (st : Store) (a : α) : Prop := ∀ S, Ext st S → f S = some (a, S)
theorem Rpu.mono {α : Type} {r : Store → Res α} {st st' : Store} {a : α} (h : Rpu r st a) (e : Ext st st') : Rpu r st' a := fun S x => h S (e.trans x)
theorem Rpu.here {α : Type} {r : Store → Res α} {st : Store} {a : α} (h : Rpu r st a) : ∃ ex, r st = .ok a (st ++ ex) := h st (Ext.refl st)
theorem Rpu.bind {α β : Type} {r : Store → Res α} {k : α → Store → Res β} {st : Store} {a : α} {b : β} (h : Rpu r st a) (h2 : Rpu (k a) st b) : Rpu (fun S => (r S).bind k) st b := fun S x => by
  obtain ⟨ex, e⟩ := h S x
  obtain ⟨ex2, e2⟩ := h2 (S ++ ex) (x.app ex)
  exact ⟨ex ++ ex2, by show (r S).bind k = _; rw [e]; show k a (S ++ ex) = _; rw [e2, List.append_assoc]⟩
theorem Rpu.ok {α : Type} {st : Store} {a : α} : Rpu (fun S => .ok a S) st a := fun S _ => ⟨[], by simp⟩
theorem Po.rpu {α : Type} {f : Store → Option (α × Store)} {st : Store} {a : α} (h : Po f st a) : Rpu (fun S => .ofOpt (f S)) st a := fun S x => ⟨[], by show Res.ofOpt (f S) = _; rw [h S x, List.append_nil]; rfl⟩
section
variable {env : EnvD} {st : Store} {f g : Ev D} {x y z : D} {ds : List D}
theorem pr_var {i : Nat} (h : env[i]? = some (some x)) : Pr (evVar i) env st x := fun S _ => ⟨[], by unfold evVar; rw [h]; simp⟩
theorem pr_c : Pr (evC x) env st x := Rpu.ok
theorem pr_2 {op : Op2} (h1 : Pr f env st x) (h2 : Pr g env st y) (h : Po (op x y) st z) : Pr (ev2 op f g) env st z := Rpu.bind h1 (Rpu.bind h2 h.rpu)
theorem pr_1 {op : Op1} (h1 : Pr f env st x) (h : Po (op x) st z) : Pr (ev1 op f) env st z := Rpu.bind h1 h.rpu
theorem pr_nil : Pr evNil env st [] := Rpu.ok
theorem pr_cons {fl : Ev (List D)} (h1 : Pr f env st x) (h2 : Pr fl env st ds) : Pr (evCons f fl) env st (x :: ds) := Rpu.bind h1 (Rpu.bind h2 Rpu.ok)
theorem pr_L {op : OpL} {fl : Ev (List D)} (h1 : Pr fl env st ds) (h : Po (op ds) st z) : Pr (evL op fl) env st z := Rpu.bind h1 h.rpu
theorem pr_call {fn : Fn} {fl : Ev (List D)} (h1 : Pr fl env st ds) (h : Pg fn ds st z) : Pr (evCall fn fl) env st z := Rpu.bind h1 h
theorem pr_T {b : Bool} (h1 : Pr f env st x) (h : Po (truD x) st b) : Pr (evT f) env st b := Rpu.bind h1 h.rpu
theorem pr_TB {b : Bool} (h1 : Pr f env st (.bl b)) : Pr (evTB f) env st b := Rpu.bind h1 (fun S _ => ⟨[], by simp [asB, Res.ofOpt]⟩)
theorem pr_if {α : Type} {c : Ev Bool} {k l : Ev α} {a : α} {b : Bool} (h1 : Pr c env st b) (h : Pr (if b = true then k else l) env st a) : Pr (evIf c k l) env st a := Rpu.bind h1 (by cases b <;> exact h)
theorem pr_tnot {c : Ev Bool} {b : Bool} (h1 : Pr c env st b) : Pr (tnot c) env st (!b) := Rpu.bind h1 Rpu.ok
theorem pr_tand {c e : Ev Bool} {b b' : Bool} (h1 : Pr c env st b) (h : b = true → Pr e env st b') : Pr (tand c e) env st (b && b') := Rpu.bind h1 (by
  cases b with
  | true => exact h rfl
  | false => exact Rpu.ok)
theorem pr_tor {c e : Ev Bool} {b b' : Bool} (h1 : Pr c env st b) (h : b = false → Pr e env st b') : Pr (tor c e) env st (b || b') := Rpu.bind h1 (by
  cases b with
  | false => exact h rfl
  | true => exact Rpu.ok)
theorem pr_and {b : Bool} (h1 : Pr f env st x) (ht : Po (truD x) st b) (h : b = true → Pr g env st y) (hz : z = if b = true then y else x) : Pr (evAnd f g) env st z := Rpu.bind h1 (fun S e => by
  rw [ht S e]
  cases b with
  | true =>
    obtain ⟨ex, q⟩ := h rfl S e
    exact ⟨ex, by rw [hz]; exact q⟩
  | false => exact ⟨[], by rw [hz]; simp⟩)
theorem pr_not {b : Bool} (h1 : Pr f env st x) (ht : Po (truD x) st b) : Pr (evNot f) env st (.bl (!b)) := Rpu.bind h1 (fun S e => ⟨[], by rw [ht S e]; simp [Res.ofOpt]⟩)
theorem pr_subsc (h1 : Pr f env st x) (h2 : Pr g env st y) (h : Po (subscD x y) st z) : Pr (ev2 subscD f g) env st z := pr_2 h1 h2 h
theorem pr_part0 : Pr (evPart none) env st none := Rpu.ok
theorem pr_part1 {i : Int} (h : Pr f env st (.int i)) : Pr (evPart (some f)) env st (some i) := Rpu.bind h Rpu.ok
theorem pr_sl {op : OpSl} {lo hi : Option (Ev D)} {l h : Option Int} (h1 : Pr f env st x) (h2 : Pr (evPart lo) env st l) (h3 : Pr (evPart hi) env st h) (hz : Po (op x l h) st z) : Pr (evSl op f lo hi) env st z := Rpu.bind h1 (Rpu.bind h2 (Rpu.bind h3 hz.rpu))
theorem po_of {α : Type} {k : Store → Option (α × Store)} {st : Store} {a : α} (h : ∀ S, k S = some (a, S)) : Po k st a := fun S _ => h S
end
/-! ### comprehensions over items that stand still -/
theorem pushAt_mid (st ex : Store) (acc : List D) (y : D) (h : acc.length < sizeLine) : pushAt st.length y (st ++ (false, .lst acc) :: ex) = some (st ++ (false, .lst (acc ++ [y])) :: ex) := by
  unfold pushAt
  rw [List.getElem?_append_right (Nat.le_refl _), Nat.sub_self]
  simp only [List.getElem?_cons_zero]
  rw [if_pos h, List.set_append_right _ _ (Nat.le_refl _), Nat.sub_self]
  rfl
theorem lc_items {g : Src} {tg : Tgt} {env : EnvD} {tt : Ev Bool} {te : Ev D} {st : Store} (ds : List D) (p : D → Bool) (k : D → D) (hz : ds.length < sizeLine) (hg : ∀ S i, Ext st S → g i S = some ds[i]?)
    (hb : ∀ d ∈ ds, ∃ env1, tg d env = some env1 ∧ Pr tt env1 st (p d) ∧ (p d = true → Pr te env1 st (k d))) :
    ∀ (n i : Nat) (acc : List D) (ex : Store), i + n = ds.length → acc.length ≤ i → ∀ m, n < m → ∃ ex', lcLoop g tg env tt te st.length m i (st ++ (false, .lst acc) :: ex) = .ok (.ref st.length) (st ++ (false, .lst (acc ++ ((ds.drop i).filter p).map k)) :: ex')
  | 0, i, acc, ex, hi, ha, m, hm => by
    obtain ⟨m, rfl⟩ : ∃ j, m = j + 1 := ⟨m - 1, by omega⟩
    unfold lcLoop
    rw [hg _ i ⟨_, rfl⟩, List.getElem?_eq_none (by omega), List.drop_of_length_le (by omega)]
    exact ⟨ex, by simp⟩
  | n + 1, i, acc, ex, hi, ha, m, hm => by
    obtain ⟨m, rfl⟩ : ∃ j, m = j + 1 := ⟨m - 1, by omega⟩
    have hl : i < ds.length := by omega
    obtain ⟨env1, e1, e2, e3⟩ := hb ds[i] (List.getElem_mem hl)
    have drp : ds.drop i = ds[i] :: ds.drop (i + 1) := List.drop_eq_getElem_cons hl
    unfold lcLoop
    rw [hg _ i ⟨_, rfl⟩, List.getElem?_eq_getElem hl]
    simp only [e1]
    obtain ⟨x1, q1⟩ := e2 _ ⟨(false, .lst acc) :: ex, rfl⟩
    rw [q1]
    simp only
    by_cases hp : p ds[i] = true
    · rw [if_pos hp]
      have ex2 : Ext st (st ++ (false, Cell.lst acc) :: ex ++ x1) := ⟨(false, .lst acc) :: ex ++ x1, by simp⟩
      obtain ⟨x2, q2⟩ := e3 hp _ ex2
      rw [q2]
      simp only
      have r : st ++ (false, Cell.lst acc) :: ex ++ x1 ++ x2 = st ++ (false, Cell.lst acc) :: (ex ++ x1 ++ x2) := by simp
      rw [r, pushAt_mid _ _ _ _ (by omega)]
      simp only
      obtain ⟨ex', q⟩ := lc_items ds p k hz hg hb n (i + 1) (acc ++ [k ds[i]]) (ex ++ x1 ++ x2) (by omega) (by simp; omega) m (by omega)
      refine ⟨ex', q.trans ?_⟩
      rw [drp, List.filter_cons, if_pos hp, List.map_cons, List.append_assoc]
      rfl
    · rw [if_neg hp]
      have r : st ++ (false, Cell.lst acc) :: ex ++ x1 = st ++ (false, Cell.lst acc) :: (ex ++ x1) := by simp
      rw [r]
      obtain ⟨ex', q⟩ := lc_items ds p k hz hg hb n (i + 1) acc (ex ++ x1) (by omega) (by omega) m (by omega)
      refine ⟨ex', q.trans ?_⟩
      rw [drp, List.filter_cons, if_neg hp]
/-- a comprehension: the new list, and things laid behind it -/
theorem lc_run {src : Ev Src} {tg : Tgt} {vs : List Nat} {tt : Ev Bool} {te : Ev D} {env : EnvD} {st st1 : Store} {g : Src} (ds : List D) (p : D → Bool) (k : D → D) (hz : ds.length < sizeLine) (hs : src env st = .ok g st1) (hg : ∀ S i, Ext st1 S → g i S = some ds[i]?)
    (hb : ∀ d ∈ ds, ∃ env1, tg d (wipeD env vs) = some env1 ∧ Pr tt env1 st1 (p d) ∧ (p d = true → Pr te env1 st1 (k d))) : ∃ ex, evLc src tg vs tt te env st = .ok (.ref st1.length) (st1 ++ (false, .lst ((ds.filter p).map k)) :: ex) := by
  unfold evLc
  rw [hs]
  obtain ⟨ex, q⟩ := lc_items (st := st1) ds p k hz hg hb ds.length 0 [] [] (by omega) (by simp) fuelF (by
    have : sizeLine ≤ 16777216 := by decide
    unfold fuelF; omega)
  exact ⟨ex, by simp only [Res.bind]; simpa using q⟩
/-- such a list handed on at once -/
theorem pr_lcL {op : OpL} {src : Ev Src} {tg : Tgt} {vs : List Nat} {tt : Ev Bool} {te : Ev D} {env : EnvD} {st : Store} (ds : List D) (p : D → Bool) (k : D → D) {z : D} (hz : ds.length < sizeLine)
    (hs : ∀ S, Ext st S → ∃ g ex, src env S = .ok g (S ++ ex) ∧ ∀ S' i, Ext (S ++ ex) S' → g i S' = some ds[i]?)
    (hb : ∀ d ∈ ds, ∃ env1, tg d (wipeD env vs) = some env1 ∧ Pr tt env1 st (p d) ∧ (p d = true → Pr te env1 st (k d)))
    (ho : ∀ S l, Ext st S → S[l]? = some (false, .lst ((ds.filter p).map k)) → op [.ref l] S = some (z, S)) : Pr (evL op (evCons (evLc src tg vs tt te) evNil)) env st z := fun S x => by
  obtain ⟨g, e1, q1, q2⟩ := hs S x
  have x1 : Ext st (S ++ e1) := x.app e1
  obtain ⟨ex, q⟩ := lc_run ds p k hz q1 q2 (fun d hd => by
    obtain ⟨env1, a, b, c⟩ := hb d hd
    exact ⟨env1, a, b.mono x1, fun h => (c h).mono x1⟩)
  refine ⟨e1 ++ (false, .lst ((ds.filter p).map k)) :: ex, ?_⟩
  have hl : (S ++ e1 ++ (false, Cell.lst ((ds.filter p).map k)) :: ex)[(S ++ e1).length]? = some (false, .lst ((ds.filter p).map k)) := by
    rw [List.getElem?_append_right (Nat.le_refl _), Nat.sub_self]; rfl
  unfold evL evCons
  rw [q]
  show Res.ofOpt (op [.ref (S ++ e1).length] (S ++ e1 ++ (false, Cell.lst ((ds.filter p).map k)) :: ex)) = _
  rw [ho _ _ (x1.trans ⟨_, rfl⟩) hl, ← List.append_assoc]
  rfl
theorem src_tup {f : Ev D} {env : EnvD} {st : Store} {b : Bool} {ds : List D} (h : Pr f env st (.tup b ds)) (S : Store) (x : Ext st S) : ∃ g ex, evSrc f env S = .ok g (S ++ ex) ∧ ∀ S' i, Ext (S ++ ex) S' → g i S' = some ds[i]? := by
  obtain ⟨ex, e⟩ := h S x
  exact ⟨srcS ds, ex, by unfold evSrc; rw [e]; rfl, fun _ _ _ => rfl⟩
theorem src_lst {f : Ev D} {env : EnvD} {st : Store} {l : Nat} {lk : Bool} {ds : List D} (h : Pr f env st (.ref l)) (e0 : st[l]? = some (lk, .lst ds)) (S : Store) (x : Ext st S) : ∃ g ex, evSrc f env S = .ok g (S ++ ex) ∧ ∀ S' i, Ext (S ++ ex) S' → g i S' = some ds[i]? := by
  obtain ⟨ex, e⟩ := h S x
  have h1 : (S ++ ex)[l]? = some (lk, .lst ds) := (x.app ex).get e0
  refine ⟨srcL l, ex, ?_, fun S' i x' => ?_⟩
  · unfold evSrc
    rw [e]
    show Res.ofOpt ((srcD (S ++ ex) (.ref l)).map fun g => (g, S ++ ex)) = _
    unfold srcD
    simp only [h1]
    rfl
  · unfold srcL
    rw [x'.get h1]
theorem src_zip {f g : Ev D} {env : EnvD} {st : Store} {b c : Bool} {ds es : List D} (h : Pr f env st (.tup b ds)) (h2 : Pr g env st (.tup c es)) (S : Store) (x : Ext st S) :
    ∃ k ex, evZp (evCons f (evCons g evNil)) env S = .ok k (S ++ ex) ∧ ∀ S' i, Ext (S ++ ex) S' → k i S' = some ((List.zipWith (fun d e => D.tup false [d, e]) ds es)[i]?) := by
  obtain ⟨ex, e⟩ := (pr_cons h (pr_cons h2 pr_nil)) S x
  refine ⟨fun i _ => some (pairAt ds es i), ex, ?_, fun S' i _ => ?_⟩
  · unfold evZp
    rw [e]
    rfl
  · show some (pairAt ds es i) = _
    unfold pairAt
    rw [List.getElem?_zipWith]
    cases ds[i]? <;> cases es[i]? <;> rfl
/-! ### for, by an invariant -/
theorem for_inv {g : Src} {tg : Tgt} {body : Ss} (ds : List D) (P : Nat → EnvD → Store → Prop) (hg : ∀ i env st, P i env st → g i st = some ds[i]?)
    (hs : ∀ i d env st, ds[i]? = some d → P i env st → ∃ env1, tg d env = some env1 ∧ ∃ e s, (body env1 st = .fl (.nx e) s ∨ body env1 st = .fl (.ct e) s) ∧ P (i + 1) e s) :
    ∀ (n i : Nat) (env : EnvD) (st : Store), i + n = ds.length → P i env st → ∀ m, n < m → ∃ e s, forE g tg body m i env st = .fl (.nx e) s ∧ P ds.length e s
  | 0, i, env, st, hi, h, m, hm => by
    obtain ⟨m, rfl⟩ : ∃ j, m = j + 1 := ⟨m - 1, by omega⟩
    unfold forE
    rw [hg i env st h, List.getElem?_eq_none (by omega)]
    have : i = ds.length := by omega
    subst this
    exact ⟨env, st, rfl, h⟩
  | n + 1, i, env, st, hi, h, m, hm => by
    obtain ⟨m, rfl⟩ : ∃ j, m = j + 1 := ⟨m - 1, by omega⟩
    have hl : i < ds.length := by omega
    obtain ⟨env1, e1, e, s, hb, hp⟩ := hs i ds[i] env st (List.getElem?_eq_getElem hl) h
    obtain ⟨e', s', q, hq⟩ := for_inv ds P hg hs n (i + 1) e s (by omega) hp m (by omega)
    refine ⟨e', s', ?_, hq⟩
    unfold forE
    rw [hg i env st h, List.getElem?_eq_getElem hl]
    simp only [e1]
    rcases hb with hb | hb <;> rw [hb] <;> exact q
theorem sFor_inv {src : Ev Src} {tg : Tgt} {body : Ss} {env : EnvD} {st st1 : Store} {g : Src} (ds : List D) (P : Nat → EnvD → Store → Prop) (hz : ds.length < sizeLine) (h1 : src env st = .ok g st1) (h0 : P 0 env st1) (hg : ∀ i env st, P i env st → g i st = some ds[i]?)
    (hs : ∀ i d env st, ds[i]? = some d → P i env st → ∃ env1, tg d env = some env1 ∧ ∃ e s, (body env1 st = .fl (.nx e) s ∨ body env1 st = .fl (.ct e) s) ∧ P (i + 1) e s) : ∃ e s, sFor src tg body env st = .fl (.nx e) s ∧ P ds.length e s := by
  unfold sFor ofE
  rw [h1]
  exact for_inv ds P hg hs ds.length 0 env st1 (by omega) h0 fuelF (by
    have : sizeLine ≤ 16777216 := by decide
    unfold fuelF; omega)
end PP
set_option Elab.async false
set_option linter.all false
set_option maxRecDepth 100000
set_option maxHeartbeats 2000000
/-! the defs of raresteps_k24_quotients as evaluators -/
namespace G24
open PySem PySem.Spec PyProof.Rows L2 PP
def topS (i : Nat) : Stmt := PySem.Challenge.pw_raresteps_k24_quotients.main.body.getD i (.Pass ⟨0, 0, 0, 0⟩)
/-- the built-in names stand as they were -/
structure Txt (mg : Str → Option Value) : Prop where
  abs' : mg "abs" = none
  all' : mg "all" = none
  bool' : mg "bool" = none
  dict' : mg "dict" = none
  int' : mg "int" = none
  isinstance' : mg "isinstance" = none
  len' : mg "len" = none
  list' : mg "list" = none
  min' : mg "min" = none
  range' : mg "range" = none
  repr' : mg "repr" = none
  sorted' : mg "sorted" = none
  tuple' : mg "tuple" = none
  zip' : mg "zip" = none
  gcd' : mg "gcd" = some (.builtin "math.gcd")
/-- which class an except clause's name takes -/
def exT : ExT := fun c cn => if c = "BadWorth" ∧ cn = "BadWorth" then some true else none
theorem exT_BadWorth : ∀ cc : Str, exT cc "BadWorth" = some true → cc = "BadWorth" := fun cc h => by
  unfold exT at h
  by_cases e : cc = "BadWorth"
  · exact e
  · rw [if_neg (fun z => e z.1)] at h
    first | cases h | (repeat (first | (rw [if_neg (fun z => absurd z.2 (by decide))] at h) | cases h))
section
variable {P : Program} {w : World} {K : PySem.W.Frag} {mg : Str → Option Value} {base : Heap}
/-! ### _law_pen -/
abbrev s__law_pen : Stmt := topS 26
theorem sc__law_pen : FnScope ["script", "fold", "cell"] ["script"] (defScope s__law_pen) := ⟨rfl, rfl, rfl, by decide +kernel, rfl, by decide +kernel, by decide +kernel⟩
def b__law_pen : Ss := (sSeq (sSet 1 (evC (.int 31)))
 (sSeq (sFor (evSrc (evVar 0)) (tgN 2)
 (sSet 1 (ev2 modD (evL intD (evCons (ev2 addD (ev2 mulD (evVar 1) (evC (.int 67))) (evVar 2)) evNil)) (evC (.int 1000000123)))))
 (sRet (evDisp [((evC (.str "cells")), (evL listD (evCons (evVar 0) evNil))), ((evC (.str "at")), (evC (.int 0))), ((evC (.str "digits")), (evC (.int 0))), ((evC (.str "count")), (evC (.int 0))), ((evC (.str "fold")), (evVar 1))]))))
def g__law_pen : Fn := runS 3 b__law_pen
theorem ok__law_pen (T : Txt mg) {f : Addr} {fd : FuncData} (F : FunD K "_law_pen" "_law_pen" (defArgs s__law_pen) (defBody s__law_pen) (defScope s__law_pen) [] [] f fd) : FnG K mg P w base 1 f fd ["script"] g__law_pen := by
  refine PP.FunD.okG F sc__law_pen rfl (b := b__law_pen) (fun cdv A outer s H E hr hgs => ?_)
  have tk : Takes (cxOf (L2.CX P w) P w K mg base ["script", "fold", "cell"] "_law_pen" (defScope s__law_pen) f cdv A outer s H E) (fun cls d _ H => E cls d H) := takes_of rfl rfl rfl rfl
  have hp : PassesOwn (model P w) (A.deeper (envOfC "_law_pen" (defScope s__law_pen) s.heap.objs.size f cdv)) (envOfC "_law_pen" (defScope s__law_pen) s.heap.objs.size f cdv) (cxOf (L2.CX P w) P w K mg base ["script", "fold", "cell"] "_law_pen" (defScope s__law_pen) f cdv A outer s H E).xe := passes_of (X := cxOf (L2.CX P w) P w K mg base ["script", "fold", "cell"] "_law_pen" (defScope s__law_pen) f cdv A outer s H E) rfl
  have hu1 := u1 hr
  have hu64 := u64 hr
  have hu65 := u65 hr
  exact (pss_sSeq (ps_sSet (i := 1) sc__law_pen.nd rfl (.inl rfl) pe_evInt)
  (pss_sSeq (ps_sFor (sl := [2]) hp rfl (pi_src (pe_evVar (i := 0) rfl (.inl rfl))) (pg_tgN (i := 2) sc__law_pen.nd rfl (.inl rfl)) (pss_sOne (ps_sSet (i := 1) sc__law_pen.nd rfl (.inl rfl) (pe_ev2 op_modD (pe_evBT (cr_intD) (by rfl) T.int' (by decide +kernel) (PA.cons' (pe_ev2 op_addD (pe_ev2 op_mulD (pe_evVar (i := 1) rfl (.inl rfl)) pe_evInt) (pe_evVar (i := 2) rfl (.inl rfl))) pa_evNil)) pe_evInt))))
  (pss_sOne (ps_sRet (pe_evDisp (trs := [((evC (.str "cells")), (evL listD (evCons (evVar 0) evNil))), ((evC (.str "at")), (evC (.int 0))), ((evC (.str "digits")), (evC (.int 0))), ((evC (.str "count")), (evC (.int 0))), ((evC (.str "fold")), (evVar 1))]) (pps_cons pe_evStr (pe_evBT (cr_listD rfl) (by rfl) T.list' (by decide +kernel) (PA.cons' (pe_evVar (i := 0) rfl (.inl rfl)) pa_evNil)) (pps_cons pe_evStr pe_evInt (pps_cons pe_evStr pe_evInt (pps_cons pe_evStr pe_evInt (pps_cons pe_evStr (pe_evVar (i := 1) rfl (.inl rfl)) pps_nil))))) rfl rfl (fun z => nomatch z) (by decide))))))
/-! ### _law_draw -/
abbrev s__law_draw : Stmt := topS 27
theorem sc__law_draw : FnScope ["pen", "many", "blend", "cell", "digit"] ["pen", "many"] (defScope s__law_draw) := ⟨rfl, rfl, rfl, by decide +kernel, rfl, by decide +kernel, by decide +kernel⟩
def b__law_draw : Ss := (sSeq (sSub putD (evVar 0) (evC (.str "count")) (ev2 addD (ev2 subscD (evVar 0) (evC (.str "count"))) (evC (.int 1))))
 (sSeq (sIf (tand (evTB (ev2 eqX (ev2 subscD (evVar 0) (evC (.str "digits"))) (evC (.int 0)))) (evTB (ev2 ltD (ev2 subscD (evVar 0) (evC (.str "at"))) (evL lenD (evCons (ev2 subscD (evVar 0) (evC (.str "cells"))) evNil)))))
 (sSeq (sSet 3 (ev2 subscD (ev2 subscD (evVar 0) (evC (.str "cells"))) (ev2 subscD (evVar 0) (evC (.str "at")))))
 (sSeq (sSub putD (evVar 0) (evC (.str "at")) (ev2 addD (ev2 subscD (evVar 0) (evC (.str "at"))) (evC (.int 1))))
 (sIf (evTB (ev2 geD (evVar 3) (ev2 powD (evC (.int 10)) (evC (.int 18)))))
 (sSub putD (evVar 0) (evC (.str "digits")) (ev2 subD (evVar 3) (ev2 powD (evC (.int 10)) (evC (.int 18)))))
 (sSub putD (evVar 0) (evC (.str "fold")) (ev2 modD (evL intD (evCons (ev2 addD (ev2 mulD (ev2 subscD (evVar 0) (evC (.str "fold"))) (evC (.int 80021))) (evVar 3)) evNil)) (evC (.int 2147483549)))))))
 sNext)
 (sSeq (sIf (evTB (ev2 gtD (ev2 subscD (evVar 0) (evC (.str "digits"))) (evC (.int 0))))
 (sSeq (sSet 4 (ev2 modD (evL intD (evCons (ev2 subscD (evVar 0) (evC (.str "digits"))) evNil)) (evVar 1)))
 (sSeq (sSub putD (evVar 0) (evC (.str "digits")) (ev2 floorD (ev2 subscD (evVar 0) (evC (.str "digits"))) (evVar 1)))
 (sRet (evVar 4))))
 sNext)
 (sSeq (sSet 2 (ev2 addD (ev2 addD (ev2 subscD (evVar 0) (evC (.str "fold"))) (ev2 mulD (ev2 subscD (evVar 0) (evC (.str "count"))) (evC (.int 9001)))) (evC (.int 97))))
 (sRet (ev2 modD (ev2 floorD (evL intD (evCons (ev2 modD (ev2 powD (evVar 2) (evC (.int 17))) (evC (.int 2305843009213693951))) evNil)) (evC (.int 512))) (evVar 1)))))))
def g__law_draw : Fn := runS 5 b__law_draw
theorem ok__law_draw (T : Txt mg) {f : Addr} {fd : FuncData} (F : FunD K "_law_draw" "_law_draw" (defArgs s__law_draw) (defBody s__law_draw) (defScope s__law_draw) [] [] f fd) : FnG K mg P w base 1 f fd ["pen", "many"] g__law_draw := by
  refine PP.FunD.okG F sc__law_draw rfl (b := b__law_draw) (fun cdv A outer s H E hr hgs => ?_)
  have tk : Takes (cxOf (L2.CX P w) P w K mg base ["pen", "many", "blend", "cell", "digit"] "_law_draw" (defScope s__law_draw) f cdv A outer s H E) (fun cls d _ H => E cls d H) := takes_of rfl rfl rfl rfl
  have hp : PassesOwn (model P w) (A.deeper (envOfC "_law_draw" (defScope s__law_draw) s.heap.objs.size f cdv)) (envOfC "_law_draw" (defScope s__law_draw) s.heap.objs.size f cdv) (cxOf (L2.CX P w) P w K mg base ["pen", "many", "blend", "cell", "digit"] "_law_draw" (defScope s__law_draw) f cdv A outer s H E).xe := passes_of (X := cxOf (L2.CX P w) P w K mg base ["pen", "many", "blend", "cell", "digit"] "_law_draw" (defScope s__law_draw) f cdv A outer s H E) rfl
  have hu1 := u1 hr
  have hu64 := u64 hr
  have hu65 := u65 hr
  exact (pss_sSeq (ps_sSub (set_putD hu1) (pe_evVar (i := 0) rfl (.inl rfl)) pe_evStr (pe_ev2 op_addD (pe_ix2 (ix_subscD hu1) (pe_evVar (i := 0) rfl (.inl rfl)) pe_evStr (fun _ _ => rfl)) pe_evInt))
  (pss_sSeq (ps_sIf (PW.pt (pw_tand (pt_cmp2 (op_eqX hu64) (pe_ix2 (ix_subscD hu1) (pe_evVar (i := 0) rfl (.inl rfl)) pe_evStr (fun _ _ => rfl)) pe_evInt (nomark _)) (pw_and1 (pt_cmp2 (op_ltDd hu64) (pe_ix2 (ix_subscD hu1) (pe_evVar (i := 0) rfl (.inl rfl)) pe_evStr (fun _ _ => rfl)) (pe_evB (cr_lenD) (by rfl) T.len' (by decide +kernel) (PA.cons' (pe_ix2 (ix_subscD hu1) (pe_evVar (i := 0) rfl (.inl rfl)) pe_evStr (fun _ _ => rfl)) pa_evNil)) (nomark _))))) (pss_sSeq (ps_sSet (i := 3) sc__law_draw.nd rfl (.inl rfl) (pe_ix2 (ix_subscD hu1) (pe_ix2 (ix_subscD hu1) (pe_evVar (i := 0) rfl (.inl rfl)) pe_evStr (fun _ _ => rfl)) (pe_ix2 (ix_subscD hu1) (pe_evVar (i := 0) rfl (.inl rfl)) pe_evStr (fun _ _ => rfl)) (fun _ _ => rfl)))
  (pss_sSeq (ps_sSub (set_putD hu1) (pe_evVar (i := 0) rfl (.inl rfl)) pe_evStr (pe_ev2 op_addD (pe_ix2 (ix_subscD hu1) (pe_evVar (i := 0) rfl (.inl rfl)) pe_evStr (fun _ _ => rfl)) pe_evInt))
  (pss_sOne (ps_sIf (pt_cmp2 (op_geDd hu64) (pe_evVar (i := 3) rfl (.inl rfl)) (pe_ev2 op_powD pe_evInt pe_evInt) (nomark _)) (pss_sOne (ps_sSub (set_putD hu1) (pe_evVar (i := 0) rfl (.inl rfl)) pe_evStr (pe_ev2 op_subD (pe_evVar (i := 3) rfl (.inl rfl)) (pe_ev2 op_powD pe_evInt pe_evInt)))) (pss_sOne (ps_sSub (set_putD hu1) (pe_evVar (i := 0) rfl (.inl rfl)) pe_evStr (pe_ev2 op_modD (pe_evBT (cr_intD) (by rfl) T.int' (by decide +kernel) (PA.cons' (pe_ev2 op_addD (pe_ev2 op_mulD (pe_ix2 (ix_subscD hu1) (pe_evVar (i := 0) rfl (.inl rfl)) pe_evStr (fun _ _ => rfl)) pe_evInt) (pe_evVar (i := 3) rfl (.inl rfl))) pa_evNil)) pe_evInt))))))) pss_sNil)
  (pss_sSeq (ps_sIf (pt_cmp2 (op_gtDd hu64) (pe_ix2 (ix_subscD hu1) (pe_evVar (i := 0) rfl (.inl rfl)) pe_evStr (fun _ _ => rfl)) pe_evInt (nomark _)) (pss_sSeq (ps_sSet (i := 4) sc__law_draw.nd rfl (.inl rfl) (pe_ev2 op_modD (pe_evBT (cr_intD) (by rfl) T.int' (by decide +kernel) (PA.cons' (pe_ix2 (ix_subscD hu1) (pe_evVar (i := 0) rfl (.inl rfl)) pe_evStr (fun _ _ => rfl)) pa_evNil)) (pe_evVar (i := 1) rfl (.inl rfl))))
  (pss_sSeq (ps_sSub (set_putD hu1) (pe_evVar (i := 0) rfl (.inl rfl)) pe_evStr (pe_ev2 op_floorD (pe_ix2 (ix_subscD hu1) (pe_evVar (i := 0) rfl (.inl rfl)) pe_evStr (fun _ _ => rfl)) (pe_evVar (i := 1) rfl (.inl rfl))))
  (pss_sOne (ps_sRet (pe_evVar (i := 4) rfl (.inl rfl)))))) pss_sNil)
  (pss_sSeq (ps_sSet (i := 2) sc__law_draw.nd rfl (.inl rfl) (pe_ev2 op_addD (pe_ev2 op_addD (pe_ix2 (ix_subscD hu1) (pe_evVar (i := 0) rfl (.inl rfl)) pe_evStr (fun _ _ => rfl)) (pe_ev2 op_mulD (pe_ix2 (ix_subscD hu1) (pe_evVar (i := 0) rfl (.inl rfl)) pe_evStr (fun _ _ => rfl)) pe_evInt)) pe_evInt))
  (pss_sOne (ps_sRet (pe_ev2 op_modD (pe_ev2 op_floorD (pe_evBT (cr_intD) (by rfl) T.int' (by decide +kernel) (PA.cons' (pe_ev2 op_modD (pe_ev2 op_powD (pe_evVar (i := 2) rfl (.inl rfl)) pe_evInt) pe_evInt) pa_evNil)) pe_evInt) (pe_evVar (i := 1) rfl (.inl rfl)))))))))
/-! ### _law_above_nought -/
abbrev s__law_above_nought : Stmt := topS 39
theorem sc__law_above_nought : FnScope ["known", "order"] ["known"] (defScope s__law_above_nought) := ⟨rfl, rfl, rfl, by decide +kernel, rfl, by decide +kernel, by decide +kernel⟩
def b__law_above_nought : Ss := (sSeq (sIf (tand (evTB (ev2 neX (evVar 0) mkDct)) (evTB (ev2 ltD (ev2 subscD (ev2 subscD (evVar 0) (evL minD' (evCons (evVar 0) evNil))) (evC (.int 0))) (evC (.int 0)))))
 (sRet (evL dictD (evCons (evLock 0 (evLc (evSrc (evVar 0)) (tgN 1) [1] tyes (evL mkTup (evCons (evVar 1) (evCons (evL mkTup (evCons (ev1 negD (ev2 subscD (ev2 subscD (evVar 0) (evVar 1)) (evC (.int 0)))) (evCons (ev2 subscD (ev2 subscD (evVar 0) (evVar 1)) (evC (.int 1))) evNil))) evNil))))) evNil)))
 sNext)
 (sRet (evVar 0)))
def g__law_above_nought : Fn := runS 2 b__law_above_nought
theorem ok__law_above_nought (T : Txt mg) {f : Addr} {fd : FuncData} (F : FunD K "_law_above_nought" "_law_above_nought" (defArgs s__law_above_nought) (defBody s__law_above_nought) (defScope s__law_above_nought) [] [] f fd) : FnG K mg P w base 1 f fd ["known"] g__law_above_nought := by
  refine PP.FunD.okG F sc__law_above_nought rfl (b := b__law_above_nought) (fun cdv A outer s H E hr hgs => ?_)
  have tk : Takes (cxOf (L2.CX P w) P w K mg base ["known", "order"] "_law_above_nought" (defScope s__law_above_nought) f cdv A outer s H E) (fun cls d _ H => E cls d H) := takes_of rfl rfl rfl rfl
  have hp : PassesOwn (model P w) (A.deeper (envOfC "_law_above_nought" (defScope s__law_above_nought) s.heap.objs.size f cdv)) (envOfC "_law_above_nought" (defScope s__law_above_nought) s.heap.objs.size f cdv) (cxOf (L2.CX P w) P w K mg base ["known", "order"] "_law_above_nought" (defScope s__law_above_nought) f cdv A outer s H E).xe := passes_of (X := cxOf (L2.CX P w) P w K mg base ["known", "order"] "_law_above_nought" (defScope s__law_above_nought) f cdv A outer s H E) rfl
  have hu1 := u1 hr
  have hu64 := u64 hr
  have hu65 := u65 hr
  exact (pss_sSeq (ps_sIf (PW.pt (pw_tand (pt_cmp2 (op_neX hu64) (pe_evVar (i := 0) rfl (.inr (.inl rfl))) pe_evDct (nomark _)) (pw_and1 (pt_cmp2 (op_ltDd hu64) (pe_ix2 (ix_subscD hu1) (pe_ix2 (ix_subscD hu1) (pe_evVar (i := 0) rfl (.inr (.inl rfl))) (pe_evB (cr_minD rfl) (by rfl) T.min' (by decide +kernel) (PA.cons' (pe_evVar (i := 0) rfl (.inr (.inl rfl))) pa_evNil)) (fun _ _ => rfl)) pe_evInt (fun _ _ => rfl)) pe_evInt (nomark _))))) (pss_sOne (ps_sRet (pe_evBT (cr_dictD rfl) (by rfl) T.dict' (by decide +kernel) (PA.cons' (pe_evLock (i := 0) (pe_evLc (own := [("order", 1)]) (sl := [1]) rfl sc__law_above_nought.nd (pi_src (pe_evVar (i := 0) rfl (.inr (.inl rfl)))) (blk_of (N := ["known", "order"]) (sc := defScope s__law_above_nought) (by decide +kernel)) (by decide) (fun _ _ _ _ _ => (pg_tgN (i := 1) sc__law_above_nought.nd rfl (.inl rfl))) (fun _ _ _ _ _ => pts_evNil) (fun _ _ _ _ _ => (pe_evTup (PA.cons' (pe_evVar (i := 1) rfl (.inl rfl)) (PA.cons' (pe_evTup (PA.cons' (pe_ev1 un_negD (pe_ix2 (ix_subscD hu1) (pe_ix2 (ix_subscD hu1) (pe_evVar (i := 0) rfl (.inr (.inl rfl))) (pe_evVar (i := 1) rfl (.inl rfl)) (fun _ _ => rfl)) pe_evInt (fun _ _ => rfl))) (PA.cons' (pe_ix2 (ix_subscD hu1) (pe_ix2 (ix_subscD hu1) (pe_evVar (i := 0) rfl (.inr (.inl rfl))) (pe_evVar (i := 1) rfl (.inl rfl)) (fun _ _ => rfl)) pe_evInt (fun _ _ => rfl)) pa_evNil))) pa_evNil)))))) pa_evNil)))) pss_sNil)
  (pss_sOne (ps_sRet (pe_evVar (i := 0) rfl (.inr (.inl rfl))))))
/-! ### _law_pick -/
abbrev s__law_pick : Stmt := topS 28
theorem sc__law_pick : FnScope ["pen", "some"] ["pen", "some"] (defScope s__law_pick) := ⟨rfl, rfl, rfl, by decide +kernel, rfl, by decide +kernel, by decide +kernel⟩
def b__law_pick : Ss := (sRet (ev2 subscD (evVar 1) (evCall g__law_draw (evCons (evVar 0) (evCons (evL lenD (evCons (evVar 1) evNil)) evNil)))))
def g__law_pick : Fn := runS 2 b__law_pick
theorem ok__law_pick (T : Txt mg) (C__law_draw : Cal K mg P w base "_law_draw" 1 ["pen", "many"] g__law_draw) {f : Addr} {fd : FuncData} (F : FunD K "_law_pick" "_law_pick" (defArgs s__law_pick) (defBody s__law_pick) (defScope s__law_pick) [] [] f fd) : FnG K mg P w base 2 f fd ["pen", "some"] g__law_pick := by
  refine PP.FunD.okG F sc__law_pick rfl (b := b__law_pick) (fun cdv A outer s H E hr hgs => ?_)
  have tk : Takes (cxOf (L2.CX P w) P w K mg base ["pen", "some"] "_law_pick" (defScope s__law_pick) f cdv A outer s H E) (fun cls d _ H => E cls d H) := takes_of rfl rfl rfl rfl
  have hp : PassesOwn (model P w) (A.deeper (envOfC "_law_pick" (defScope s__law_pick) s.heap.objs.size f cdv)) (envOfC "_law_pick" (defScope s__law_pick) s.heap.objs.size f cdv) (cxOf (L2.CX P w) P w K mg base ["pen", "some"] "_law_pick" (defScope s__law_pick) f cdv A outer s H E).xe := passes_of (X := cxOf (L2.CX P w) P w K mg base ["pen", "some"] "_law_pick" (defScope s__law_pick) f cdv A outer s H E) rfl
  have hu1 := u1 hr
  have hu64 := u64 hr
  have hu65 := u65 hr
  exact (pss_sOne (ps_sRet (pe_ix2 (ix_subscD hu1) (pe_evVar (i := 1) rfl (.inl rfl)) (pe_evCal C__law_draw (hr.mono (by decide)) hgs (by rfl) tk (PA.cons' (pe_evVar (i := 0) rfl (.inl rfl)) (PA.cons' (pe_evB (cr_lenD) (by rfl) T.len' (by decide +kernel) (PA.cons' (pe_evVar (i := 1) rfl (.inl rfl)) pa_evNil)) pa_evNil)) (len_cons (len_cons (fun _ _ _ _ h => len_nil h)))) (fun _ _ => rfl))))
/-! ### _law_gcd -/
abbrev s__law_gcd : Stmt := topS 30
theorem sc__law_gcd : FnScope ["one", "two"] ["one", "two"] (defScope s__law_gcd) := ⟨rfl, rfl, rfl, by decide +kernel, rfl, by decide +kernel, by decide +kernel⟩
def b__law_gcd : Ss := (sSeq (sPar 0 1 (evCons (evL absD (evCons (evVar 0) evNil)) (evCons (evL absD (evCons (evVar 1) evNil)) evNil)))
 (sSeq (sWhile (evTB (ev2 neX (evVar 1) (evC (.int 0))))
 (sPar 0 1 (evCons (evVar 1) (evCons (ev2 modD (evVar 0) (evVar 1)) evNil))))
 (sRet (evVar 0))))
def g__law_gcd : Fn := runS 2 b__law_gcd
theorem ok__law_gcd (T : Txt mg) {f : Addr} {fd : FuncData} (F : FunD K "_law_gcd" "_law_gcd" (defArgs s__law_gcd) (defBody s__law_gcd) (defScope s__law_gcd) [] [] f fd) : FnG K mg P w base 1 f fd ["one", "two"] g__law_gcd := by
  refine PP.FunD.okG F sc__law_gcd rfl (b := b__law_gcd) (fun cdv A outer s H E hr hgs => ?_)
  have tk : Takes (cxOf (L2.CX P w) P w K mg base ["one", "two"] "_law_gcd" (defScope s__law_gcd) f cdv A outer s H E) (fun cls d _ H => E cls d H) := takes_of rfl rfl rfl rfl
  have hp : PassesOwn (model P w) (A.deeper (envOfC "_law_gcd" (defScope s__law_gcd) s.heap.objs.size f cdv)) (envOfC "_law_gcd" (defScope s__law_gcd) s.heap.objs.size f cdv) (cxOf (L2.CX P w) P w K mg base ["one", "two"] "_law_gcd" (defScope s__law_gcd) f cdv A outer s H E).xe := passes_of (X := cxOf (L2.CX P w) P w K mg base ["one", "two"] "_law_gcd" (defScope s__law_gcd) f cdv A outer s H E) rfl
  have hu1 := u1 hr
  have hu64 := u64 hr
  have hu65 := u65 hr
  exact (pss_sSeq (ps_sPar (i := 0) (j := 1) rfl sc__law_gcd.nd rfl rfl (by decide) rfl rfl (PA.cons' (pe_evB (cr_absD) (by rfl) T.abs' (by decide +kernel) (PA.cons' (pe_evVar (i := 0) rfl (.inl rfl)) pa_evNil)) (PA.cons' (pe_evB (cr_absD) (by rfl) T.abs' (by decide +kernel) (PA.cons' (pe_evVar (i := 1) rfl (.inl rfl)) pa_evNil)) pa_evNil)) (by rfl))
  (pss_sSeq (ps_sWhile hp (pt_cmp2 (op_neX hu64) (pe_evVar (i := 1) rfl (.inl rfl)) pe_evInt (nomark _)) (pss_sOne (ps_sPar (i := 0) (j := 1) rfl sc__law_gcd.nd rfl rfl (by decide) rfl rfl (PA.cons' (pe_evVar (i := 1) rfl (.inl rfl)) (PA.cons' (pe_ev2 op_modD (pe_evVar (i := 0) rfl (.inl rfl)) (pe_evVar (i := 1) rfl (.inl rfl))) pa_evNil)) (by rfl))))
  (pss_sOne (ps_sRet (pe_evVar (i := 0) rfl (.inl rfl))))))
/-! ### _law_part -/
abbrev s__law_part : Stmt := topS 31
theorem sc__law_part : FnScope ["top", "bottom", "shared"] ["top", "bottom"] (defScope s__law_part) := ⟨rfl, rfl, rfl, by decide +kernel, rfl, by decide +kernel, by decide +kernel⟩
def b__law_part : Ss := (sSeq (sSet 2 (evCall g__law_gcd (evCons (evVar 0) (evCons (evVar 1) evNil))))
 (sSeq (sSet 2 (evIf (evTB (ev2 gtD (evVar 1) (evC (.int 0)))) (evVar 2) (ev1 negD (evVar 2))))
 (sRet (evL mkTup (evCons (ev2 floorD (evVar 0) (evVar 2)) (evCons (ev2 floorD (evVar 1) (evVar 2)) evNil))))))
def g__law_part : Fn := runS 3 b__law_part
theorem ok__law_part (T : Txt mg) (C__law_gcd : Cal K mg P w base "_law_gcd" 1 ["one", "two"] g__law_gcd) {f : Addr} {fd : FuncData} (F : FunD K "_law_part" "_law_part" (defArgs s__law_part) (defBody s__law_part) (defScope s__law_part) [] [] f fd) : FnG K mg P w base 2 f fd ["top", "bottom"] g__law_part := by
  refine PP.FunD.okG F sc__law_part rfl (b := b__law_part) (fun cdv A outer s H E hr hgs => ?_)
  have tk : Takes (cxOf (L2.CX P w) P w K mg base ["top", "bottom", "shared"] "_law_part" (defScope s__law_part) f cdv A outer s H E) (fun cls d _ H => E cls d H) := takes_of rfl rfl rfl rfl
  have hp : PassesOwn (model P w) (A.deeper (envOfC "_law_part" (defScope s__law_part) s.heap.objs.size f cdv)) (envOfC "_law_part" (defScope s__law_part) s.heap.objs.size f cdv) (cxOf (L2.CX P w) P w K mg base ["top", "bottom", "shared"] "_law_part" (defScope s__law_part) f cdv A outer s H E).xe := passes_of (X := cxOf (L2.CX P w) P w K mg base ["top", "bottom", "shared"] "_law_part" (defScope s__law_part) f cdv A outer s H E) rfl
  have hu1 := u1 hr
  have hu64 := u64 hr
  have hu65 := u65 hr
  exact (pss_sSeq (ps_sSet (i := 2) sc__law_part.nd rfl (.inl rfl) (pe_evCal C__law_gcd (hr.mono (by decide)) hgs (by rfl) tk (PA.cons' (pe_evVar (i := 0) rfl (.inl rfl)) (PA.cons' (pe_evVar (i := 1) rfl (.inl rfl)) pa_evNil)) (len_cons (len_cons (fun _ _ _ _ h => len_nil h)))))
  (pss_sSeq (ps_sSet (i := 2) sc__law_part.nd rfl (.inl rfl) (pe_evIf (pt_cmp2 (op_gtDd hu64) (pe_evVar (i := 1) rfl (.inl rfl)) pe_evInt (nomark _)) (pe_evVar (i := 2) rfl (.inl rfl)) (pe_ev1 un_negD (pe_evVar (i := 2) rfl (.inl rfl)))))
  (pss_sOne (ps_sRet (pe_evTup (PA.cons' (pe_ev2 op_floorD (pe_evVar (i := 0) rfl (.inl rfl)) (pe_evVar (i := 2) rfl (.inl rfl))) (PA.cons' (pe_ev2 op_floorD (pe_evVar (i := 1) rfl (.inl rfl)) (pe_evVar (i := 2) rfl (.inl rfl))) pa_evNil)))))))
/-! ### _law_some -/
abbrev s__law_some : Stmt := topS 36
theorem sc__law_some : FnScope ["pen", "least", "many", "great", "lap", "known", "most", "number", "bottom"] ["pen", "least", "many", "great"] (defScope s__law_some) := ⟨rfl, rfl, rfl, by decide +kernel, rfl, by decide +kernel, by decide +kernel⟩
def b__law_some : Ss := (sSeq (sPar 5 6 (evCons mkDct (evCons (evCall g__law_pick (evCons (evVar 0) (evCons (evL mkLst (evCons (evC (.int 3)) (evCons (evC (.int 30)) evNil))) evNil))) evNil)))
 (sSeq (sFor (evRg1 (evCons (ev2 addD (evVar 1) (evCall g__law_draw (evCons (evVar 0) (evCons (evVar 2) evNil)))) evNil)) (tgN 4)
 (sSeq (sSet 7 (ev2 addD (evC (.int 1)) (evCall g__law_draw (evCons (evVar 0) (evCons (evIf (evTB (ev2 eqX (evCall g__law_draw (evCons (evVar 0) (evCons (evC (.int 3)) evNil))) (evC (.int 0)))) (evVar 3) (evL minD' (evCons (evVar 3) (evCons (evC (.int 6)) evNil)))) evNil)))))
 (sSeq (sSet 8 (ev2 addD (evC (.int 1)) (evCall g__law_draw (evCons (evVar 0) (evCons (evL minD' (evCons (evVar 3) (evCons (evIf (evTB (ev2 ltD (evVar 3) (evC (.int 99)))) (evC (.int 3)) (ev2 powD (evC (.int 10)) (evC (.int 6)))) evNil))) evNil)))))
 (sSub putD (evVar 5) (evCall g__law_draw (evCons (evVar 0) (evCons (ev2 addD (evVar 6) (evC (.int 1))) evNil))) (evCall g__law_part (evCons (evIf (evTB (ev2 gtD (evCall g__law_draw (evCons (evVar 0) (evCons (evC (.int 3)) evNil))) (evC (.int 0)))) (evVar 7) (ev1 negD (evVar 7))) (evCons (evVar 8) evNil)))))))
 (sRet (evVar 5))))
def g__law_some : Fn := runS 9 b__law_some
theorem ok__law_some (T : Txt mg) (C__law_pick : Cal K mg P w base "_law_pick" 2 ["pen", "some"] g__law_pick) (C__law_draw : Cal K mg P w base "_law_draw" 1 ["pen", "many"] g__law_draw) (C__law_part : Cal K mg P w base "_law_part" 2 ["top", "bottom"] g__law_part) {f : Addr} {fd : FuncData} (F : FunD K "_law_some" "_law_some" (defArgs s__law_some) (defBody s__law_some) (defScope s__law_some) [] [] f fd) : FnG K mg P w base 3 f fd ["pen", "least", "many", "great"] g__law_some := by
  refine PP.FunD.okG F sc__law_some rfl (b := b__law_some) (fun cdv A outer s H E hr hgs => ?_)
  have tk : Takes (cxOf (L2.CX P w) P w K mg base ["pen", "least", "many", "great", "lap", "known", "most", "number", "bottom"] "_law_some" (defScope s__law_some) f cdv A outer s H E) (fun cls d _ H => E cls d H) := takes_of rfl rfl rfl rfl
  have hp : PassesOwn (model P w) (A.deeper (envOfC "_law_some" (defScope s__law_some) s.heap.objs.size f cdv)) (envOfC "_law_some" (defScope s__law_some) s.heap.objs.size f cdv) (cxOf (L2.CX P w) P w K mg base ["pen", "least", "many", "great", "lap", "known", "most", "number", "bottom"] "_law_some" (defScope s__law_some) f cdv A outer s H E).xe := passes_of (X := cxOf (L2.CX P w) P w K mg base ["pen", "least", "many", "great", "lap", "known", "most", "number", "bottom"] "_law_some" (defScope s__law_some) f cdv A outer s H E) rfl
  have hu1 := u1 hr
  have hu64 := u64 hr
  have hu65 := u65 hr
  exact (pss_sSeq (ps_sPar (i := 5) (j := 6) rfl sc__law_some.nd rfl rfl (by decide) rfl rfl (PA.cons' pe_evDct (PA.cons' (pe_evCal C__law_pick (hr.mono (by decide)) hgs (by rfl) tk (PA.cons' (pe_evVar (i := 0) rfl (.inl rfl)) (PA.cons' (pe_evLst (PA.cons' pe_evInt (PA.cons' pe_evInt pa_evNil))) pa_evNil)) (len_cons (len_cons (fun _ _ _ _ h => len_nil h)))) pa_evNil)) (by rfl))
  (pss_sSeq (ps_sFor (sl := [4]) hp rfl (pi_rg1 (by rfl) T.range' (PA.cons' (pe_ev2 op_addD (pe_evVar (i := 1) rfl (.inl rfl)) (pe_evCal C__law_draw (hr.mono (by decide)) hgs (by rfl) tk (PA.cons' (pe_evVar (i := 0) rfl (.inl rfl)) (PA.cons' (pe_evVar (i := 2) rfl (.inl rfl)) pa_evNil)) (len_cons (len_cons (fun _ _ _ _ h => len_nil h))))) pa_evNil)) (pg_tgN (i := 4) sc__law_some.nd rfl (.inl rfl)) (pss_sSeq (ps_sSet (i := 7) sc__law_some.nd rfl (.inl rfl) (pe_ev2 op_addD pe_evInt (pe_evCal C__law_draw (hr.mono (by decide)) hgs (by rfl) tk (PA.cons' (pe_evVar (i := 0) rfl (.inl rfl)) (PA.cons' (pe_evIf (pt_cmp2 (op_eqX hu64) (pe_evCal C__law_draw (hr.mono (by decide)) hgs (by rfl) tk (PA.cons' (pe_evVar (i := 0) rfl (.inl rfl)) (PA.cons' pe_evInt pa_evNil)) (len_cons (len_cons (fun _ _ _ _ h => len_nil h)))) pe_evInt (nomark _)) (pe_evVar (i := 3) rfl (.inl rfl)) (pe_evB (cr_minD rfl) (by rfl) T.min' (by decide +kernel) (PA.cons' (pe_evVar (i := 3) rfl (.inl rfl)) (PA.cons' pe_evInt pa_evNil)))) pa_evNil)) (len_cons (len_cons (fun _ _ _ _ h => len_nil h))))))
  (pss_sSeq (ps_sSet (i := 8) sc__law_some.nd rfl (.inl rfl) (pe_ev2 op_addD pe_evInt (pe_evCal C__law_draw (hr.mono (by decide)) hgs (by rfl) tk (PA.cons' (pe_evVar (i := 0) rfl (.inl rfl)) (PA.cons' (pe_evB (cr_minD rfl) (by rfl) T.min' (by decide +kernel) (PA.cons' (pe_evVar (i := 3) rfl (.inl rfl)) (PA.cons' (pe_evIf (pt_cmp2 (op_ltDd hu64) (pe_evVar (i := 3) rfl (.inl rfl)) pe_evInt (nomark _)) pe_evInt (pe_ev2 op_powD pe_evInt pe_evInt)) pa_evNil))) pa_evNil)) (len_cons (len_cons (fun _ _ _ _ h => len_nil h))))))
  (pss_sOne (ps_sSub (set_putD hu1) (pe_evVar (i := 5) rfl (.inl rfl)) (pe_evCal C__law_draw (hr.mono (by decide)) hgs (by rfl) tk (PA.cons' (pe_evVar (i := 0) rfl (.inl rfl)) (PA.cons' (pe_ev2 op_addD (pe_evVar (i := 6) rfl (.inl rfl)) pe_evInt) pa_evNil)) (len_cons (len_cons (fun _ _ _ _ h => len_nil h)))) (pe_evCal C__law_part (hr.mono (by decide)) hgs (by rfl) tk (PA.cons' (pe_evIf (pt_cmp2 (op_gtDd hu64) (pe_evCal C__law_draw (hr.mono (by decide)) hgs (by rfl) tk (PA.cons' (pe_evVar (i := 0) rfl (.inl rfl)) (PA.cons' pe_evInt pa_evNil)) (len_cons (len_cons (fun _ _ _ _ h => len_nil h)))) pe_evInt (nomark _)) (pe_evVar (i := 7) rfl (.inl rfl)) (pe_ev1 un_negD (pe_evVar (i := 7) rfl (.inl rfl)))) (PA.cons' (pe_evVar (i := 8) rfl (.inl rfl)) pa_evNil)) (len_cons (len_cons (fun _ _ _ _ h => len_nil h)))))))))
  (pss_sOne (ps_sRet (pe_evVar (i := 5) rfl (.inl rfl))))))
/-! ### _law_add -/
abbrev s__law_add : Stmt := topS 32
theorem sc__law_add : FnScope ["one", "two"] ["one", "two"] (defScope s__law_add) := ⟨rfl, rfl, rfl, by decide +kernel, rfl, by decide +kernel, by decide +kernel⟩
def b__law_add : Ss := (sRet (evCall g__law_part (evCons (ev2 addD (ev2 mulD (ev2 subscD (evVar 0) (evC (.int 0))) (ev2 subscD (evVar 1) (evC (.int 1)))) (ev2 mulD (ev2 subscD (evVar 1) (evC (.int 0))) (ev2 subscD (evVar 0) (evC (.int 1))))) (evCons (ev2 mulD (ev2 subscD (evVar 0) (evC (.int 1))) (ev2 subscD (evVar 1) (evC (.int 1)))) evNil))))
def g__law_add : Fn := runS 2 b__law_add
theorem ok__law_add (T : Txt mg) (C__law_part : Cal K mg P w base "_law_part" 2 ["top", "bottom"] g__law_part) {f : Addr} {fd : FuncData} (F : FunD K "_law_add" "_law_add" (defArgs s__law_add) (defBody s__law_add) (defScope s__law_add) [] [] f fd) : FnG K mg P w base 3 f fd ["one", "two"] g__law_add := by
  refine PP.FunD.okG F sc__law_add rfl (b := b__law_add) (fun cdv A outer s H E hr hgs => ?_)
  have tk : Takes (cxOf (L2.CX P w) P w K mg base ["one", "two"] "_law_add" (defScope s__law_add) f cdv A outer s H E) (fun cls d _ H => E cls d H) := takes_of rfl rfl rfl rfl
  have hp : PassesOwn (model P w) (A.deeper (envOfC "_law_add" (defScope s__law_add) s.heap.objs.size f cdv)) (envOfC "_law_add" (defScope s__law_add) s.heap.objs.size f cdv) (cxOf (L2.CX P w) P w K mg base ["one", "two"] "_law_add" (defScope s__law_add) f cdv A outer s H E).xe := passes_of (X := cxOf (L2.CX P w) P w K mg base ["one", "two"] "_law_add" (defScope s__law_add) f cdv A outer s H E) rfl
  have hu1 := u1 hr
  have hu64 := u64 hr
  have hu65 := u65 hr
  exact (pss_sOne (ps_sRet (pe_evCal C__law_part (hr.mono (by decide)) hgs (by rfl) tk (PA.cons' (pe_ev2 op_addD (pe_ev2 op_mulD (pe_ix2 (ix_subscD hu1) (pe_evVar (i := 0) rfl (.inl rfl)) pe_evInt (fun _ _ => rfl)) (pe_ix2 (ix_subscD hu1) (pe_evVar (i := 1) rfl (.inl rfl)) pe_evInt (fun _ _ => rfl))) (pe_ev2 op_mulD (pe_ix2 (ix_subscD hu1) (pe_evVar (i := 1) rfl (.inl rfl)) pe_evInt (fun _ _ => rfl)) (pe_ix2 (ix_subscD hu1) (pe_evVar (i := 0) rfl (.inl rfl)) pe_evInt (fun _ _ => rfl)))) (PA.cons' (pe_ev2 op_mulD (pe_ix2 (ix_subscD hu1) (pe_evVar (i := 0) rfl (.inl rfl)) pe_evInt (fun _ _ => rfl)) (pe_ix2 (ix_subscD hu1) (pe_evVar (i := 1) rfl (.inl rfl)) pe_evInt (fun _ _ => rfl))) pa_evNil)) (len_cons (len_cons (fun _ _ _ _ h => len_nil h))))))
/-! ### _law_by -/
abbrev s__law_by : Stmt := topS 33
theorem sc__law_by : FnScope ["one", "two"] ["one", "two"] (defScope s__law_by) := ⟨rfl, rfl, rfl, by decide +kernel, rfl, by decide +kernel, by decide +kernel⟩
def b__law_by : Ss := (sRet (evCall g__law_part (evCons (ev2 mulD (ev2 subscD (evVar 0) (evC (.int 0))) (ev2 subscD (evVar 1) (evC (.int 0)))) (evCons (ev2 mulD (ev2 subscD (evVar 0) (evC (.int 1))) (ev2 subscD (evVar 1) (evC (.int 1)))) evNil))))
def g__law_by : Fn := runS 2 b__law_by
theorem ok__law_by (T : Txt mg) (C__law_part : Cal K mg P w base "_law_part" 2 ["top", "bottom"] g__law_part) {f : Addr} {fd : FuncData} (F : FunD K "_law_by" "_law_by" (defArgs s__law_by) (defBody s__law_by) (defScope s__law_by) [] [] f fd) : FnG K mg P w base 3 f fd ["one", "two"] g__law_by := by
  refine PP.FunD.okG F sc__law_by rfl (b := b__law_by) (fun cdv A outer s H E hr hgs => ?_)
  have tk : Takes (cxOf (L2.CX P w) P w K mg base ["one", "two"] "_law_by" (defScope s__law_by) f cdv A outer s H E) (fun cls d _ H => E cls d H) := takes_of rfl rfl rfl rfl
  have hp : PassesOwn (model P w) (A.deeper (envOfC "_law_by" (defScope s__law_by) s.heap.objs.size f cdv)) (envOfC "_law_by" (defScope s__law_by) s.heap.objs.size f cdv) (cxOf (L2.CX P w) P w K mg base ["one", "two"] "_law_by" (defScope s__law_by) f cdv A outer s H E).xe := passes_of (X := cxOf (L2.CX P w) P w K mg base ["one", "two"] "_law_by" (defScope s__law_by) f cdv A outer s H E) rfl
  have hu1 := u1 hr
  have hu64 := u64 hr
  have hu65 := u65 hr
  exact (pss_sOne (ps_sRet (pe_evCal C__law_part (hr.mono (by decide)) hgs (by rfl) tk (PA.cons' (pe_ev2 op_mulD (pe_ix2 (ix_subscD hu1) (pe_evVar (i := 0) rfl (.inl rfl)) pe_evInt (fun _ _ => rfl)) (pe_ix2 (ix_subscD hu1) (pe_evVar (i := 1) rfl (.inl rfl)) pe_evInt (fun _ _ => rfl))) (PA.cons' (pe_ev2 op_mulD (pe_ix2 (ix_subscD hu1) (pe_evVar (i := 0) rfl (.inl rfl)) pe_evInt (fun _ _ => rfl)) (pe_ix2 (ix_subscD hu1) (pe_evVar (i := 1) rfl (.inl rfl)) pe_evInt (fun _ _ => rfl))) pa_evNil)) (len_cons (len_cons (fun _ _ _ _ h => len_nil h))))))
/-! ### _law_product -/
abbrev s__law_product : Stmt := topS 37
theorem sc__law_product : FnScope ["one", "two", "found", "k", "j"] ["one", "two"] (defScope s__law_product) := ⟨rfl, rfl, rfl, by decide +kernel, rfl, by decide +kernel, by decide +kernel⟩
def b__law_product : Ss := (sSeq (sSet 2 mkDct)
 (sSeq (sLock 0 (sFor (evSrc (evVar 0)) (tgN 3)
 (sLock 1 (sFor (evSrc (evVar 1)) (tgN 4)
 (sSub putD (evVar 2) (ev2 addD (evVar 3) (evVar 4)) (evCall g__law_add (evCons (evGet2 (evVar 2) (ev2 addD (evVar 3) (evVar 4)) (evL mkTup (evCons (evC (.int 0)) (evCons (evC (.int 1)) evNil)))) (evCons (evCall g__law_by (evCons (ev2 subscD (evVar 0) (evVar 3)) (evCons (ev2 subscD (evVar 1) (evVar 4)) evNil))) evNil))))))))
 (sRet (evL dictD (evCons (evLock 2 (evLc (evSrc (evVar 2)) (tgN 3) [3] (evTB (ev2 neX (ev2 subscD (ev2 subscD (evVar 2) (evVar 3)) (evC (.int 0))) (evC (.int 0)))) (evL mkTup (evCons (evVar 3) (evCons (ev2 subscD (evVar 2) (evVar 3)) evNil))))) evNil)))))
def g__law_product : Fn := runS 5 b__law_product
theorem ok__law_product (T : Txt mg) (C__law_add : Cal K mg P w base "_law_add" 3 ["one", "two"] g__law_add) (C__law_by : Cal K mg P w base "_law_by" 3 ["one", "two"] g__law_by) {f : Addr} {fd : FuncData} (F : FunD K "_law_product" "_law_product" (defArgs s__law_product) (defBody s__law_product) (defScope s__law_product) [] [] f fd) : FnG K mg P w base 4 f fd ["one", "two"] g__law_product := by
  refine PP.FunD.okG F sc__law_product rfl (b := b__law_product) (fun cdv A outer s H E hr hgs => ?_)
  have tk : Takes (cxOf (L2.CX P w) P w K mg base ["one", "two", "found", "k", "j"] "_law_product" (defScope s__law_product) f cdv A outer s H E) (fun cls d _ H => E cls d H) := takes_of rfl rfl rfl rfl
  have hp : PassesOwn (model P w) (A.deeper (envOfC "_law_product" (defScope s__law_product) s.heap.objs.size f cdv)) (envOfC "_law_product" (defScope s__law_product) s.heap.objs.size f cdv) (cxOf (L2.CX P w) P w K mg base ["one", "two", "found", "k", "j"] "_law_product" (defScope s__law_product) f cdv A outer s H E).xe := passes_of (X := cxOf (L2.CX P w) P w K mg base ["one", "two", "found", "k", "j"] "_law_product" (defScope s__law_product) f cdv A outer s H E) rfl
  have hu1 := u1 hr
  have hu64 := u64 hr
  have hu65 := u65 hr
  exact (pss_sSeq (ps_sSet (i := 2) sc__law_product.nd rfl (.inr rfl) pe_evDct)
  (pss_sSeq (ps_sLock (i := 0) (ps_sFor (sl := [3]) hp rfl (pi_src (pe_evVar (i := 0) rfl (.inl rfl))) (pg_tgN (i := 3) sc__law_product.nd rfl (.inl rfl)) (pss_sOne (ps_sLock (i := 1) (ps_sFor (sl := [4]) hp rfl (pi_src (pe_evVar (i := 1) rfl (.inl rfl))) (pg_tgN (i := 4) sc__law_product.nd rfl (.inl rfl)) (pss_sOne (ps_sSub (set_putD hu1) (pe_evVar (i := 2) rfl (.inr (.inl rfl))) (pe_ev2 op_addD (pe_evVar (i := 3) rfl (.inl rfl)) (pe_evVar (i := 4) rfl (.inl rfl))) (pe_evCal C__law_add (hr.mono (by decide)) hgs (by rfl) tk (PA.cons' (pe_evGet2 hu1 (pe_evVar (i := 2) rfl (.inr (.inl rfl))) (pe_ev2 op_addD (pe_evVar (i := 3) rfl (.inl rfl)) (pe_evVar (i := 4) rfl (.inl rfl))) (pe_evTup (PA.cons' pe_evInt (PA.cons' pe_evInt pa_evNil))) ⟨by rfl, by rfl, by rfl, by rfl⟩) (PA.cons' (pe_evCal C__law_by (hr.mono (by decide)) hgs (by rfl) tk (PA.cons' (pe_ix2 (ix_subscD hu1) (pe_evVar (i := 0) rfl (.inl rfl)) (pe_evVar (i := 3) rfl (.inl rfl)) (fun _ _ => rfl)) (PA.cons' (pe_ix2 (ix_subscD hu1) (pe_evVar (i := 1) rfl (.inl rfl)) (pe_evVar (i := 4) rfl (.inl rfl)) (fun _ _ => rfl)) pa_evNil)) (len_cons (len_cons (fun _ _ _ _ h => len_nil h)))) pa_evNil)) (len_cons (len_cons (fun _ _ _ _ h => len_nil h)))))))))))
  (pss_sOne (ps_sRet (pe_evBT (cr_dictD rfl) (by rfl) T.dict' (by decide +kernel) (PA.cons' (pe_evLock (i := 2) (pe_evLc (own := [("k", 3)]) (sl := [3]) rfl sc__law_product.nd (pi_src (pe_evVar (i := 2) rfl (.inr (.inl rfl)))) (blk_of (N := ["one", "two", "found", "k", "j"]) (sc := defScope s__law_product) (by decide +kernel)) (by decide) (fun _ _ _ _ _ => (pg_tgN (i := 3) sc__law_product.nd rfl (.inl rfl))) (fun _ _ _ _ _ => (pts_one (pt_cmp2 (op_neX hu64) (pe_ix2 (ix_subscD hu1) (pe_ix2 (ix_subscD hu1) (pe_evVar (i := 2) rfl (.inr (.inl rfl))) (pe_evVar (i := 3) rfl (.inl rfl)) (fun _ _ => rfl)) pe_evInt (fun _ _ => rfl)) pe_evInt (nomark _)))) (fun _ _ _ _ _ => (pe_evTup (PA.cons' (pe_evVar (i := 3) rfl (.inl rfl)) (PA.cons' (pe_ix2 (ix_subscD hu1) (pe_evVar (i := 2) rfl (.inr (.inl rfl))) (pe_evVar (i := 3) rfl (.inl rfl)) (fun _ _ => rfl)) pa_evNil)))))) pa_evNil))))))
/-! ### _law_as -/
abbrev s__law_as : Stmt := topS 38
theorem sc__law_as : FnScope ["known", "order"] ["known"] (defScope s__law_as) := ⟨rfl, rfl, rfl, by decide +kernel, rfl, by decide +kernel, by decide +kernel⟩
def b__law_as : Ss := (sRet (evL tupleD (evCons (evLc (evSrc (evL sortedD (evCons (evVar 0) evNil))) (tgN 1) [1] tyes (ev2 addD (evL mkTup (evCons (evVar 1) evNil)) (ev2 subscD (evVar 0) (evVar 1)))) evNil)))
def g__law_as : Fn := runS 2 b__law_as
theorem ok__law_as (T : Txt mg) {f : Addr} {fd : FuncData} (F : FunD K "_law_as" "_law_as" (defArgs s__law_as) (defBody s__law_as) (defScope s__law_as) [] [] f fd) : FnG K mg P w base 1 f fd ["known"] g__law_as := by
  refine PP.FunD.okG F sc__law_as rfl (b := b__law_as) (fun cdv A outer s H E hr hgs => ?_)
  have tk : Takes (cxOf (L2.CX P w) P w K mg base ["known", "order"] "_law_as" (defScope s__law_as) f cdv A outer s H E) (fun cls d _ H => E cls d H) := takes_of rfl rfl rfl rfl
  have hp : PassesOwn (model P w) (A.deeper (envOfC "_law_as" (defScope s__law_as) s.heap.objs.size f cdv)) (envOfC "_law_as" (defScope s__law_as) s.heap.objs.size f cdv) (cxOf (L2.CX P w) P w K mg base ["known", "order"] "_law_as" (defScope s__law_as) f cdv A outer s H E).xe := passes_of (X := cxOf (L2.CX P w) P w K mg base ["known", "order"] "_law_as" (defScope s__law_as) f cdv A outer s H E) rfl
  have hu1 := u1 hr
  have hu64 := u64 hr
  have hu65 := u65 hr
  exact (pss_sOne (ps_sRet (pe_evBT (cr_tupleD) (by rfl) T.tuple' (by decide +kernel) (PA.cons' (pe_evLc (own := [("order", 1)]) (sl := [1]) rfl sc__law_as.nd (pi_src (pe_evB (cr_sortedD rfl hu64) (by rfl) T.sorted' (by decide +kernel) (PA.cons' (pe_evVar (i := 0) rfl (.inr (.inl rfl))) pa_evNil))) (blk_of (N := ["known", "order"]) (sc := defScope s__law_as) (by decide +kernel)) (by decide) (fun _ _ _ _ _ => (pg_tgN (i := 1) sc__law_as.nd rfl (.inl rfl))) (fun _ _ _ _ _ => pts_evNil) (fun _ _ _ _ _ => (pe_ev2 op_addD (pe_evTup (PA.cons' (pe_evVar (i := 1) rfl (.inl rfl)) pa_evNil)) (pe_ix2 (ix_subscD hu1) (pe_evVar (i := 0) rfl (.inr (.inl rfl))) (pe_evVar (i := 1) rfl (.inl rfl)) (fun _ _ => rfl))))) pa_evNil))))
/-! ### _law_sign -/
abbrev s__law_sign : Stmt := topS 40
theorem sc__law_sign : FnScope ["one", "two", "less", "order", "rest", "left", "right"] ["one", "two"] (defScope s__law_sign) := ⟨rfl, rfl, rfl, by decide +kernel, rfl, by decide +kernel, by decide +kernel⟩
def b__law_sign : Ss := (sSeq (sPar 5 6 (evCons (evCall g__law_product (evCons (ev2 subscD (evVar 0) (evC (.int 0))) (evCons (ev2 subscD (evVar 1) (evC (.int 1))) evNil))) (evCons (evCall g__law_product (evCons (ev2 subscD (evVar 1) (evC (.int 0))) (evCons (ev2 subscD (evVar 0) (evC (.int 1))) evNil))) evNil)))
 (sSeq (sSet 2 (evL dictD (evCons (evVar 5) evNil)))
 (sSeq (sLock 6 (sFor (evSrc (evVar 6)) (tgN 3)
 (sSub putD (evVar 2) (evVar 3) (evCall g__law_add (evCons (evGet2 (evVar 2) (evVar 3) (evL mkTup (evCons (evC (.int 0)) (evCons (evC (.int 1)) evNil)))) (evCons (evL mkTup (evCons (ev1 negD (ev2 subscD (ev2 subscD (evVar 6) (evVar 3)) (evC (.int 0)))) (evCons (ev2 subscD (ev2 subscD (evVar 6) (evVar 3)) (evC (.int 1))) evNil))) evNil))))))
 (sSeq (sLock 2 (sSet 4 (evLc (evSrc (evVar 2)) (tgN 3) [3] (evTB (ev2 neX (ev2 subscD (ev2 subscD (evVar 2) (evVar 3)) (evC (.int 0))) (evC (.int 0)))) (evVar 3))))
 (sRet (evIf (evTB (ev2 eqX (evVar 4) (evL mkLst evNil))) (evC (.int 0)) (evIf (evTB (ev2 gtD (ev2 subscD (ev2 subscD (evVar 2) (evL minD' (evCons (evVar 4) evNil))) (evC (.int 0))) (evC (.int 0)))) (evC (.int 1)) (ev1 negD (evC (.int 1))))))))))
def g__law_sign : Fn := runS 7 b__law_sign
theorem ok__law_sign (T : Txt mg) (C__law_product : Cal K mg P w base "_law_product" 4 ["one", "two"] g__law_product) (C__law_add : Cal K mg P w base "_law_add" 3 ["one", "two"] g__law_add) {f : Addr} {fd : FuncData} (F : FunD K "_law_sign" "_law_sign" (defArgs s__law_sign) (defBody s__law_sign) (defScope s__law_sign) [] [] f fd) : FnG K mg P w base 5 f fd ["one", "two"] g__law_sign := by
  refine PP.FunD.okG F sc__law_sign rfl (b := b__law_sign) (fun cdv A outer s H E hr hgs => ?_)
  have tk : Takes (cxOf (L2.CX P w) P w K mg base ["one", "two", "less", "order", "rest", "left", "right"] "_law_sign" (defScope s__law_sign) f cdv A outer s H E) (fun cls d _ H => E cls d H) := takes_of rfl rfl rfl rfl
  have hp : PassesOwn (model P w) (A.deeper (envOfC "_law_sign" (defScope s__law_sign) s.heap.objs.size f cdv)) (envOfC "_law_sign" (defScope s__law_sign) s.heap.objs.size f cdv) (cxOf (L2.CX P w) P w K mg base ["one", "two", "less", "order", "rest", "left", "right"] "_law_sign" (defScope s__law_sign) f cdv A outer s H E).xe := passes_of (X := cxOf (L2.CX P w) P w K mg base ["one", "two", "less", "order", "rest", "left", "right"] "_law_sign" (defScope s__law_sign) f cdv A outer s H E) rfl
  have hu1 := u1 hr
  have hu64 := u64 hr
  have hu65 := u65 hr
  exact (pss_sSeq (ps_sPar (i := 5) (j := 6) rfl sc__law_sign.nd rfl rfl (by decide) rfl rfl (PA.cons' (pe_evCal C__law_product (hr.mono (by decide)) hgs (by rfl) tk (PA.cons' (pe_ix2 (ix_subscD hu1) (pe_evVar (i := 0) rfl (.inl rfl)) pe_evInt (fun _ _ => rfl)) (PA.cons' (pe_ix2 (ix_subscD hu1) (pe_evVar (i := 1) rfl (.inl rfl)) pe_evInt (fun _ _ => rfl)) pa_evNil)) (len_cons (len_cons (fun _ _ _ _ h => len_nil h)))) (PA.cons' (pe_evCal C__law_product (hr.mono (by decide)) hgs (by rfl) tk (PA.cons' (pe_ix2 (ix_subscD hu1) (pe_evVar (i := 1) rfl (.inl rfl)) pe_evInt (fun _ _ => rfl)) (PA.cons' (pe_ix2 (ix_subscD hu1) (pe_evVar (i := 0) rfl (.inl rfl)) pe_evInt (fun _ _ => rfl)) pa_evNil)) (len_cons (len_cons (fun _ _ _ _ h => len_nil h)))) pa_evNil)) (by rfl))
  (pss_sSeq (ps_sSet (i := 2) sc__law_sign.nd rfl (.inr rfl) (pe_evBT (cr_dictD rfl) (by rfl) T.dict' (by decide +kernel) (PA.cons' (pe_evVar (i := 5) rfl (.inl rfl)) pa_evNil)))
  (pss_sSeq (ps_sLock (i := 6) (ps_sFor (sl := [3]) hp rfl (pi_src (pe_evVar (i := 6) rfl (.inl rfl))) (pg_tgN (i := 3) sc__law_sign.nd rfl (.inl rfl)) (pss_sOne (ps_sSub (set_putD hu1) (pe_evVar (i := 2) rfl (.inr (.inl rfl))) (pe_evVar (i := 3) rfl (.inl rfl)) (pe_evCal C__law_add (hr.mono (by decide)) hgs (by rfl) tk (PA.cons' (pe_evGet2 hu1 (pe_evVar (i := 2) rfl (.inr (.inl rfl))) (pe_evVar (i := 3) rfl (.inl rfl)) (pe_evTup (PA.cons' pe_evInt (PA.cons' pe_evInt pa_evNil))) ⟨by rfl, by rfl, by rfl, by rfl⟩) (PA.cons' (pe_evTup (PA.cons' (pe_ev1 un_negD (pe_ix2 (ix_subscD hu1) (pe_ix2 (ix_subscD hu1) (pe_evVar (i := 6) rfl (.inl rfl)) (pe_evVar (i := 3) rfl (.inl rfl)) (fun _ _ => rfl)) pe_evInt (fun _ _ => rfl))) (PA.cons' (pe_ix2 (ix_subscD hu1) (pe_ix2 (ix_subscD hu1) (pe_evVar (i := 6) rfl (.inl rfl)) (pe_evVar (i := 3) rfl (.inl rfl)) (fun _ _ => rfl)) pe_evInt (fun _ _ => rfl)) pa_evNil))) pa_evNil)) (len_cons (len_cons (fun _ _ _ _ h => len_nil h))))))))
  (pss_sSeq (ps_sLock (i := 2) (ps_sSetLc (i := 4) (own := [("order", 3)]) (sl := [3]) rfl sc__law_sign.nd rfl rfl (sw_true rfl rfl rfl (by decide +kernel)) (pi_src (pe_evVar (i := 2) rfl (.inr (.inl rfl)))) (blk_of (N := ["one", "two", "less", "order", "rest", "left", "right"]) (sc := defScope s__law_sign) (by decide +kernel)) (by decide) (fun _ _ _ _ _ => (pg_tgN (i := 3) sc__law_sign.nd rfl (.inl rfl))) (fun _ _ _ _ _ => (pts_one (pt_cmp2 (op_neX hu64) (pe_ix2 (ix_subscD hu1) (pe_ix2 (ix_subscD hu1) (pe_evVar (i := 2) rfl (.inr (.inl rfl))) (pe_evVar (i := 3) rfl (.inl rfl)) (fun _ _ => rfl)) pe_evInt (fun _ _ => rfl)) pe_evInt (nomark _)))) (fun _ _ _ _ _ => (pe_evVar (i := 3) rfl (.inl rfl)))))
  (pss_sOne (ps_sRet (pe_evIf (pt_cmp2 (op_eqX hu64) (pe_evVar (i := 4) rfl (.inl rfl)) (pe_evLst pa_evNil) (nomark _)) pe_evInt (pe_evIf (pt_cmp2 (op_gtDd hu64) (pe_ix2 (ix_subscD hu1) (pe_ix2 (ix_subscD hu1) (pe_evVar (i := 2) rfl (.inr (.inl rfl))) (pe_evB (cr_minD rfl) (by rfl) T.min' (by decide +kernel) (PA.cons' (pe_evVar (i := 4) rfl (.inl rfl)) pa_evNil)) (fun _ _ => rfl)) pe_evInt (fun _ _ => rfl)) pe_evInt (nomark _)) pe_evInt (pe_ev1 un_negD pe_evInt)))))))))
/-! ### _law_is -/
abbrev s__law_is : Stmt := topS 29
theorem sc__law_is : FnScope ["told", "due"] ["told", "due"] (defScope s__law_is) := ⟨rfl, rfl, rfl, by decide +kernel, rfl, by decide +kernel, by decide +kernel⟩
def b__law_is : Ss := (sRet (evAnd (evL isiD (evCons (evVar 0) (evCons (evC (.ty "bool")) evNil))) (ev2 eqX (evVar 0) (evVar 1))))
def g__law_is : Fn := runS 2 b__law_is
theorem ok__law_is (T : Txt mg) {f : Addr} {fd : FuncData} (F : FunD K "_law_is" "_law_is" (defArgs s__law_is) (defBody s__law_is) (defScope s__law_is) [] [] f fd) : FnG K mg P w base 1 f fd ["told", "due"] g__law_is := by
  refine PP.FunD.okG F sc__law_is rfl (b := b__law_is) (fun cdv A outer s H E hr hgs => ?_)
  have tk : Takes (cxOf (L2.CX P w) P w K mg base ["told", "due"] "_law_is" (defScope s__law_is) f cdv A outer s H E) (fun cls d _ H => E cls d H) := takes_of rfl rfl rfl rfl
  have hp : PassesOwn (model P w) (A.deeper (envOfC "_law_is" (defScope s__law_is) s.heap.objs.size f cdv)) (envOfC "_law_is" (defScope s__law_is) s.heap.objs.size f cdv) (cxOf (L2.CX P w) P w K mg base ["told", "due"] "_law_is" (defScope s__law_is) f cdv A outer s H E).xe := passes_of (X := cxOf (L2.CX P w) P w K mg base ["told", "due"] "_law_is" (defScope s__law_is) f cdv A outer s H E) rfl
  have hu1 := u1 hr
  have hu64 := u64 hr
  have hu65 := u65 hr
  exact (pss_sOne (ps_sRet (pe_evAnd (pe_evB (cr_isiD) (by rfl) T.isinstance' (by decide +kernel) (PA.cons' (pe_evVar (i := 0) rfl (.inl rfl)) (PA.cons' (pe_evTy (by rfl) T.bool' (by decide +kernel)) pa_evNil))) (pe_one (pe_cmp2 (op_eqX hu64) (pe_evVar (i := 0) rfl (.inl rfl)) (pe_evVar (i := 1) rfl (.inl rfl)) (nomark _))))))
/-! ### is_whole -/
abbrev s_is_whole : Stmt := topS 4
theorem sc_is_whole : FnScope ["value"] ["value"] (defScope s_is_whole) := ⟨rfl, rfl, rfl, by decide +kernel, rfl, by decide +kernel, by decide +kernel⟩
def b_is_whole : Ss := (sRet (evAnd (evL isiD (evCons (evVar 0) (evCons (evC (.ty "int")) evNil))) (evNot (evL isiD (evCons (evVar 0) (evCons (evC (.ty "bool")) evNil))))))
def g_is_whole : Fn := runS 1 b_is_whole
theorem ok_is_whole (T : Txt mg) {f : Addr} {fd : FuncData} (F : FunD K "is_whole" "is_whole" (defArgs s_is_whole) (defBody s_is_whole) (defScope s_is_whole) [] [] f fd) : FnG K mg P w base 1 f fd ["value"] g_is_whole := by
  refine PP.FunD.okG F sc_is_whole rfl (b := b_is_whole) (fun cdv A outer s H E hr hgs => ?_)
  have tk : Takes (cxOf (L2.CX P w) P w K mg base ["value"] "is_whole" (defScope s_is_whole) f cdv A outer s H E) (fun cls d _ H => E cls d H) := takes_of rfl rfl rfl rfl
  have hp : PassesOwn (model P w) (A.deeper (envOfC "is_whole" (defScope s_is_whole) s.heap.objs.size f cdv)) (envOfC "is_whole" (defScope s_is_whole) s.heap.objs.size f cdv) (cxOf (L2.CX P w) P w K mg base ["value"] "is_whole" (defScope s_is_whole) f cdv A outer s H E).xe := passes_of (X := cxOf (L2.CX P w) P w K mg base ["value"] "is_whole" (defScope s_is_whole) f cdv A outer s H E) rfl
  have hu1 := u1 hr
  have hu64 := u64 hr
  have hu65 := u65 hr
  exact (pss_sOne (ps_sRet (pe_evAnd (pe_evB (cr_isiD) (by rfl) T.isinstance' (by decide +kernel) (PA.cons' (pe_evVar (i := 0) rfl (.inl rfl)) (PA.cons' (pe_evTy (by rfl) T.int' (by decide +kernel)) pa_evNil))) (pe_one (pe_evNot (pe_evB (cr_isiD) (by rfl) T.isinstance' (by decide +kernel) (PA.cons' (pe_evVar (i := 0) rfl (.inl rfl)) (PA.cons' (pe_evTy (by rfl) T.bool' (by decide +kernel)) pa_evNil))))))))
/-! ### is_count -/
abbrev s_is_count : Stmt := topS 5
theorem sc_is_count : FnScope ["value"] ["value"] (defScope s_is_count) := ⟨rfl, rfl, rfl, by decide +kernel, rfl, by decide +kernel, by decide +kernel⟩
def b_is_count : Ss := (sRet (evAnd (evCall g_is_whole (evCons (evVar 0) evNil)) (ev2 geD (evVar 0) (evC (.int 0)))))
def g_is_count : Fn := runS 1 b_is_count
theorem ok_is_count (T : Txt mg) (C_is_whole : Cal K mg P w base "is_whole" 1 ["value"] g_is_whole) {f : Addr} {fd : FuncData} (F : FunD K "is_count" "is_count" (defArgs s_is_count) (defBody s_is_count) (defScope s_is_count) [] [] f fd) : FnG K mg P w base 2 f fd ["value"] g_is_count := by
  refine PP.FunD.okG F sc_is_count rfl (b := b_is_count) (fun cdv A outer s H E hr hgs => ?_)
  have tk : Takes (cxOf (L2.CX P w) P w K mg base ["value"] "is_count" (defScope s_is_count) f cdv A outer s H E) (fun cls d _ H => E cls d H) := takes_of rfl rfl rfl rfl
  have hp : PassesOwn (model P w) (A.deeper (envOfC "is_count" (defScope s_is_count) s.heap.objs.size f cdv)) (envOfC "is_count" (defScope s_is_count) s.heap.objs.size f cdv) (cxOf (L2.CX P w) P w K mg base ["value"] "is_count" (defScope s_is_count) f cdv A outer s H E).xe := passes_of (X := cxOf (L2.CX P w) P w K mg base ["value"] "is_count" (defScope s_is_count) f cdv A outer s H E) rfl
  have hu1 := u1 hr
  have hu64 := u64 hr
  have hu65 := u65 hr
  exact (pss_sOne (ps_sRet (pe_evAnd (pe_evCal C_is_whole (hr.mono (by decide)) hgs (by rfl) tk (PA.cons' (pe_evVar (i := 0) rfl (.inl rfl)) pa_evNil) (len_cons (fun _ _ _ _ h => len_nil h))) (pe_one (pe_cmp2 (op_geDd hu64) (pe_evVar (i := 0) rfl (.inl rfl)) pe_evInt (nomark _))))))
/-! ### is_fraction -/
abbrev s_is_fraction : Stmt := topS 7
theorem sc_is_fraction : FnScope ["value", "item"] ["value"] (defScope s_is_fraction) := ⟨rfl, rfl, rfl, by decide +kernel, rfl, by decide +kernel, by decide +kernel⟩
def b_is_fraction : Ss := (sSeq (sIf (tor (tnot (evT (evL isiD (evCons (evVar 0) (evCons (evC (.ty "tuple")) evNil))))) (tor (evTB (ev2 neX (evL lenD (evCons (evVar 0) evNil)) (evC (.int 2)))) (tnot (evT (evL allD (evCons (evLc (evSrc (evVar 0)) (tgN 1) [1] tyes (evCall g_is_whole (evCons (evVar 1) evNil))) evNil))))))
 (sRet (evC (.bl false)))
 sNext)
 (sRet (evAnd (ev2 geD (ev2 subscD (evVar 0) (evC (.int 1))) (evC (.int 1))) (ev2 eqX (evL gcdD (evCons (ev2 subscD (evVar 0) (evC (.int 0))) (evCons (ev2 subscD (evVar 0) (evC (.int 1))) evNil))) (evC (.int 1))))))
def g_is_fraction : Fn := runS 2 b_is_fraction
theorem ok_is_fraction (T : Txt mg) (C_is_whole : Cal K mg P w base "is_whole" 1 ["value"] g_is_whole) {f : Addr} {fd : FuncData} (F : FunD K "is_fraction" "is_fraction" (defArgs s_is_fraction) (defBody s_is_fraction) (defScope s_is_fraction) [] [] f fd) : FnG K mg P w base 2 f fd ["value"] g_is_fraction := by
  refine PP.FunD.okG F sc_is_fraction rfl (b := b_is_fraction) (fun cdv A outer s H E hr hgs => ?_)
  have tk : Takes (cxOf (L2.CX P w) P w K mg base ["value", "item"] "is_fraction" (defScope s_is_fraction) f cdv A outer s H E) (fun cls d _ H => E cls d H) := takes_of rfl rfl rfl rfl
  have hp : PassesOwn (model P w) (A.deeper (envOfC "is_fraction" (defScope s_is_fraction) s.heap.objs.size f cdv)) (envOfC "is_fraction" (defScope s_is_fraction) s.heap.objs.size f cdv) (cxOf (L2.CX P w) P w K mg base ["value", "item"] "is_fraction" (defScope s_is_fraction) f cdv A outer s H E).xe := passes_of (X := cxOf (L2.CX P w) P w K mg base ["value", "item"] "is_fraction" (defScope s_is_fraction) f cdv A outer s H E) rfl
  have hu1 := u1 hr
  have hu64 := u64 hr
  have hu65 := u65 hr
  exact (pss_sSeq (ps_sIf (PW.pt (pw_tor (pt_tnot (pt_ev (pe_evB (cr_isiD) (by rfl) T.isinstance' (by decide +kernel) (PA.cons' (pe_evVar (i := 0) rfl (.inl rfl)) (PA.cons' (pe_evTy (by rfl) T.tuple' (by decide +kernel)) pa_evNil))) (fun _ => rfl))) (pw_tor (pt_cmp2 (op_neX hu64) (pe_evB (cr_lenD) (by rfl) T.len' (by decide +kernel) (PA.cons' (pe_evVar (i := 0) rfl (.inl rfl)) pa_evNil)) pe_evInt (nomark _)) (pw_or1 (pt_tnot (pt_ev (pe_evB (cr_allD rfl) (by rfl) T.all' (by decide +kernel) (PA.cons' (pe_evLc (own := [("item", 1)]) (sl := [1]) rfl sc_is_fraction.nd (pi_src (pe_evVar (i := 0) rfl (.inl rfl))) (blk_of (N := ["value", "item"]) (sc := defScope s_is_fraction) (by decide +kernel)) (by decide) (fun _ _ _ _ _ => (pg_tgN (i := 1) sc_is_fraction.nd rfl (.inl rfl))) (fun _ _ _ _ _ => pts_evNil) (fun _ _ _ _ _ => (pe_evCal C_is_whole (hr.mono (by decide)) hgs (by rfl) takes_none5 (PA.cons' (pe_evVar (i := 1) rfl (.inl rfl)) pa_evNil) (len_cons (fun _ _ _ _ h => len_nil h))))) pa_evNil)) (fun _ => rfl))))))) (pss_sOne (ps_sRet pe_evBl)) pss_sNil)
  (pss_sOne (ps_sRet (pe_evAnd (pe_cmp2 (op_geDd hu64) (pe_ix2 (ix_subscD hu1) (pe_evVar (i := 0) rfl (.inl rfl)) pe_evInt (fun _ _ => rfl)) pe_evInt (nomark _)) (pe_one (pe_cmp2 (op_eqX hu64) (pe_evBF cr_gcdD (by rfl) T.gcd' (PA.cons' (pe_ix2 (ix_subscD hu1) (pe_evVar (i := 0) rfl (.inl rfl)) pe_evInt (fun _ _ => rfl)) (PA.cons' (pe_ix2 (ix_subscD hu1) (pe_evVar (i := 0) rfl (.inl rfl)) pe_evInt (fun _ _ => rfl)) pa_evNil))) pe_evInt (nomark _)))))))
/-! ### is_term -/
abbrev s_is_term : Stmt := topS 11
theorem sc_is_term : FnScope ["value"] ["value"] (defScope s_is_term) := ⟨rfl, rfl, rfl, by decide +kernel, rfl, by decide +kernel, by decide +kernel⟩
def b_is_term : Ss := (sSeq (sIf (tor (tnot (evT (evL isiD (evCons (evVar 0) (evCons (evC (.ty "tuple")) evNil))))) (tor (evTB (ev2 neX (evL lenD (evCons (evVar 0) evNil)) (evC (.int 3)))) (tnot (evT (evCall g_is_count (evCons (ev2 subscD (evVar 0) (evC (.int 0))) evNil))))))
 (sRet (evC (.bl false)))
 sNext)
 (sRet (evAnd (evCall g_is_fraction (evCons (evSl sliceD (evVar 0) (some (evC (.int 1))) none) evNil)) (ev2 neX (ev2 subscD (evVar 0) (evC (.int 1))) (evC (.int 0))))))
def g_is_term : Fn := runS 1 b_is_term
theorem ok_is_term (T : Txt mg) (C_is_count : Cal K mg P w base "is_count" 2 ["value"] g_is_count) (C_is_fraction : Cal K mg P w base "is_fraction" 2 ["value"] g_is_fraction) {f : Addr} {fd : FuncData} (F : FunD K "is_term" "is_term" (defArgs s_is_term) (defBody s_is_term) (defScope s_is_term) [] [] f fd) : FnG K mg P w base 3 f fd ["value"] g_is_term := by
  refine PP.FunD.okG F sc_is_term rfl (b := b_is_term) (fun cdv A outer s H E hr hgs => ?_)
  have tk : Takes (cxOf (L2.CX P w) P w K mg base ["value"] "is_term" (defScope s_is_term) f cdv A outer s H E) (fun cls d _ H => E cls d H) := takes_of rfl rfl rfl rfl
  have hp : PassesOwn (model P w) (A.deeper (envOfC "is_term" (defScope s_is_term) s.heap.objs.size f cdv)) (envOfC "is_term" (defScope s_is_term) s.heap.objs.size f cdv) (cxOf (L2.CX P w) P w K mg base ["value"] "is_term" (defScope s_is_term) f cdv A outer s H E).xe := passes_of (X := cxOf (L2.CX P w) P w K mg base ["value"] "is_term" (defScope s_is_term) f cdv A outer s H E) rfl
  have hu1 := u1 hr
  have hu64 := u64 hr
  have hu65 := u65 hr
  exact (pss_sSeq (ps_sIf (PW.pt (pw_tor (pt_tnot (pt_ev (pe_evB (cr_isiD) (by rfl) T.isinstance' (by decide +kernel) (PA.cons' (pe_evVar (i := 0) rfl (.inl rfl)) (PA.cons' (pe_evTy (by rfl) T.tuple' (by decide +kernel)) pa_evNil))) (fun _ => rfl))) (pw_tor (pt_cmp2 (op_neX hu64) (pe_evB (cr_lenD) (by rfl) T.len' (by decide +kernel) (PA.cons' (pe_evVar (i := 0) rfl (.inl rfl)) pa_evNil)) pe_evInt (nomark _)) (pw_or1 (pt_tnot (pt_ev (pe_evCal C_is_count (hr.mono (by decide)) hgs (by rfl) tk (PA.cons' (pe_ix2 (ix_subscD hu1) (pe_evVar (i := 0) rfl (.inl rfl)) pe_evInt (fun _ _ => rfl)) pa_evNil) (len_cons (fun _ _ _ _ h => len_nil h))) (fun _ => rfl))))))) (pss_sOne (ps_sRet pe_evBl)) pss_sNil)
  (pss_sOne (ps_sRet (pe_evAnd (pe_evCal C_is_fraction (hr.mono (by decide)) hgs (by rfl) tk (PA.cons' (pe_evSl sl_sliceD (pe_evVar (i := 0) rfl (.inl rfl)) (po_ev1 pe_evInt) po_ev0) pa_evNil) (len_cons (fun _ _ _ _ h => len_nil h))) (pe_one (pe_cmp2 (op_neX hu64) (pe_ix2 (ix_subscD hu1) (pe_evVar (i := 0) rfl (.inl rfl)) pe_evInt (fun _ _ => rfl)) pe_evInt (nomark _)))))))
/-! ### is_worth -/
abbrev s_is_worth : Stmt := topS 12
theorem sc_is_worth : FnScope ["value", "one", "two", "term"] ["value"] (defScope s_is_worth) := ⟨rfl, rfl, rfl, by decide +kernel, rfl, by decide +kernel, by decide +kernel⟩
def b_is_worth : Ss := (sSeq (sIf (tor (tnot (evT (evL isiD (evCons (evVar 0) (evCons (evC (.ty "tuple")) evNil))))) (tnot (evT (evL allD (evCons (evLc (evSrc (evVar 0)) (tgN 3) [3] tyes (evCall g_is_term (evCons (evVar 3) evNil))) evNil)))))
 (sRet (evC (.bl false)))
 sNext)
 (sRet (evL allD (evCons (evLc (evZp (evCons (evVar 0) (evCons (evSl sliceD (evVar 0) (some (evC (.int 1))) none) evNil))) (tgT 2 (tgsCons (tgN 1) (tgsCons (tgN 2) tgsNil))) [1, 2] tyes (ev2 ltD (ev2 subscD (evVar 1) (evC (.int 0))) (ev2 subscD (evVar 2) (evC (.int 0))))) evNil))))
def g_is_worth : Fn := runS 4 b_is_worth
theorem ok_is_worth (T : Txt mg) (C_is_term : Cal K mg P w base "is_term" 3 ["value"] g_is_term) {f : Addr} {fd : FuncData} (F : FunD K "is_worth" "is_worth" (defArgs s_is_worth) (defBody s_is_worth) (defScope s_is_worth) [] [] f fd) : FnG K mg P w base 4 f fd ["value"] g_is_worth := by
  refine PP.FunD.okG F sc_is_worth rfl (b := b_is_worth) (fun cdv A outer s H E hr hgs => ?_)
  have tk : Takes (cxOf (L2.CX P w) P w K mg base ["value", "one", "two", "term"] "is_worth" (defScope s_is_worth) f cdv A outer s H E) (fun cls d _ H => E cls d H) := takes_of rfl rfl rfl rfl
  have hp : PassesOwn (model P w) (A.deeper (envOfC "is_worth" (defScope s_is_worth) s.heap.objs.size f cdv)) (envOfC "is_worth" (defScope s_is_worth) s.heap.objs.size f cdv) (cxOf (L2.CX P w) P w K mg base ["value", "one", "two", "term"] "is_worth" (defScope s_is_worth) f cdv A outer s H E).xe := passes_of (X := cxOf (L2.CX P w) P w K mg base ["value", "one", "two", "term"] "is_worth" (defScope s_is_worth) f cdv A outer s H E) rfl
  have hu1 := u1 hr
  have hu64 := u64 hr
  have hu65 := u65 hr
  exact (pss_sSeq (ps_sIf (PW.pt (pw_tor (pt_tnot (pt_ev (pe_evB (cr_isiD) (by rfl) T.isinstance' (by decide +kernel) (PA.cons' (pe_evVar (i := 0) rfl (.inl rfl)) (PA.cons' (pe_evTy (by rfl) T.tuple' (by decide +kernel)) pa_evNil))) (fun _ => rfl))) (pw_or1 (pt_tnot (pt_ev (pe_evB (cr_allD rfl) (by rfl) T.all' (by decide +kernel) (PA.cons' (pe_evLc (own := [("term", 3)]) (sl := [3]) rfl sc_is_worth.nd (pi_src (pe_evVar (i := 0) rfl (.inl rfl))) (blk_of (N := ["value", "one", "two", "term"]) (sc := defScope s_is_worth) (by decide +kernel)) (by decide) (fun _ _ _ _ _ => (pg_tgN (i := 3) sc_is_worth.nd rfl (.inl rfl))) (fun _ _ _ _ _ => pts_evNil) (fun _ _ _ _ _ => (pe_evCal C_is_term (hr.mono (by decide)) hgs (by rfl) takes_none5 (PA.cons' (pe_evVar (i := 3) rfl (.inl rfl)) pa_evNil) (len_cons (fun _ _ _ _ h => len_nil h))))) pa_evNil)) (fun _ => rfl)))))) (pss_sOne (ps_sRet pe_evBl)) pss_sNil)
  (pss_sOne (ps_sRet (pe_evB (cr_allD rfl) (by rfl) T.all' (by decide +kernel) (PA.cons' (pe_evLc (own := [("one", 1), ("two", 2)]) (sl := [1, 2]) rfl sc_is_worth.nd (pi_zp (by rfl) T.zip' (PA.cons' (pe_evVar (i := 0) rfl (.inl rfl)) (PA.cons' (pe_evSl sl_sliceD (pe_evVar (i := 0) rfl (.inl rfl)) (po_ev1 pe_evInt) po_ev0) pa_evNil))) (blk_of (N := ["value", "one", "two", "term"]) (sc := defScope s_is_worth) (by decide +kernel)) (by decide) (fun _ _ _ _ _ => (pg_tgT rfl (pgs_tgCons (pg_tgN (i := 1) sc_is_worth.nd rfl (.inl rfl)) (pgs_tgCons (pg_tgN (i := 2) sc_is_worth.nd rfl (.inl rfl)) pgs_tgNil)))) (fun _ _ _ _ _ => pts_evNil) (fun _ _ _ _ _ => (pe_cmp2 (op_ltDd hu64) (pe_ix2 (ix_subscD hu1) (pe_evVar (i := 1) rfl (.inl rfl)) pe_evInt (fun _ _ => rfl)) (pe_ix2 (ix_subscD hu1) (pe_evVar (i := 2) rfl (.inl rfl)) pe_evInt (fun _ _ => rfl)) (nomark _)))) pa_evNil)))))
/-! ### sign_of -/
abbrev s_sign_of : Stmt := topS 17
theorem sc_sign_of : FnScope ["worth"] ["worth"] (defScope s_sign_of) := ⟨rfl, rfl, rfl, by decide +kernel, rfl, by decide +kernel, by decide +kernel⟩
def b_sign_of : Ss := (sSeq (sIf (evTB (ev2 eqX (evVar 0) (evL mkTup evNil)))
 (sRet (evC (.int 0)))
 sNext)
 (sRet (evIf (evTB (ev2 gtD (ev2 subscD (ev2 subscD (evVar 0) (evC (.int 0))) (evC (.int 1))) (evC (.int 0)))) (evC (.int 1)) (ev1 negD (evC (.int 1))))))
def g_sign_of : Fn := runS 1 b_sign_of
theorem ok_sign_of (T : Txt mg) {f : Addr} {fd : FuncData} (F : FunD K "sign_of" "sign_of" (defArgs s_sign_of) (defBody s_sign_of) (defScope s_sign_of) [] [] f fd) : FnG K mg P w base 1 f fd ["worth"] g_sign_of := by
  refine PP.FunD.okG F sc_sign_of rfl (b := b_sign_of) (fun cdv A outer s H E hr hgs => ?_)
  have tk : Takes (cxOf (L2.CX P w) P w K mg base ["worth"] "sign_of" (defScope s_sign_of) f cdv A outer s H E) (fun cls d _ H => E cls d H) := takes_of rfl rfl rfl rfl
  have hp : PassesOwn (model P w) (A.deeper (envOfC "sign_of" (defScope s_sign_of) s.heap.objs.size f cdv)) (envOfC "sign_of" (defScope s_sign_of) s.heap.objs.size f cdv) (cxOf (L2.CX P w) P w K mg base ["worth"] "sign_of" (defScope s_sign_of) f cdv A outer s H E).xe := passes_of (X := cxOf (L2.CX P w) P w K mg base ["worth"] "sign_of" (defScope s_sign_of) f cdv A outer s H E) rfl
  have hu1 := u1 hr
  have hu64 := u64 hr
  have hu65 := u65 hr
  exact (pss_sSeq (ps_sIf (pt_cmp2 (op_eqX hu64) (pe_evVar (i := 0) rfl (.inl rfl)) (pe_evTup pa_evNil) (nomark _)) (pss_sOne (ps_sRet pe_evInt)) pss_sNil)
  (pss_sOne (ps_sRet (pe_evIf (pt_cmp2 (op_gtDd hu64) (pe_ix2 (ix_subscD hu1) (pe_ix2 (ix_subscD hu1) (pe_evVar (i := 0) rfl (.inl rfl)) pe_evInt (fun _ _ => rfl)) pe_evInt (fun _ _ => rfl)) pe_evInt (nomark _)) pe_evInt (pe_ev1 un_negD pe_evInt)))))
/-! ### is_quotient -/
abbrev s_is_quotient : Stmt := topS 19
theorem sc_is_quotient : FnScope ["value"] ["value"] (defScope s_is_quotient) := ⟨rfl, rfl, rfl, by decide +kernel, rfl, by decide +kernel, by decide +kernel⟩
def b_is_quotient : Ss := (sSeq (sIf (tor (tnot (evT (evL isiD (evCons (evVar 0) (evCons (evC (.ty "tuple")) evNil))))) (tor (evTB (ev2 neX (evL lenD (evCons (evVar 0) evNil)) (evC (.int 2)))) (tor (tnot (evT (evCall g_is_worth (evCons (ev2 subscD (evVar 0) (evC (.int 0))) evNil)))) (tnot (evT (evCall g_is_worth (evCons (ev2 subscD (evVar 0) (evC (.int 1))) evNil)))))))
 (sRet (evC (.bl false)))
 sNext)
 (sRet (ev2 eqX (evCall g_sign_of (evCons (ev2 subscD (evVar 0) (evC (.int 1))) evNil)) (evC (.int 1)))))
def g_is_quotient : Fn := runS 1 b_is_quotient
theorem ok_is_quotient (T : Txt mg) (C_is_worth : Cal K mg P w base "is_worth" 4 ["value"] g_is_worth) (C_sign_of : Cal K mg P w base "sign_of" 1 ["worth"] g_sign_of) {f : Addr} {fd : FuncData} (F : FunD K "is_quotient" "is_quotient" (defArgs s_is_quotient) (defBody s_is_quotient) (defScope s_is_quotient) [] [] f fd) : FnG K mg P w base 5 f fd ["value"] g_is_quotient := by
  refine PP.FunD.okG F sc_is_quotient rfl (b := b_is_quotient) (fun cdv A outer s H E hr hgs => ?_)
  have tk : Takes (cxOf (L2.CX P w) P w K mg base ["value"] "is_quotient" (defScope s_is_quotient) f cdv A outer s H E) (fun cls d _ H => E cls d H) := takes_of rfl rfl rfl rfl
  have hp : PassesOwn (model P w) (A.deeper (envOfC "is_quotient" (defScope s_is_quotient) s.heap.objs.size f cdv)) (envOfC "is_quotient" (defScope s_is_quotient) s.heap.objs.size f cdv) (cxOf (L2.CX P w) P w K mg base ["value"] "is_quotient" (defScope s_is_quotient) f cdv A outer s H E).xe := passes_of (X := cxOf (L2.CX P w) P w K mg base ["value"] "is_quotient" (defScope s_is_quotient) f cdv A outer s H E) rfl
  have hu1 := u1 hr
  have hu64 := u64 hr
  have hu65 := u65 hr
  exact (pss_sSeq (ps_sIf (PW.pt (pw_tor (pt_tnot (pt_ev (pe_evB (cr_isiD) (by rfl) T.isinstance' (by decide +kernel) (PA.cons' (pe_evVar (i := 0) rfl (.inl rfl)) (PA.cons' (pe_evTy (by rfl) T.tuple' (by decide +kernel)) pa_evNil))) (fun _ => rfl))) (pw_tor (pt_cmp2 (op_neX hu64) (pe_evB (cr_lenD) (by rfl) T.len' (by decide +kernel) (PA.cons' (pe_evVar (i := 0) rfl (.inl rfl)) pa_evNil)) pe_evInt (nomark _)) (pw_tor (pt_tnot (pt_ev (pe_evCal C_is_worth (hr.mono (by decide)) hgs (by rfl) tk (PA.cons' (pe_ix2 (ix_subscD hu1) (pe_evVar (i := 0) rfl (.inl rfl)) pe_evInt (fun _ _ => rfl)) pa_evNil) (len_cons (fun _ _ _ _ h => len_nil h))) (fun _ => rfl))) (pw_or1 (pt_tnot (pt_ev (pe_evCal C_is_worth (hr.mono (by decide)) hgs (by rfl) tk (PA.cons' (pe_ix2 (ix_subscD hu1) (pe_evVar (i := 0) rfl (.inl rfl)) pe_evInt (fun _ _ => rfl)) pa_evNil) (len_cons (fun _ _ _ _ h => len_nil h))) (fun _ => rfl)))))))) (pss_sOne (ps_sRet pe_evBl)) pss_sNil)
  (pss_sOne (ps_sRet (pe_cmp2 (op_eqX hu64) (pe_evCal C_sign_of (hr.mono (by decide)) hgs (by rfl) tk (PA.cons' (pe_ix2 (ix_subscD hu1) (pe_evVar (i := 0) rfl (.inl rfl)) pe_evInt (fun _ _ => rfl)) pa_evNil) (len_cons (fun _ _ _ _ h => len_nil h))) pe_evInt (nomark _)))))
/-! ### need_quotient -/
abbrev s_need_quotient : Stmt := topS 20
theorem sc_need_quotient : FnScope ["value"] ["value"] (defScope s_need_quotient) := ⟨rfl, rfl, rfl, by decide +kernel, rfl, by decide +kernel, by decide +kernel⟩
def b_need_quotient : Ss := (sIf (tnot (evT (evCall g_is_quotient (evCons (evVar 0) evNil))))
 (sRaise "BadWorth" ["worth"] (evCons (evVar 0) evNil))
 sNext)
def g_need_quotient : Fn := runS 1 b_need_quotient
theorem ok_need_quotient (T : Txt mg) {A_BadWorth : Addr} (X_BadWorth : XC1 K mg P w base "BadWorth" "worth" A_BadWorth) (C_is_quotient : Cal K mg P w base "is_quotient" 5 ["value"] g_is_quotient) {f : Addr} {fd : FuncData} (F : FunD K "need_quotient" "need_quotient" (defArgs s_need_quotient) (defBody s_need_quotient) (defScope s_need_quotient) [] [] f fd) : FnG K mg P w base 6 f fd ["value"] g_need_quotient := by
  refine PP.FunD.okG F sc_need_quotient rfl (b := b_need_quotient) (fun cdv A outer s H E hr hgs => ?_)
  have tk : Takes (cxOf (L2.CX P w) P w K mg base ["value"] "need_quotient" (defScope s_need_quotient) f cdv A outer s H E) (fun cls d _ H => E cls d H) := takes_of rfl rfl rfl rfl
  have hp : PassesOwn (model P w) (A.deeper (envOfC "need_quotient" (defScope s_need_quotient) s.heap.objs.size f cdv)) (envOfC "need_quotient" (defScope s_need_quotient) s.heap.objs.size f cdv) (cxOf (L2.CX P w) P w K mg base ["value"] "need_quotient" (defScope s_need_quotient) f cdv A outer s H E).xe := passes_of (X := cxOf (L2.CX P w) P w K mg base ["value"] "need_quotient" (defScope s_need_quotient) f cdv A outer s H E) rfl
  have hu1 := u1 hr
  have hu64 := u64 hr
  have hu65 := u65 hr
  exact (pss_sOne (ps_sIf (pt_tnot (pt_ev (pe_evCal C_is_quotient (hr.mono (by decide)) hgs (by rfl) tk (PA.cons' (pe_evVar (i := 0) rfl (.inl rfl)) pa_evNil) (len_cons (fun _ _ _ _ h => len_nil h))) (fun _ => rfl))) (pss_sOne (X_BadWorth.raise rfl tk (hr.mono (by decide)) (by rfl) (PA.cons' (pe_evVar (i := 0) rfl (.inl rfl)) pa_evNil))) pss_sNil))
/-! ### fraction_of -/
abbrev s_fraction_of : Stmt := topS 8
theorem sc_fraction_of : FnScope ["top", "bottom", "shared"] ["top", "bottom"] (defScope s_fraction_of) := ⟨rfl, rfl, rfl, by decide +kernel, rfl, by decide +kernel, by decide +kernel⟩
def b_fraction_of : Ss := (sSeq (sSet 2 (evIf (evTB (ev2 gtD (evVar 1) (evC (.int 0)))) (evL gcdD (evCons (evVar 0) (evCons (evVar 1) evNil))) (ev1 negD (evL gcdD (evCons (evVar 0) (evCons (evVar 1) evNil))))))
 (sRet (evL mkTup (evCons (ev2 floorD (evVar 0) (evVar 2)) (evCons (ev2 floorD (evVar 1) (evVar 2)) evNil)))))
def g_fraction_of : Fn := runS 3 b_fraction_of
theorem ok_fraction_of (T : Txt mg) {f : Addr} {fd : FuncData} (F : FunD K "fraction_of" "fraction_of" (defArgs s_fraction_of) (defBody s_fraction_of) (defScope s_fraction_of) [] [] f fd) : FnG K mg P w base 1 f fd ["top", "bottom"] g_fraction_of := by
  refine PP.FunD.okG F sc_fraction_of rfl (b := b_fraction_of) (fun cdv A outer s H E hr hgs => ?_)
  have tk : Takes (cxOf (L2.CX P w) P w K mg base ["top", "bottom", "shared"] "fraction_of" (defScope s_fraction_of) f cdv A outer s H E) (fun cls d _ H => E cls d H) := takes_of rfl rfl rfl rfl
  have hp : PassesOwn (model P w) (A.deeper (envOfC "fraction_of" (defScope s_fraction_of) s.heap.objs.size f cdv)) (envOfC "fraction_of" (defScope s_fraction_of) s.heap.objs.size f cdv) (cxOf (L2.CX P w) P w K mg base ["top", "bottom", "shared"] "fraction_of" (defScope s_fraction_of) f cdv A outer s H E).xe := passes_of (X := cxOf (L2.CX P w) P w K mg base ["top", "bottom", "shared"] "fraction_of" (defScope s_fraction_of) f cdv A outer s H E) rfl
  have hu1 := u1 hr
  have hu64 := u64 hr
  have hu65 := u65 hr
  exact (pss_sSeq (ps_sSet (i := 2) sc_fraction_of.nd rfl (.inl rfl) (pe_evIf (pt_cmp2 (op_gtDd hu64) (pe_evVar (i := 1) rfl (.inl rfl)) pe_evInt (nomark _)) (pe_evBF cr_gcdD (by rfl) T.gcd' (PA.cons' (pe_evVar (i := 0) rfl (.inl rfl)) (PA.cons' (pe_evVar (i := 1) rfl (.inl rfl)) pa_evNil))) (pe_ev1 un_negD (pe_evBF cr_gcdD (by rfl) T.gcd' (PA.cons' (pe_evVar (i := 0) rfl (.inl rfl)) (PA.cons' (pe_evVar (i := 1) rfl (.inl rfl)) pa_evNil))))))
  (pss_sOne (ps_sRet (pe_evTup (PA.cons' (pe_ev2 op_floorD (pe_evVar (i := 0) rfl (.inl rfl)) (pe_evVar (i := 2) rfl (.inl rfl))) (PA.cons' (pe_ev2 op_floorD (pe_evVar (i := 1) rfl (.inl rfl)) (pe_evVar (i := 2) rfl (.inl rfl))) pa_evNil))))))
/-! ### added -/
abbrev s_added : Stmt := topS 9
theorem sc_added : FnScope ["first", "second"] ["first", "second"] (defScope s_added) := ⟨rfl, rfl, rfl, by decide +kernel, rfl, by decide +kernel, by decide +kernel⟩
def b_added : Ss := (sRet (evCall g_fraction_of (evCons (ev2 addD (ev2 mulD (ev2 subscD (evVar 0) (evC (.int 0))) (ev2 subscD (evVar 1) (evC (.int 1)))) (ev2 mulD (ev2 subscD (evVar 1) (evC (.int 0))) (ev2 subscD (evVar 0) (evC (.int 1))))) (evCons (ev2 mulD (ev2 subscD (evVar 0) (evC (.int 1))) (ev2 subscD (evVar 1) (evC (.int 1)))) evNil))))
def g_added : Fn := runS 2 b_added
theorem ok_added (T : Txt mg) (C_fraction_of : Cal K mg P w base "fraction_of" 1 ["top", "bottom"] g_fraction_of) {f : Addr} {fd : FuncData} (F : FunD K "added" "added" (defArgs s_added) (defBody s_added) (defScope s_added) [] [] f fd) : FnG K mg P w base 2 f fd ["first", "second"] g_added := by
  refine PP.FunD.okG F sc_added rfl (b := b_added) (fun cdv A outer s H E hr hgs => ?_)
  have tk : Takes (cxOf (L2.CX P w) P w K mg base ["first", "second"] "added" (defScope s_added) f cdv A outer s H E) (fun cls d _ H => E cls d H) := takes_of rfl rfl rfl rfl
  have hp : PassesOwn (model P w) (A.deeper (envOfC "added" (defScope s_added) s.heap.objs.size f cdv)) (envOfC "added" (defScope s_added) s.heap.objs.size f cdv) (cxOf (L2.CX P w) P w K mg base ["first", "second"] "added" (defScope s_added) f cdv A outer s H E).xe := passes_of (X := cxOf (L2.CX P w) P w K mg base ["first", "second"] "added" (defScope s_added) f cdv A outer s H E) rfl
  have hu1 := u1 hr
  have hu64 := u64 hr
  have hu65 := u65 hr
  exact (pss_sOne (ps_sRet (pe_evCal C_fraction_of (hr.mono (by decide)) hgs (by rfl) tk (PA.cons' (pe_ev2 op_addD (pe_ev2 op_mulD (pe_ix2 (ix_subscD hu1) (pe_evVar (i := 0) rfl (.inl rfl)) pe_evInt (fun _ _ => rfl)) (pe_ix2 (ix_subscD hu1) (pe_evVar (i := 1) rfl (.inl rfl)) pe_evInt (fun _ _ => rfl))) (pe_ev2 op_mulD (pe_ix2 (ix_subscD hu1) (pe_evVar (i := 1) rfl (.inl rfl)) pe_evInt (fun _ _ => rfl)) (pe_ix2 (ix_subscD hu1) (pe_evVar (i := 0) rfl (.inl rfl)) pe_evInt (fun _ _ => rfl)))) (PA.cons' (pe_ev2 op_mulD (pe_ix2 (ix_subscD hu1) (pe_evVar (i := 0) rfl (.inl rfl)) pe_evInt (fun _ _ => rfl)) (pe_ix2 (ix_subscD hu1) (pe_evVar (i := 1) rfl (.inl rfl)) pe_evInt (fun _ _ => rfl))) pa_evNil)) (len_cons (len_cons (fun _ _ _ _ h => len_nil h))))))
/-! ### summed -/
abbrev s_summed : Stmt := topS 13
theorem sc_summed : FnScope ["terms", "found", "order", "top", "bottom"] ["terms"] (defScope s_summed) := ⟨rfl, rfl, rfl, by decide +kernel, rfl, by decide +kernel, by decide +kernel⟩
def b_summed : Ss := (sSeq (sSet 1 mkDct)
 (sSeq (sFor (evSrc (evVar 0)) (tgT 3 (tgsCons (tgN 2) (tgsCons (tgN 3) (tgsCons (tgN 4) tgsNil))))
 (sSub putD (evVar 1) (evVar 2) (evCall g_added (evCons (evGet2 (evVar 1) (evVar 2) (evL mkTup (evCons (evC (.int 0)) (evCons (evC (.int 1)) evNil)))) (evCons (evCall g_fraction_of (evCons (evVar 3) (evCons (evVar 4) evNil))) evNil)))))
 (sRet (evL tupleD (evCons (evLc (evSrc (evL sortedD (evCons (evVar 1) evNil))) (tgN 2) [2] (evTB (ev2 neX (ev2 subscD (ev2 subscD (evVar 1) (evVar 2)) (evC (.int 0))) (evC (.int 0)))) (ev2 addD (evL mkTup (evCons (evVar 2) evNil)) (ev2 subscD (evVar 1) (evVar 2)))) evNil)))))
def g_summed : Fn := runS 5 b_summed
theorem ok_summed (T : Txt mg) (C_added : Cal K mg P w base "added" 2 ["first", "second"] g_added) (C_fraction_of : Cal K mg P w base "fraction_of" 1 ["top", "bottom"] g_fraction_of) {f : Addr} {fd : FuncData} (F : FunD K "summed" "summed" (defArgs s_summed) (defBody s_summed) (defScope s_summed) [] [] f fd) : FnG K mg P w base 3 f fd ["terms"] g_summed := by
  refine PP.FunD.okG F sc_summed rfl (b := b_summed) (fun cdv A outer s H E hr hgs => ?_)
  have tk : Takes (cxOf (L2.CX P w) P w K mg base ["terms", "found", "order", "top", "bottom"] "summed" (defScope s_summed) f cdv A outer s H E) (fun cls d _ H => E cls d H) := takes_of rfl rfl rfl rfl
  have hp : PassesOwn (model P w) (A.deeper (envOfC "summed" (defScope s_summed) s.heap.objs.size f cdv)) (envOfC "summed" (defScope s_summed) s.heap.objs.size f cdv) (cxOf (L2.CX P w) P w K mg base ["terms", "found", "order", "top", "bottom"] "summed" (defScope s_summed) f cdv A outer s H E).xe := passes_of (X := cxOf (L2.CX P w) P w K mg base ["terms", "found", "order", "top", "bottom"] "summed" (defScope s_summed) f cdv A outer s H E) rfl
  have hu1 := u1 hr
  have hu64 := u64 hr
  have hu65 := u65 hr
  exact (pss_sSeq (ps_sSet (i := 1) sc_summed.nd rfl (.inr rfl) pe_evDct)
  (pss_sSeq (ps_sFor (sl := [2, 3, 4]) hp rfl (pi_src (pe_evVar (i := 0) rfl (.inl rfl))) (pg_tgT rfl (pgs_tgCons (pg_tgN (i := 2) sc_summed.nd rfl (.inl rfl)) (pgs_tgCons (pg_tgN (i := 3) sc_summed.nd rfl (.inl rfl)) (pgs_tgCons (pg_tgN (i := 4) sc_summed.nd rfl (.inl rfl)) pgs_tgNil)))) (pss_sOne (ps_sSub (set_putD hu1) (pe_evVar (i := 1) rfl (.inr (.inl rfl))) (pe_evVar (i := 2) rfl (.inl rfl)) (pe_evCal C_added (hr.mono (by decide)) hgs (by rfl) tk (PA.cons' (pe_evGet2 hu1 (pe_evVar (i := 1) rfl (.inr (.inl rfl))) (pe_evVar (i := 2) rfl (.inl rfl)) (pe_evTup (PA.cons' pe_evInt (PA.cons' pe_evInt pa_evNil))) ⟨by rfl, by rfl, by rfl, by rfl⟩) (PA.cons' (pe_evCal C_fraction_of (hr.mono (by decide)) hgs (by rfl) tk (PA.cons' (pe_evVar (i := 3) rfl (.inl rfl)) (PA.cons' (pe_evVar (i := 4) rfl (.inl rfl)) pa_evNil)) (len_cons (len_cons (fun _ _ _ _ h => len_nil h)))) pa_evNil)) (len_cons (len_cons (fun _ _ _ _ h => len_nil h)))))))
  (pss_sOne (ps_sRet (pe_evBT (cr_tupleD) (by rfl) T.tuple' (by decide +kernel) (PA.cons' (pe_evLc (own := [("order", 2)]) (sl := [2]) rfl sc_summed.nd (pi_src (pe_evB (cr_sortedD rfl hu64) (by rfl) T.sorted' (by decide +kernel) (PA.cons' (pe_evVar (i := 1) rfl (.inr (.inl rfl))) pa_evNil))) (blk_of (N := ["terms", "found", "order", "top", "bottom"]) (sc := defScope s_summed) (by decide +kernel)) (by decide) (fun _ _ _ _ _ => (pg_tgN (i := 2) sc_summed.nd rfl (.inl rfl))) (fun _ _ _ _ _ => (pts_one (pt_cmp2 (op_neX hu64) (pe_ix2 (ix_subscD hu1) (pe_ix2 (ix_subscD hu1) (pe_evVar (i := 1) rfl (.inr (.inl rfl))) (pe_evVar (i := 2) rfl (.inl rfl)) (fun _ _ => rfl)) pe_evInt (fun _ _ => rfl)) pe_evInt (nomark _)))) (fun _ _ _ _ _ => (pe_ev2 op_addD (pe_evTup (PA.cons' (pe_evVar (i := 2) rfl (.inl rfl)) pa_evNil)) (pe_ix2 (ix_subscD hu1) (pe_evVar (i := 1) rfl (.inr (.inl rfl))) (pe_evVar (i := 2) rfl (.inl rfl)) (fun _ _ => rfl))))) pa_evNil))))))
/-! ### sum_of -/
abbrev s_sum_of : Stmt := topS 14
theorem sc_sum_of : FnScope ["first", "second"] ["first", "second"] (defScope s_sum_of) := ⟨rfl, rfl, rfl, by decide +kernel, rfl, by decide +kernel, by decide +kernel⟩
def b_sum_of : Ss := (sRet (evCall g_summed (evCons (ev2 addD (evVar 0) (evVar 1)) evNil)))
def g_sum_of : Fn := runS 2 b_sum_of
theorem ok_sum_of (T : Txt mg) (C_summed : Cal K mg P w base "summed" 3 ["terms"] g_summed) {f : Addr} {fd : FuncData} (F : FunD K "sum_of" "sum_of" (defArgs s_sum_of) (defBody s_sum_of) (defScope s_sum_of) [] [] f fd) : FnG K mg P w base 4 f fd ["first", "second"] g_sum_of := by
  refine PP.FunD.okG F sc_sum_of rfl (b := b_sum_of) (fun cdv A outer s H E hr hgs => ?_)
  have tk : Takes (cxOf (L2.CX P w) P w K mg base ["first", "second"] "sum_of" (defScope s_sum_of) f cdv A outer s H E) (fun cls d _ H => E cls d H) := takes_of rfl rfl rfl rfl
  have hp : PassesOwn (model P w) (A.deeper (envOfC "sum_of" (defScope s_sum_of) s.heap.objs.size f cdv)) (envOfC "sum_of" (defScope s_sum_of) s.heap.objs.size f cdv) (cxOf (L2.CX P w) P w K mg base ["first", "second"] "sum_of" (defScope s_sum_of) f cdv A outer s H E).xe := passes_of (X := cxOf (L2.CX P w) P w K mg base ["first", "second"] "sum_of" (defScope s_sum_of) f cdv A outer s H E) rfl
  have hu1 := u1 hr
  have hu64 := u64 hr
  have hu65 := u65 hr
  exact (pss_sOne (ps_sRet (pe_evCal C_summed (hr.mono (by decide)) hgs (by rfl) tk (PA.cons' (pe_ev2 op_addD (pe_evVar (i := 0) rfl (.inl rfl)) (pe_evVar (i := 1) rfl (.inl rfl))) pa_evNil) (len_cons (fun _ _ _ _ h => len_nil h)))))
/-! ### negative -/
abbrev s_negative : Stmt := topS 15
theorem sc_negative : FnScope ["worth", "order", "top", "bottom"] ["worth"] (defScope s_negative) := ⟨rfl, rfl, rfl, by decide +kernel, rfl, by decide +kernel, by decide +kernel⟩
def b_negative : Ss := (sRet (evL tupleD (evCons (evLc (evSrc (evVar 0)) (tgT 3 (tgsCons (tgN 1) (tgsCons (tgN 2) (tgsCons (tgN 3) tgsNil)))) [1, 2, 3] tyes (evL mkTup (evCons (evVar 1) (evCons (ev1 negD (evVar 2)) (evCons (evVar 3) evNil))))) evNil)))
def g_negative : Fn := runS 4 b_negative
theorem ok_negative (T : Txt mg) {f : Addr} {fd : FuncData} (F : FunD K "negative" "negative" (defArgs s_negative) (defBody s_negative) (defScope s_negative) [] [] f fd) : FnG K mg P w base 1 f fd ["worth"] g_negative := by
  refine PP.FunD.okG F sc_negative rfl (b := b_negative) (fun cdv A outer s H E hr hgs => ?_)
  have tk : Takes (cxOf (L2.CX P w) P w K mg base ["worth", "order", "top", "bottom"] "negative" (defScope s_negative) f cdv A outer s H E) (fun cls d _ H => E cls d H) := takes_of rfl rfl rfl rfl
  have hp : PassesOwn (model P w) (A.deeper (envOfC "negative" (defScope s_negative) s.heap.objs.size f cdv)) (envOfC "negative" (defScope s_negative) s.heap.objs.size f cdv) (cxOf (L2.CX P w) P w K mg base ["worth", "order", "top", "bottom"] "negative" (defScope s_negative) f cdv A outer s H E).xe := passes_of (X := cxOf (L2.CX P w) P w K mg base ["worth", "order", "top", "bottom"] "negative" (defScope s_negative) f cdv A outer s H E) rfl
  have hu1 := u1 hr
  have hu64 := u64 hr
  have hu65 := u65 hr
  exact (pss_sOne (ps_sRet (pe_evBT (cr_tupleD) (by rfl) T.tuple' (by decide +kernel) (PA.cons' (pe_evLc (own := [("order", 1), ("top", 2), ("bottom", 3)]) (sl := [1, 2, 3]) rfl sc_negative.nd (pi_src (pe_evVar (i := 0) rfl (.inl rfl))) (blk_of (N := ["worth", "order", "top", "bottom"]) (sc := defScope s_negative) (by decide +kernel)) (by decide) (fun _ _ _ _ _ => (pg_tgT rfl (pgs_tgCons (pg_tgN (i := 1) sc_negative.nd rfl (.inl rfl)) (pgs_tgCons (pg_tgN (i := 2) sc_negative.nd rfl (.inl rfl)) (pgs_tgCons (pg_tgN (i := 3) sc_negative.nd rfl (.inl rfl)) pgs_tgNil))))) (fun _ _ _ _ _ => pts_evNil) (fun _ _ _ _ _ => (pe_evTup (PA.cons' (pe_evVar (i := 1) rfl (.inl rfl)) (PA.cons' (pe_ev1 un_negD (pe_evVar (i := 2) rfl (.inl rfl))) (PA.cons' (pe_evVar (i := 3) rfl (.inl rfl)) pa_evNil)))))) pa_evNil))))
/-! ### product_of -/
abbrev s_product_of : Stmt := topS 16
theorem sc_product_of : FnScope ["first", "second", "k", "a", "b", "j", "c", "d"] ["first", "second"] (defScope s_product_of) := ⟨rfl, rfl, rfl, by decide +kernel, rfl, by decide +kernel, by decide +kernel⟩
def b_product_of : Ss := (sRet (evCall g_summed (evCons (evLc2 (evSrc (evVar 0)) (tgT 3 (tgsCons (tgN 2) (tgsCons (tgN 3) (tgsCons (tgN 4) tgsNil)))) [2, 3, 4, 5, 6, 7] tyes (evSrc (evVar 1)) (tgT 3 (tgsCons (tgN 5) (tgsCons (tgN 6) (tgsCons (tgN 7) tgsNil)))) [5, 6, 7] tyes (evL mkTup (evCons (ev2 addD (evVar 2) (evVar 5)) (evCons (ev2 mulD (evVar 3) (evVar 6)) (evCons (ev2 mulD (evVar 4) (evVar 7)) evNil))))) evNil)))
def g_product_of : Fn := runS 8 b_product_of
theorem ok_product_of (T : Txt mg) (C_summed : Cal K mg P w base "summed" 3 ["terms"] g_summed) {f : Addr} {fd : FuncData} (F : FunD K "product_of" "product_of" (defArgs s_product_of) (defBody s_product_of) (defScope s_product_of) [] [] f fd) : FnG K mg P w base 4 f fd ["first", "second"] g_product_of := by
  refine PP.FunD.okG F sc_product_of rfl (b := b_product_of) (fun cdv A outer s H E hr hgs => ?_)
  have tk : Takes (cxOf (L2.CX P w) P w K mg base ["first", "second", "k", "a", "b", "j", "c", "d"] "product_of" (defScope s_product_of) f cdv A outer s H E) (fun cls d _ H => E cls d H) := takes_of rfl rfl rfl rfl
  have hp : PassesOwn (model P w) (A.deeper (envOfC "product_of" (defScope s_product_of) s.heap.objs.size f cdv)) (envOfC "product_of" (defScope s_product_of) s.heap.objs.size f cdv) (cxOf (L2.CX P w) P w K mg base ["first", "second", "k", "a", "b", "j", "c", "d"] "product_of" (defScope s_product_of) f cdv A outer s H E).xe := passes_of (X := cxOf (L2.CX P w) P w K mg base ["first", "second", "k", "a", "b", "j", "c", "d"] "product_of" (defScope s_product_of) f cdv A outer s H E) rfl
  have hu1 := u1 hr
  have hu64 := u64 hr
  have hu65 := u65 hr
  exact (pss_sOne (ps_sRet (pe_evCal C_summed (hr.mono (by decide)) hgs (by rfl) tk (PA.cons' (pe_evLc2 (own := [("k", 2), ("a", 3), ("b", 4), ("j", 5), ("c", 6), ("d", 7)]) (sl := [2, 3, 4]) (vs1 := [5, 6, 7]) (sl1 := [5, 6, 7]) rfl sc_product_of.nd (pi_src (pe_evVar (i := 0) rfl (.inl rfl))) (blk_of (N := ["first", "second", "k", "a", "b", "j", "c", "d"]) (sc := defScope s_product_of) (by decide +kernel)) (by decide) (by decide) (by decide) (fun _ _ _ _ _ => (pg_tgT rfl (pgs_tgCons (pg_tgN (i := 2) sc_product_of.nd rfl (.inl rfl)) (pgs_tgCons (pg_tgN (i := 3) sc_product_of.nd rfl (.inl rfl)) (pgs_tgCons (pg_tgN (i := 4) sc_product_of.nd rfl (.inl rfl)) pgs_tgNil))))) (fun _ _ _ _ _ => pts_evNil) (fun _ _ _ _ _ => (pi_src (pe_evVar (i := 1) rfl (.inr (.inl rfl))))) (fun _ _ _ _ _ => (pg_tgT rfl (pgs_tgCons (pg_tgN (i := 5) sc_product_of.nd rfl (.inl rfl)) (pgs_tgCons (pg_tgN (i := 6) sc_product_of.nd rfl (.inl rfl)) (pgs_tgCons (pg_tgN (i := 7) sc_product_of.nd rfl (.inl rfl)) pgs_tgNil))))) (fun _ _ _ _ _ => pts_evNil) (fun _ _ _ _ _ => (pe_evTup (PA.cons' (pe_ev2 op_addD (pe_evVar (i := 2) rfl (.inl rfl)) (pe_evVar (i := 5) rfl (.inl rfl))) (PA.cons' (pe_ev2 op_mulD (pe_evVar (i := 3) rfl (.inl rfl)) (pe_evVar (i := 6) rfl (.inl rfl))) (PA.cons' (pe_ev2 op_mulD (pe_evVar (i := 4) rfl (.inl rfl)) (pe_evVar (i := 7) rfl (.inl rfl))) pa_evNil)))))) pa_evNil) (len_cons (fun _ _ _ _ h => len_nil h)))))
/-! ### crossed -/
abbrev s_crossed : Stmt := topS 21
theorem sc_crossed : FnScope ["one", "two"] ["one", "two"] (defScope s_crossed) := ⟨rfl, rfl, rfl, by decide +kernel, rfl, by decide +kernel, by decide +kernel⟩
def b_crossed : Ss := (sSeq (sExpr (evCall g_need_quotient (evCons (evVar 0) evNil)))
 (sSeq (sExpr (evCall g_need_quotient (evCons (evVar 1) evNil)))
 (sRet (evCall g_sum_of (evCons (evCall g_product_of (evCons (ev2 subscD (evVar 0) (evC (.int 0))) (evCons (ev2 subscD (evVar 1) (evC (.int 1))) evNil))) (evCons (evCall g_negative (evCons (evCall g_product_of (evCons (ev2 subscD (evVar 1) (evC (.int 0))) (evCons (ev2 subscD (evVar 0) (evC (.int 1))) evNil))) evNil)) evNil))))))
def g_crossed : Fn := runS 2 b_crossed
theorem ok_crossed (T : Txt mg) (C_need_quotient : Cal K mg P w base "need_quotient" 6 ["value"] g_need_quotient) (C_sum_of : Cal K mg P w base "sum_of" 4 ["first", "second"] g_sum_of) (C_negative : Cal K mg P w base "negative" 1 ["worth"] g_negative) (C_product_of : Cal K mg P w base "product_of" 4 ["first", "second"] g_product_of) {f : Addr} {fd : FuncData} (F : FunD K "crossed" "crossed" (defArgs s_crossed) (defBody s_crossed) (defScope s_crossed) [] [] f fd) : FnG K mg P w base 7 f fd ["one", "two"] g_crossed := by
  refine PP.FunD.okG F sc_crossed rfl (b := b_crossed) (fun cdv A outer s H E hr hgs => ?_)
  have tk : Takes (cxOf (L2.CX P w) P w K mg base ["one", "two"] "crossed" (defScope s_crossed) f cdv A outer s H E) (fun cls d _ H => E cls d H) := takes_of rfl rfl rfl rfl
  have hp : PassesOwn (model P w) (A.deeper (envOfC "crossed" (defScope s_crossed) s.heap.objs.size f cdv)) (envOfC "crossed" (defScope s_crossed) s.heap.objs.size f cdv) (cxOf (L2.CX P w) P w K mg base ["one", "two"] "crossed" (defScope s_crossed) f cdv A outer s H E).xe := passes_of (X := cxOf (L2.CX P w) P w K mg base ["one", "two"] "crossed" (defScope s_crossed) f cdv A outer s H E) rfl
  have hu1 := u1 hr
  have hu64 := u64 hr
  have hu65 := u65 hr
  exact (pss_sSeq (ps_sExpr (pe_evCal C_need_quotient (hr.mono (by decide)) hgs (by rfl) tk (PA.cons' (pe_evVar (i := 0) rfl (.inl rfl)) pa_evNil) (len_cons (fun _ _ _ _ h => len_nil h))))
  (pss_sSeq (ps_sExpr (pe_evCal C_need_quotient (hr.mono (by decide)) hgs (by rfl) tk (PA.cons' (pe_evVar (i := 1) rfl (.inl rfl)) pa_evNil) (len_cons (fun _ _ _ _ h => len_nil h))))
  (pss_sOne (ps_sRet (pe_evCal C_sum_of (hr.mono (by decide)) hgs (by rfl) tk (PA.cons' (pe_evCal C_product_of (hr.mono (by decide)) hgs (by rfl) tk (PA.cons' (pe_ix2 (ix_subscD hu1) (pe_evVar (i := 0) rfl (.inl rfl)) pe_evInt (fun _ _ => rfl)) (PA.cons' (pe_ix2 (ix_subscD hu1) (pe_evVar (i := 1) rfl (.inl rfl)) pe_evInt (fun _ _ => rfl)) pa_evNil)) (len_cons (len_cons (fun _ _ _ _ h => len_nil h)))) (PA.cons' (pe_evCal C_negative (hr.mono (by decide)) hgs (by rfl) tk (PA.cons' (pe_evCal C_product_of (hr.mono (by decide)) hgs (by rfl) tk (PA.cons' (pe_ix2 (ix_subscD hu1) (pe_evVar (i := 1) rfl (.inl rfl)) pe_evInt (fun _ _ => rfl)) (PA.cons' (pe_ix2 (ix_subscD hu1) (pe_evVar (i := 0) rfl (.inl rfl)) pe_evInt (fun _ _ => rfl)) pa_evNil)) (len_cons (len_cons (fun _ _ _ _ h => len_nil h)))) pa_evNil) (len_cons (fun _ _ _ _ h => len_nil h))) pa_evNil)) (len_cons (len_cons (fun _ _ _ _ h => len_nil h))))))))
/-! ### are_alike -/
abbrev s_are_alike : Stmt := topS 22
theorem sc_are_alike : FnScope ["one", "two"] ["one", "two"] (defScope s_are_alike) := ⟨rfl, rfl, rfl, by decide +kernel, rfl, by decide +kernel, by decide +kernel⟩
def b_are_alike : Ss := (sRet (ev2 eqX (evCall g_crossed (evCons (evVar 0) (evCons (evVar 1) evNil))) (evL mkTup evNil)))
def g_are_alike : Fn := runS 2 b_are_alike
theorem ok_are_alike (T : Txt mg) (C_crossed : Cal K mg P w base "crossed" 7 ["one", "two"] g_crossed) {f : Addr} {fd : FuncData} (F : FunD K "are_alike" "are_alike" (defArgs s_are_alike) (defBody s_are_alike) (defScope s_are_alike) [] [] f fd) : FnG K mg P w base 8 f fd ["one", "two"] g_are_alike := by
  refine PP.FunD.okG F sc_are_alike rfl (b := b_are_alike) (fun cdv A outer s H E hr hgs => ?_)
  have tk : Takes (cxOf (L2.CX P w) P w K mg base ["one", "two"] "are_alike" (defScope s_are_alike) f cdv A outer s H E) (fun cls d _ H => E cls d H) := takes_of rfl rfl rfl rfl
  have hp : PassesOwn (model P w) (A.deeper (envOfC "are_alike" (defScope s_are_alike) s.heap.objs.size f cdv)) (envOfC "are_alike" (defScope s_are_alike) s.heap.objs.size f cdv) (cxOf (L2.CX P w) P w K mg base ["one", "two"] "are_alike" (defScope s_are_alike) f cdv A outer s H E).xe := passes_of (X := cxOf (L2.CX P w) P w K mg base ["one", "two"] "are_alike" (defScope s_are_alike) f cdv A outer s H E) rfl
  have hu1 := u1 hr
  have hu64 := u64 hr
  have hu65 := u65 hr
  exact (pss_sOne (ps_sRet (pe_cmp2 (op_eqX hu64) (pe_evCal C_crossed (hr.mono (by decide)) hgs (by rfl) tk (PA.cons' (pe_evVar (i := 0) rfl (.inl rfl)) (PA.cons' (pe_evVar (i := 1) rfl (.inl rfl)) pa_evNil)) (len_cons (len_cons (fun _ _ _ _ h => len_nil h)))) (pe_evTup pa_evNil) (nomark _))))
/-! ### quotient_above -/
abbrev s_quotient_above : Stmt := topS 23
theorem sc_quotient_above : FnScope ["one", "two"] ["one", "two"] (defScope s_quotient_above) := ⟨rfl, rfl, rfl, by decide +kernel, rfl, by decide +kernel, by decide +kernel⟩
def b_quotient_above : Ss := (sRet (ev2 eqX (evCall g_sign_of (evCons (evCall g_crossed (evCons (evVar 0) (evCons (evVar 1) evNil))) evNil)) (evC (.int 1))))
def g_quotient_above : Fn := runS 2 b_quotient_above
theorem ok_quotient_above (T : Txt mg) (C_sign_of : Cal K mg P w base "sign_of" 1 ["worth"] g_sign_of) (C_crossed : Cal K mg P w base "crossed" 7 ["one", "two"] g_crossed) {f : Addr} {fd : FuncData} (F : FunD K "quotient_above" "quotient_above" (defArgs s_quotient_above) (defBody s_quotient_above) (defScope s_quotient_above) [] [] f fd) : FnG K mg P w base 8 f fd ["one", "two"] g_quotient_above := by
  refine PP.FunD.okG F sc_quotient_above rfl (b := b_quotient_above) (fun cdv A outer s H E hr hgs => ?_)
  have tk : Takes (cxOf (L2.CX P w) P w K mg base ["one", "two"] "quotient_above" (defScope s_quotient_above) f cdv A outer s H E) (fun cls d _ H => E cls d H) := takes_of rfl rfl rfl rfl
  have hp : PassesOwn (model P w) (A.deeper (envOfC "quotient_above" (defScope s_quotient_above) s.heap.objs.size f cdv)) (envOfC "quotient_above" (defScope s_quotient_above) s.heap.objs.size f cdv) (cxOf (L2.CX P w) P w K mg base ["one", "two"] "quotient_above" (defScope s_quotient_above) f cdv A outer s H E).xe := passes_of (X := cxOf (L2.CX P w) P w K mg base ["one", "two"] "quotient_above" (defScope s_quotient_above) f cdv A outer s H E) rfl
  have hu1 := u1 hr
  have hu64 := u64 hr
  have hu65 := u65 hr
  exact (pss_sOne (ps_sRet (pe_cmp2 (op_eqX hu64) (pe_evCal C_sign_of (hr.mono (by decide)) hgs (by rfl) tk (PA.cons' (pe_evCal C_crossed (hr.mono (by decide)) hgs (by rfl) tk (PA.cons' (pe_evVar (i := 0) rfl (.inl rfl)) (PA.cons' (pe_evVar (i := 1) rfl (.inl rfl)) pa_evNil)) (len_cons (len_cons (fun _ _ _ _ h => len_nil h)))) pa_evNil) (len_cons (fun _ _ _ _ h => len_nil h))) pe_evInt (nomark _))))
/-! ### _law_over -/
abbrev s__law_over : Stmt := topS 34
theorem sc__law_over : FnScope ["one", "two"] ["one", "two"] (defScope s__law_over) := ⟨rfl, rfl, rfl, by decide +kernel, rfl, by decide +kernel, by decide +kernel⟩
def b__law_over : Ss := (sRet (evCall g__law_part (evCons (ev2 mulD (ev2 subscD (evVar 0) (evC (.int 0))) (ev2 subscD (evVar 1) (evC (.int 1)))) (evCons (ev2 mulD (ev2 subscD (evVar 0) (evC (.int 1))) (ev2 subscD (evVar 1) (evC (.int 0)))) evNil))))
def g__law_over : Fn := runS 2 b__law_over
theorem ok__law_over (T : Txt mg) (C__law_part : Cal K mg P w base "_law_part" 2 ["top", "bottom"] g__law_part) {f : Addr} {fd : FuncData} (F : FunD K "_law_over" "_law_over" (defArgs s__law_over) (defBody s__law_over) (defScope s__law_over) [] [] f fd) : FnG K mg P w base 3 f fd ["one", "two"] g__law_over := by
  refine PP.FunD.okG F sc__law_over rfl (b := b__law_over) (fun cdv A outer s H E hr hgs => ?_)
  have tk : Takes (cxOf (L2.CX P w) P w K mg base ["one", "two"] "_law_over" (defScope s__law_over) f cdv A outer s H E) (fun cls d _ H => E cls d H) := takes_of rfl rfl rfl rfl
  have hp : PassesOwn (model P w) (A.deeper (envOfC "_law_over" (defScope s__law_over) s.heap.objs.size f cdv)) (envOfC "_law_over" (defScope s__law_over) s.heap.objs.size f cdv) (cxOf (L2.CX P w) P w K mg base ["one", "two"] "_law_over" (defScope s__law_over) f cdv A outer s H E).xe := passes_of (X := cxOf (L2.CX P w) P w K mg base ["one", "two"] "_law_over" (defScope s__law_over) f cdv A outer s H E) rfl
  have hu1 := u1 hr
  have hu64 := u64 hr
  have hu65 := u65 hr
  exact (pss_sOne (ps_sRet (pe_evCal C__law_part (hr.mono (by decide)) hgs (by rfl) tk (PA.cons' (pe_ev2 op_mulD (pe_ix2 (ix_subscD hu1) (pe_evVar (i := 0) rfl (.inl rfl)) pe_evInt (fun _ _ => rfl)) (pe_ix2 (ix_subscD hu1) (pe_evVar (i := 1) rfl (.inl rfl)) pe_evInt (fun _ _ => rfl))) (PA.cons' (pe_ev2 op_mulD (pe_ix2 (ix_subscD hu1) (pe_evVar (i := 0) rfl (.inl rfl)) pe_evInt (fun _ _ => rfl)) (pe_ix2 (ix_subscD hu1) (pe_evVar (i := 1) rfl (.inl rfl)) pe_evInt (fun _ _ => rfl))) pa_evNil)) (len_cons (len_cons (fun _ _ _ _ h => len_nil h))))))
/-! ### divided -/
abbrev s_divided : Stmt := topS 10
theorem sc_divided : FnScope ["first", "second"] ["first", "second"] (defScope s_divided) := ⟨rfl, rfl, rfl, by decide +kernel, rfl, by decide +kernel, by decide +kernel⟩
def b_divided : Ss := (sRet (evCall g_fraction_of (evCons (ev2 mulD (ev2 subscD (evVar 0) (evC (.int 0))) (ev2 subscD (evVar 1) (evC (.int 1)))) (evCons (ev2 mulD (ev2 subscD (evVar 0) (evC (.int 1))) (ev2 subscD (evVar 1) (evC (.int 0)))) evNil))))
def g_divided : Fn := runS 2 b_divided
theorem ok_divided (T : Txt mg) (C_fraction_of : Cal K mg P w base "fraction_of" 1 ["top", "bottom"] g_fraction_of) {f : Addr} {fd : FuncData} (F : FunD K "divided" "divided" (defArgs s_divided) (defBody s_divided) (defScope s_divided) [] [] f fd) : FnG K mg P w base 2 f fd ["first", "second"] g_divided := by
  refine PP.FunD.okG F sc_divided rfl (b := b_divided) (fun cdv A outer s H E hr hgs => ?_)
  have tk : Takes (cxOf (L2.CX P w) P w K mg base ["first", "second"] "divided" (defScope s_divided) f cdv A outer s H E) (fun cls d _ H => E cls d H) := takes_of rfl rfl rfl rfl
  have hp : PassesOwn (model P w) (A.deeper (envOfC "divided" (defScope s_divided) s.heap.objs.size f cdv)) (envOfC "divided" (defScope s_divided) s.heap.objs.size f cdv) (cxOf (L2.CX P w) P w K mg base ["first", "second"] "divided" (defScope s_divided) f cdv A outer s H E).xe := passes_of (X := cxOf (L2.CX P w) P w K mg base ["first", "second"] "divided" (defScope s_divided) f cdv A outer s H E) rfl
  have hu1 := u1 hr
  have hu64 := u64 hr
  have hu65 := u65 hr
  exact (pss_sOne (ps_sRet (pe_evCal C_fraction_of (hr.mono (by decide)) hgs (by rfl) tk (PA.cons' (pe_ev2 op_mulD (pe_ix2 (ix_subscD hu1) (pe_evVar (i := 0) rfl (.inl rfl)) pe_evInt (fun _ _ => rfl)) (pe_ix2 (ix_subscD hu1) (pe_evVar (i := 1) rfl (.inl rfl)) pe_evInt (fun _ _ => rfl))) (PA.cons' (pe_ev2 op_mulD (pe_ix2 (ix_subscD hu1) (pe_evVar (i := 0) rfl (.inl rfl)) pe_evInt (fun _ _ => rfl)) (pe_ix2 (ix_subscD hu1) (pe_evVar (i := 1) rfl (.inl rfl)) pe_evInt (fun _ _ => rfl))) pa_evNil)) (len_cons (len_cons (fun _ _ _ _ h => len_nil h))))))
/-! ### quotient_term -/
abbrev s_quotient_term : Stmt := topS 24
theorem sc_quotient_term : FnScope ["one", "first", "second"] ["one"] (defScope s_quotient_term) := ⟨rfl, rfl, rfl, by decide +kernel, rfl, by decide +kernel, by decide +kernel⟩
def b_quotient_term : Ss := (sSeq (sExpr (evCall g_need_quotient (evCons (evVar 0) evNil)))
 (sSeq (sIf (evTB (ev2 eqX (ev2 subscD (evVar 0) (evC (.int 0))) (evL mkTup evNil)))
 (sRet (evC .non))
 sNext)
 (sSeq (sPar 1 2 (evCons (ev2 subscD (ev2 subscD (evVar 0) (evC (.int 0))) (evC (.int 0))) (evCons (ev2 subscD (ev2 subscD (evVar 0) (evC (.int 1))) (evC (.int 0))) evNil)))
 (sRet (ev2 addD (evL mkTup (evCons (ev2 subD (ev2 subscD (evVar 1) (evC (.int 0))) (ev2 subscD (evVar 2) (evC (.int 0)))) evNil)) (evCall g_divided (evCons (evSl sliceD (evVar 1) (some (evC (.int 1))) none) (evCons (evSl sliceD (evVar 2) (some (evC (.int 1))) none) evNil))))))))
def g_quotient_term : Fn := runS 3 b_quotient_term
theorem ok_quotient_term (T : Txt mg) (C_need_quotient : Cal K mg P w base "need_quotient" 6 ["value"] g_need_quotient) (C_divided : Cal K mg P w base "divided" 2 ["first", "second"] g_divided) {f : Addr} {fd : FuncData} (F : FunD K "quotient_term" "quotient_term" (defArgs s_quotient_term) (defBody s_quotient_term) (defScope s_quotient_term) [] [] f fd) : FnG K mg P w base 7 f fd ["one"] g_quotient_term := by
  refine PP.FunD.okG F sc_quotient_term rfl (b := b_quotient_term) (fun cdv A outer s H E hr hgs => ?_)
  have tk : Takes (cxOf (L2.CX P w) P w K mg base ["one", "first", "second"] "quotient_term" (defScope s_quotient_term) f cdv A outer s H E) (fun cls d _ H => E cls d H) := takes_of rfl rfl rfl rfl
  have hp : PassesOwn (model P w) (A.deeper (envOfC "quotient_term" (defScope s_quotient_term) s.heap.objs.size f cdv)) (envOfC "quotient_term" (defScope s_quotient_term) s.heap.objs.size f cdv) (cxOf (L2.CX P w) P w K mg base ["one", "first", "second"] "quotient_term" (defScope s_quotient_term) f cdv A outer s H E).xe := passes_of (X := cxOf (L2.CX P w) P w K mg base ["one", "first", "second"] "quotient_term" (defScope s_quotient_term) f cdv A outer s H E) rfl
  have hu1 := u1 hr
  have hu64 := u64 hr
  have hu65 := u65 hr
  exact (pss_sSeq (ps_sExpr (pe_evCal C_need_quotient (hr.mono (by decide)) hgs (by rfl) tk (PA.cons' (pe_evVar (i := 0) rfl (.inl rfl)) pa_evNil) (len_cons (fun _ _ _ _ h => len_nil h))))
  (pss_sSeq (ps_sIf (pt_cmp2 (op_eqX hu64) (pe_ix2 (ix_subscD hu1) (pe_evVar (i := 0) rfl (.inl rfl)) pe_evInt (fun _ _ => rfl)) (pe_evTup pa_evNil) (nomark _)) (pss_sOne (ps_sRet pe_evNon)) pss_sNil)
  (pss_sSeq (ps_sPar (i := 1) (j := 2) rfl sc_quotient_term.nd rfl rfl (by decide) rfl rfl (PA.cons' (pe_ix2 (ix_subscD hu1) (pe_ix2 (ix_subscD hu1) (pe_evVar (i := 0) rfl (.inl rfl)) pe_evInt (fun _ _ => rfl)) pe_evInt (fun _ _ => rfl)) (PA.cons' (pe_ix2 (ix_subscD hu1) (pe_ix2 (ix_subscD hu1) (pe_evVar (i := 0) rfl (.inl rfl)) pe_evInt (fun _ _ => rfl)) pe_evInt (fun _ _ => rfl)) pa_evNil)) (by rfl))
  (pss_sOne (ps_sRet (pe_ev2 op_addD (pe_evTup (PA.cons' (pe_ev2 op_subD (pe_ix2 (ix_subscD hu1) (pe_evVar (i := 1) rfl (.inl rfl)) pe_evInt (fun _ _ => rfl)) (pe_ix2 (ix_subscD hu1) (pe_evVar (i := 2) rfl (.inl rfl)) pe_evInt (fun _ _ => rfl))) pa_evNil)) (pe_evCal C_divided (hr.mono (by decide)) hgs (by rfl) tk (PA.cons' (pe_evSl sl_sliceD (pe_evVar (i := 1) rfl (.inl rfl)) (po_ev1 pe_evInt) po_ev0) (PA.cons' (pe_evSl sl_sliceD (pe_evVar (i := 2) rfl (.inl rfl)) (po_ev1 pe_evInt) po_ev0) pa_evNil)) (len_cons (len_cons (fun _ _ _ _ h => len_nil h))))))))))
/-! ### _law_odd -/
abbrev s__law_odd : Stmt := topS 41
theorem sc__law_odd : FnScope ["pen", "good", "some", "top", "bottom"] ["pen", "good"] (defScope s__law_odd) := ⟨rfl, rfl, rfl, by decide +kernel, rfl, by decide +kernel, by decide +kernel⟩
def b__law_odd : Ss := (sSeq (sTg (tgT 2 (tgsCons (tgN 3) (tgsCons (tgN 4) tgsNil))) (evVar 1))
 (sSeq (sSet 2 (evL mkLst (evCons (evC .non) (evCons (evL mkLst (evCons (evVar 3) (evCons (evVar 4) evNil))) (evCons (evL mkTup (evCons (evVar 3) evNil)) (evCons (evL mkTup (evCons (evVar 3) (evCons (evL mkTup evNil) evNil))) (evCons (evL mkTup (evCons (evVar 3) (evCons (evVar 4) (evCons (evVar 4) evNil)))) (evCons (evC (.int 0)) (evCons (evC (.str "")) (evCons (evL mkTup (evCons (evC .non) (evCons (evVar 4) evNil))) (evCons (evL mkTup (evCons (evVar 3) (evCons (evC .non) evNil))) evNil)))))))))))
 (sSeq (sSet 2 (ev2 addD (evVar 2) (evL mkLst (evCons (evL mkTup (evCons (evVar 3) (evCons (ev2 addD (evL mkTup (evCons (evL mkTup (evCons (ev2 subscD (ev2 subscD (evVar 4) (evC (.int 0))) (evC (.int 0))) (evCons (ev1 negD (ev2 subscD (ev2 subscD (evVar 4) (evC (.int 0))) (evC (.int 1)))) (evCons (ev2 subscD (ev2 subscD (evVar 4) (evC (.int 0))) (evC (.int 2))) evNil)))) evNil)) (evSl sliceD (evVar 4) (some (evC (.int 1))) none)) evNil))) (evCons (evL mkTup (evCons (evVar 3) (evCons (ev2 addD (evVar 4) (evSl sliceD (evVar 4) (some (ev1 negD (evC (.int 1)))) none)) evNil))) evNil)))))
 (sSeq (sSet 2 (ev2 addD (evVar 2) (evL mkLst (evCons (evL mkTup (evCons (evVar 3) (evCons (evL mkTup (evCons (evL mkTup (evCons (evC (.int 0)) (evCons (evC (.int 2)) (evCons (evC (.int 4)) evNil)))) evNil)) evNil))) (evCons (evL mkTup (evCons (evL mkTup (evCons (evL mkTup (evCons (evC (.int 0)) (evCons (evC (.int 0)) (evCons (evC (.int 1)) evNil)))) evNil)) (evCons (evVar 4) evNil))) (evCons (evL mkTup (evCons (evVar 3) (evCons (evL mkTup (evCons (evL mkTup (evCons (evC (.bl true)) (evCons (evC (.int 1)) (evCons (evC (.int 1)) evNil)))) evNil)) evNil))) (evCons (evL mkTup (evCons (evVar 3) (evCons (evL mkTup (evCons (evL mkTup (evCons (evC (.int 0)) (evCons (evC (.int 1)) (evCons (ev1 negD (evC (.int 1))) evNil)))) evNil)) evNil))) (evCons (evL mkTup (evCons (evL mkTup evNil) (evCons (evL mkTup evNil) evNil))) evNil))))))))
 (sRet (evCall g__law_pick (evCons (evVar 0) (evCons (ev2 addD (evVar 2) (evL mkLst (evCons (evL mkTup (evCons (evL listD (evCons (evVar 3) evNil)) (evCons (evVar 4) evNil))) (evCons (evL mkTup (evCons (evVar 3) (evCons (evL mkTup (evCons (evL mkTup (evCons (evC (.int 1)) (evCons (evC (.int 1)) (evCons (evC (.int 1)) evNil)))) (evCons (evL mkTup (evCons (evC (.int 1)) (evCons (evC (.int 1)) (evCons (evC (.int 1)) evNil)))) evNil))) evNil))) (evCons (evL mkTup (evCons (evVar 3) (evCons (evL mkTup (evCons (evL mkTup (evCons (ev1 negD (evC (.int 1))) (evCons (evC (.int 1)) (evCons (evC (.int 1)) evNil)))) evNil)) evNil))) evNil))))) evNil))))))))
def g__law_odd : Fn := runS 5 b__law_odd
theorem ok__law_odd (T : Txt mg) (C__law_pick : Cal K mg P w base "_law_pick" 2 ["pen", "some"] g__law_pick) {f : Addr} {fd : FuncData} (F : FunD K "_law_odd" "_law_odd" (defArgs s__law_odd) (defBody s__law_odd) (defScope s__law_odd) [] [] f fd) : FnG K mg P w base 3 f fd ["pen", "good"] g__law_odd := by
  refine PP.FunD.okG F sc__law_odd rfl (b := b__law_odd) (fun cdv A outer s H E hr hgs => ?_)
  have tk : Takes (cxOf (L2.CX P w) P w K mg base ["pen", "good", "some", "top", "bottom"] "_law_odd" (defScope s__law_odd) f cdv A outer s H E) (fun cls d _ H => E cls d H) := takes_of rfl rfl rfl rfl
  have hp : PassesOwn (model P w) (A.deeper (envOfC "_law_odd" (defScope s__law_odd) s.heap.objs.size f cdv)) (envOfC "_law_odd" (defScope s__law_odd) s.heap.objs.size f cdv) (cxOf (L2.CX P w) P w K mg base ["pen", "good", "some", "top", "bottom"] "_law_odd" (defScope s__law_odd) f cdv A outer s H E).xe := passes_of (X := cxOf (L2.CX P w) P w K mg base ["pen", "good", "some", "top", "bottom"] "_law_odd" (defScope s__law_odd) f cdv A outer s H E) rfl
  have hu1 := u1 hr
  have hu64 := u64 hr
  have hu65 := u65 hr
  exact (pss_sSeq (ps_sTg (pe_evVar (i := 1) rfl (.inl rfl)) (pg_tgT rfl (pgs_tgCons (pg_tgN (i := 3) sc__law_odd.nd rfl (.inl rfl)) (pgs_tgCons (pg_tgN (i := 4) sc__law_odd.nd rfl (.inl rfl)) pgs_tgNil))))
  (pss_sSeq (ps_sSet (i := 2) sc__law_odd.nd rfl (.inl rfl) (pe_evLst (PA.cons' pe_evNon (PA.cons' (pe_evLst (PA.cons' (pe_evVar (i := 3) rfl (.inl rfl)) (PA.cons' (pe_evVar (i := 4) rfl (.inl rfl)) pa_evNil))) (PA.cons' (pe_evTup (PA.cons' (pe_evVar (i := 3) rfl (.inl rfl)) pa_evNil)) (PA.cons' (pe_evTup (PA.cons' (pe_evVar (i := 3) rfl (.inl rfl)) (PA.cons' (pe_evTup pa_evNil) pa_evNil))) (PA.cons' (pe_evTup (PA.cons' (pe_evVar (i := 3) rfl (.inl rfl)) (PA.cons' (pe_evVar (i := 4) rfl (.inl rfl)) (PA.cons' (pe_evVar (i := 4) rfl (.inl rfl)) pa_evNil)))) (PA.cons' pe_evInt (PA.cons' pe_evStr (PA.cons' (pe_evTup (PA.cons' pe_evNon (PA.cons' (pe_evVar (i := 4) rfl (.inl rfl)) pa_evNil))) (PA.cons' (pe_evTup (PA.cons' (pe_evVar (i := 3) rfl (.inl rfl)) (PA.cons' pe_evNon pa_evNil))) pa_evNil)))))))))))
  (pss_sSeq (ps_sSet (i := 2) sc__law_odd.nd rfl (.inl rfl) (pe_ev2 op_addD (pe_evVar (i := 2) rfl (.inl rfl)) (pe_evLst (PA.cons' (pe_evTup (PA.cons' (pe_evVar (i := 3) rfl (.inl rfl)) (PA.cons' (pe_ev2 op_addD (pe_evTup (PA.cons' (pe_evTup (PA.cons' (pe_ix2 (ix_subscD hu1) (pe_ix2 (ix_subscD hu1) (pe_evVar (i := 4) rfl (.inl rfl)) pe_evInt (fun _ _ => rfl)) pe_evInt (fun _ _ => rfl)) (PA.cons' (pe_ev1 un_negD (pe_ix2 (ix_subscD hu1) (pe_ix2 (ix_subscD hu1) (pe_evVar (i := 4) rfl (.inl rfl)) pe_evInt (fun _ _ => rfl)) pe_evInt (fun _ _ => rfl))) (PA.cons' (pe_ix2 (ix_subscD hu1) (pe_ix2 (ix_subscD hu1) (pe_evVar (i := 4) rfl (.inl rfl)) pe_evInt (fun _ _ => rfl)) pe_evInt (fun _ _ => rfl)) pa_evNil)))) pa_evNil)) (pe_evSl sl_sliceD (pe_evVar (i := 4) rfl (.inl rfl)) (po_ev1 pe_evInt) po_ev0)) pa_evNil))) (PA.cons' (pe_evTup (PA.cons' (pe_evVar (i := 3) rfl (.inl rfl)) (PA.cons' (pe_ev2 op_addD (pe_evVar (i := 4) rfl (.inl rfl)) (pe_evSl sl_sliceD (pe_evVar (i := 4) rfl (.inl rfl)) (po_ev1 (pe_ev1 un_negD pe_evInt)) po_ev0)) pa_evNil))) pa_evNil)))))
  (pss_sSeq (ps_sSet (i := 2) sc__law_odd.nd rfl (.inl rfl) (pe_ev2 op_addD (pe_evVar (i := 2) rfl (.inl rfl)) (pe_evLst (PA.cons' (pe_evTup (PA.cons' (pe_evVar (i := 3) rfl (.inl rfl)) (PA.cons' (pe_evTup (PA.cons' (pe_evTup (PA.cons' pe_evInt (PA.cons' pe_evInt (PA.cons' pe_evInt pa_evNil)))) pa_evNil)) pa_evNil))) (PA.cons' (pe_evTup (PA.cons' (pe_evTup (PA.cons' (pe_evTup (PA.cons' pe_evInt (PA.cons' pe_evInt (PA.cons' pe_evInt pa_evNil)))) pa_evNil)) (PA.cons' (pe_evVar (i := 4) rfl (.inl rfl)) pa_evNil))) (PA.cons' (pe_evTup (PA.cons' (pe_evVar (i := 3) rfl (.inl rfl)) (PA.cons' (pe_evTup (PA.cons' (pe_evTup (PA.cons' pe_evBl (PA.cons' pe_evInt (PA.cons' pe_evInt pa_evNil)))) pa_evNil)) pa_evNil))) (PA.cons' (pe_evTup (PA.cons' (pe_evVar (i := 3) rfl (.inl rfl)) (PA.cons' (pe_evTup (PA.cons' (pe_evTup (PA.cons' pe_evInt (PA.cons' pe_evInt (PA.cons' (pe_ev1 un_negD pe_evInt) pa_evNil)))) pa_evNil)) pa_evNil))) (PA.cons' (pe_evTup (PA.cons' (pe_evTup pa_evNil) (PA.cons' (pe_evTup pa_evNil) pa_evNil))) pa_evNil))))))))
  (pss_sOne (ps_sRet (pe_evCal C__law_pick (hr.mono (by decide)) hgs (by rfl) tk (PA.cons' (pe_evVar (i := 0) rfl (.inl rfl)) (PA.cons' (pe_ev2 op_addD (pe_evVar (i := 2) rfl (.inl rfl)) (pe_evLst (PA.cons' (pe_evTup (PA.cons' (pe_evBT (cr_listD rfl) (by rfl) T.list' (by decide +kernel) (PA.cons' (pe_evVar (i := 3) rfl (.inl rfl)) pa_evNil)) (PA.cons' (pe_evVar (i := 4) rfl (.inl rfl)) pa_evNil))) (PA.cons' (pe_evTup (PA.cons' (pe_evVar (i := 3) rfl (.inl rfl)) (PA.cons' (pe_evTup (PA.cons' (pe_evTup (PA.cons' pe_evInt (PA.cons' pe_evInt (PA.cons' pe_evInt pa_evNil)))) (PA.cons' (pe_evTup (PA.cons' pe_evInt (PA.cons' pe_evInt (PA.cons' pe_evInt pa_evNil)))) pa_evNil))) pa_evNil))) (PA.cons' (pe_evTup (PA.cons' (pe_evVar (i := 3) rfl (.inl rfl)) (PA.cons' (pe_evTup (PA.cons' (pe_evTup (PA.cons' (pe_ev1 un_negD pe_evInt) (PA.cons' pe_evInt (PA.cons' pe_evInt pa_evNil)))) pa_evNil)) pa_evNil))) pa_evNil))))) pa_evNil)) (len_cons (len_cons (fun _ _ _ _ h => len_nil h))))))))))
/-! ### _law_raised -/
abbrev s__law_raised : Stmt := topS 35
theorem sc__law_raised : FnScope ["way", "one", "two", "e"] ["way", "one", "two"] (defScope s__law_raised) := ⟨rfl, rfl, rfl, by decide +kernel, rfl, by decide +kernel, by decide +kernel⟩
def b__law_raised : Ss := (sSeq (sTry exT "BadWorth" 3
 (sSeq (sIf (evTB (ev2 eqX (evVar 0) (evC (.int 0))))
 (sExpr (evCall g_are_alike (evCons (evVar 1) (evCons (evVar 2) evNil))))
 sNext)
 (sSeq (sIf (evTB (ev2 eqX (evVar 0) (evC (.int 1))))
 (sExpr (evCall g_quotient_above (evCons (evVar 1) (evCons (evVar 2) evNil))))
 sNext)
 (sIf (evTB (ev2 eqX (evVar 0) (evC (.int 2))))
 (sExpr (evCall g_quotient_term (evCons (evVar 1) evNil)))
 sNext)))
 (fun fs => (ev2 addD (evC (.str "worth ")) (evL reprD (evCons (evFld fs "worth") evNil)))))
 (sRet (evC (.str "none"))))
def g__law_raised : Fn := runS 4 b__law_raised
theorem ok__law_raised (T : Txt mg) {A_BadWorth : Addr} (X_BadWorth : XC1 K mg P w base "BadWorth" "worth" A_BadWorth) (TE : TabOk K mg exT) (C_are_alike : Cal K mg P w base "are_alike" 8 ["one", "two"] g_are_alike) (C_quotient_above : Cal K mg P w base "quotient_above" 8 ["one", "two"] g_quotient_above) (C_quotient_term : Cal K mg P w base "quotient_term" 7 ["one"] g_quotient_term) {f : Addr} {fd : FuncData} (F : FunD K "_law_raised" "_law_raised" (defArgs s__law_raised) (defBody s__law_raised) (defScope s__law_raised) [] [] f fd) : FnG K mg P w base 9 f fd ["way", "one", "two"] g__law_raised := by
  refine PP.FunD.okG F sc__law_raised rfl (b := b__law_raised) (fun cdv A outer s H E hr hgs => ?_)
  have tk : Takes (cxOf (L2.CX P w) P w K mg base ["way", "one", "two", "e"] "_law_raised" (defScope s__law_raised) f cdv A outer s H E) (fun cls d _ H => E cls d H) := takes_of rfl rfl rfl rfl
  have hp : PassesOwn (model P w) (A.deeper (envOfC "_law_raised" (defScope s__law_raised) s.heap.objs.size f cdv)) (envOfC "_law_raised" (defScope s__law_raised) s.heap.objs.size f cdv) (cxOf (L2.CX P w) P w K mg base ["way", "one", "two", "e"] "_law_raised" (defScope s__law_raised) f cdv A outer s H E).xe := passes_of (X := cxOf (L2.CX P w) P w K mg base ["way", "one", "two", "e"] "_law_raised" (defScope s__law_raised) f cdv A outer s H E) rfl
  have hu1 := u1 hr
  have hu64 := u64 hr
  have hu65 := u65 hr
  exact (pss_sSeq (ps_sTry (i := 3) TE rfl rfl sc__law_raised.nd rfl rfl (by rfl) (by decide) X_BadWorth.gC tk (fun W pn xe tk hp => (pss_sSeq (ps_sIf (pt_cmp2 (op_eqX hu64) (pe_evVar (i := 0) rfl (.inl rfl)) pe_evInt (nomark _)) (pss_sOne (ps_sExpr (pe_evCal C_are_alike (hr.mono (by decide)) hgs (by rfl) tk (PA.cons' (pe_evVar (i := 1) rfl (.inl rfl)) (PA.cons' (pe_evVar (i := 2) rfl (.inl rfl)) pa_evNil)) (len_cons (len_cons (fun _ _ _ _ h => len_nil h)))))) pss_sNil)
  (pss_sSeq (ps_sIf (pt_cmp2 (op_eqX hu64) (pe_evVar (i := 0) rfl (.inl rfl)) pe_evInt (nomark _)) (pss_sOne (ps_sExpr (pe_evCal C_quotient_above (hr.mono (by decide)) hgs (by rfl) tk (PA.cons' (pe_evVar (i := 1) rfl (.inl rfl)) (PA.cons' (pe_evVar (i := 2) rfl (.inl rfl)) pa_evNil)) (len_cons (len_cons (fun _ _ _ _ h => len_nil h)))))) pss_sNil)
  (pss_sOne (ps_sIf (pt_cmp2 (op_eqX hu64) (pe_evVar (i := 0) rfl (.inl rfl)) pe_evInt (nomark _)) (pss_sOne (ps_sExpr (pe_evCal C_quotient_term (hr.mono (by decide)) hgs (by rfl) tk (PA.cons' (pe_evVar (i := 1) rfl (.inl rfl)) pa_evNil) (len_cons (fun _ _ _ _ h => len_nil h))))) pss_sNil))))) (fun a oe cls d pn hcc hz hf => (pe_hOp op_addD (pe_hC (v := .str "worth ") (fun _ _ => rfl) pe_str) (pe_hB (cr_reprD hgs hu64) (by rfl) T.repr' (by decide +kernel) (pa_hCons (pe_hFld "BadWorth" _ (cls_of hcc exT_BadWorth X_BadWorth.gC) X_BadWorth.xf X_BadWorth.no hz hf rfl (.inl rfl)) pa_hNil)))))
  (pss_sOne (ps_sRet pe_evStr)))
/-! ### law -/
abbrev s_law : Stmt := topS 42
theorem sc_law : FnScope ["script", "pen", "lap", "way", "great", "one", "two", "sign", "due", "turn", "by", "top", "first", "second", "odd", "other", "order"] ["script"] (defScope s_law) := ⟨rfl, rfl, rfl, by decide +kernel, rfl, by decide +kernel, by decide +kernel⟩
def b_law : Ss := (sSeq (sSet 1 (evCall g__law_pen (evCons (evVar 0) evNil)))
 (sSeq (sFor (evRg1 (evCons (evC (.int 4)) evNil)) (tgN 2)
 (sSeq (sSet 3 (evCall g__law_draw (evCons (evVar 1) (evCons (evC (.int 3)) evNil))))
 (sSeq (sSet 4 (evIf (evTB (ev2 ltD (evVar 3) (evC (.int 2)))) (evC (.int 30)) (ev2 subD (ev2 powD (evC (.int 10)) (evC (.int 9))) (evC (.int 1)))))
 (sSeq (sSet 5 (evL mkTup (evCons (evCall g__law_some (evCons (evVar 1) (evCons (evC (.int 0)) (evCons (evC (.int 7)) (evCons (evVar 4) evNil))))) (evCons (evCall g__law_above_nought (evCons (evCall g__law_some (evCons (evVar 1) (evCons (evC (.int 1)) (evCons (evC (.int 6)) (evCons (evVar 4) evNil))))) evNil)) evNil))))
 (sSeq (sSet 6 (evL mkTup (evCons (evCall g__law_some (evCons (evVar 1) (evCons (evC (.int 0)) (evCons (evC (.int 7)) (evCons (evVar 4) evNil))))) (evCons (evCall g__law_above_nought (evCons (evCall g__law_some (evCons (evVar 1) (evCons (evC (.int 1)) (evCons (evC (.int 6)) (evCons (evVar 4) evNil))))) evNil)) evNil))))
 (sSeq (sIf (evTB (ev2 eqX (evVar 3) (evC (.int 0))))
 (sSeq (sSet 10 (evCall g__law_above_nought (evCons (evCall g__law_some (evCons (evVar 1) (evCons (evC (.int 1)) (evCons (evC (.int 3)) (evCons (evC (.int 3)) evNil))))) evNil)))
 (sSet 6 (evL mkTup (evCons (evCall g__law_product (evCons (ev2 subscD (evVar 5) (evC (.int 0))) (evCons (evVar 10) evNil))) (evCons (evCall g__law_product (evCons (ev2 subscD (evVar 5) (evC (.int 1))) (evCons (evVar 10) evNil))) evNil)))))
 sNext)
 (sSeq (sIf (tand (evTB (ev2 eqX (evVar 3) (evC (.int 1)))) (evTB (ev2 neX (ev2 subscD (evVar 5) (evC (.int 0))) mkDct)))
 (sSeq (sPar 10 16 (evCons (evCall g__law_above_nought (evCons (evCall g__law_some (evCons (evVar 1) (evCons (evC (.int 1)) (evCons (evC (.int 3)) (evCons (evC (.int 3)) evNil))))) evNil)) (evCons (evCall g__law_pick (evCons (evVar 1) (evCons (evL sortedD (evCons (ev2 subscD (evVar 5) (evC (.int 0))) evNil)) evNil))) evNil)))
 (sSeq (sSet 11 (evL dictD (evCons (ev2 subscD (evVar 5) (evC (.int 0))) evNil)))
 (sSeq (sSub putD (evVar 11) (evVar 16) (evCall g__law_add (evCons (ev2 subscD (evVar 11) (evVar 16)) (evCons (evL mkTup (evCons (evCall g__law_pick (evCons (evVar 1) (evCons (evL mkLst (evCons (evC (.int 1)) (evCons (ev1 negD (evC (.int 1))) evNil))) evNil))) (evCons (ev2 powD (evC (.int 10)) (evC (.int 4))) evNil))) evNil))))
 (sSet 6 (evL mkTup (evCons (evCall g__law_product (evCons (evVar 11) (evCons (evVar 10) evNil))) (evCons (evCall g__law_product (evCons (ev2 subscD (evVar 5) (evC (.int 1))) (evCons (evVar 10) evNil))) evNil)))))))
 sNext)
 (sSeq (sPar 12 13 (evCons (evL mkTup (evCons (evCall g__law_as (evCons (ev2 subscD (evVar 5) (evC (.int 0))) evNil)) (evCons (evCall g__law_as (evCons (ev2 subscD (evVar 5) (evC (.int 1))) evNil)) evNil))) (evCons (evL mkTup (evCons (evCall g__law_as (evCons (ev2 subscD (evVar 6) (evC (.int 0))) evNil)) (evCons (evCall g__law_as (evCons (ev2 subscD (evVar 6) (evC (.int 1))) evNil)) evNil))) evNil)))
 (sSeq (sSet 7 (evCall g__law_sign (evCons (evVar 5) (evCons (evVar 6) evNil))))
 (sSeq (sIf (tor (tnot (evT (evCall g__law_is (evCons (evCall g_is_quotient (evCons (evVar 12) evNil)) (evCons (evC (.bl true)) evNil))))) (tnot (evT (evCall g__law_is (evCons (evCall g_are_alike (evCons (evVar 12) (evCons (evVar 13) evNil))) (evCons (ev2 eqX (evVar 7) (evC (.int 0))) evNil))))))
 (sRet (evC (.bl false)))
 sNext)
 (sSeq (sIf (tnot (evT (evCall g__law_is (evCons (evCall g_quotient_above (evCons (evVar 12) (evCons (evVar 13) evNil))) (evCons (ev2 eqX (evVar 7) (evC (.int 1))) evNil)))))
 (sRet (evC (.bl false)))
 sNext)
 (sSeq (sIf (tnot (evT (evCall g__law_is (evCons (evCall g_quotient_above (evCons (evVar 13) (evCons (evVar 12) evNil))) (evCons (ev2 eqX (evVar 7) (ev1 negD (evC (.int 1)))) evNil)))))
 (sRet (evC (.bl false)))
 sNext)
 (sSeq (sSet 8 (evC .non))
 (sSeq (sIf (evTB (ev2 neX (ev2 subscD (evVar 12) (evC (.int 0))) (evL mkTup evNil)))
 (sSet 8 (ev2 addD (evL mkTup (evCons (ev2 subD (ev2 subscD (ev2 subscD (ev2 subscD (evVar 12) (evC (.int 0))) (evC (.int 0))) (evC (.int 0))) (ev2 subscD (ev2 subscD (ev2 subscD (evVar 12) (evC (.int 1))) (evC (.int 0))) (evC (.int 0)))) evNil)) (evCall g__law_over (evCons (evSl sliceD (ev2 subscD (ev2 subscD (evVar 12) (evC (.int 0))) (evC (.int 0))) (some (evC (.int 1))) none) (evCons (evSl sliceD (ev2 subscD (ev2 subscD (evVar 12) (evC (.int 1))) (evC (.int 0))) (some (evC (.int 1))) none) evNil)))))
 sNext)
 (sSeq (sIf (evTB (ev2 neX (evL reprD (evCons (evCall g_quotient_term (evCons (evVar 12) evNil)) evNil)) (evL reprD (evCons (evVar 8) evNil))))
 (sRet (evC (.bl false)))
 sNext)
 (sSeq (sPar 14 15 (evCons (evCall g__law_odd (evCons (evVar 1) (evCons (evVar 12) evNil))) (evCons (evCall g__law_odd (evCons (evVar 1) (evCons (evVar 13) evNil))) evNil)))
 (sSeq (sIf (tnot (evT (evCall g__law_is (evCons (evCall g_is_quotient (evCons (evVar 14) evNil)) (evCons (evC (.bl false)) evNil)))))
 (sRet (evC (.bl false)))
 sNext)
 (sSeq (sFor (evSrc (evL mkLst (evCons (evC (.int 0)) (evCons (evC (.int 1)) evNil)))) (tgN 9)
 (sSeq (sIf (evTB (ev2 neX (evCall g__law_raised (evCons (evVar 9) (evCons (evVar 14) (evCons (evVar 15) evNil)))) (ev2 addD (evC (.str "worth ")) (evL reprD (evCons (evVar 14) evNil)))))
 (sRet (evC (.bl false)))
 sNext)
 (sIf (evTB (ev2 neX (evCall g__law_raised (evCons (evVar 9) (evCons (evVar 12) (evCons (evVar 15) evNil)))) (ev2 addD (evC (.str "worth ")) (evL reprD (evCons (evVar 15) evNil)))))
 (sRet (evC (.bl false)))
 sNext)))
 (sIf (evTB (ev2 neX (evCall g__law_raised (evCons (evC (.int 2)) (evCons (evVar 14) (evCons (evC .non) evNil)))) (ev2 addD (evC (.str "worth ")) (evL reprD (evCons (evVar 14) evNil)))))
 (sRet (evC (.bl false)))
 sNext)))))))))))))))))))
 (sRet (evC (.bl true)))))
def g_law : Fn := runS 17 b_law
theorem ok_law (T : Txt mg) (C__law_pen : Cal K mg P w base "_law_pen" 1 ["script"] g__law_pen) (C__law_draw : Cal K mg P w base "_law_draw" 1 ["pen", "many"] g__law_draw) (C__law_above_nought : Cal K mg P w base "_law_above_nought" 1 ["known"] g__law_above_nought) (C__law_some : Cal K mg P w base "_law_some" 3 ["pen", "least", "many", "great"] g__law_some) (C__law_product : Cal K mg P w base "_law_product" 4 ["one", "two"] g__law_product) (C__law_pick : Cal K mg P w base "_law_pick" 2 ["pen", "some"] g__law_pick) (C__law_add : Cal K mg P w base "_law_add" 3 ["one", "two"] g__law_add) (C__law_as : Cal K mg P w base "_law_as" 1 ["known"] g__law_as) (C__law_sign : Cal K mg P w base "_law_sign" 5 ["one", "two"] g__law_sign) (C__law_is : Cal K mg P w base "_law_is" 1 ["told", "due"] g__law_is) (C_is_quotient : Cal K mg P w base "is_quotient" 5 ["value"] g_is_quotient) (C_are_alike : Cal K mg P w base "are_alike" 8 ["one", "two"] g_are_alike) (C_quotient_above : Cal K mg P w base "quotient_above" 8 ["one", "two"] g_quotient_above) (C__law_over : Cal K mg P w base "_law_over" 3 ["one", "two"] g__law_over) (C_quotient_term : Cal K mg P w base "quotient_term" 7 ["one"] g_quotient_term) (C__law_odd : Cal K mg P w base "_law_odd" 3 ["pen", "good"] g__law_odd) (C__law_raised : Cal K mg P w base "_law_raised" 9 ["way", "one", "two"] g__law_raised) {f : Addr} {fd : FuncData} (F : FunD K "law" "law" (defArgs s_law) (defBody s_law) (defScope s_law) [] [] f fd) : FnG K mg P w base 10 f fd ["script"] g_law := by
  refine PP.FunD.okG F sc_law rfl (b := b_law) (fun cdv A outer s H E hr hgs => ?_)
  have tk : Takes (cxOf (L2.CX P w) P w K mg base ["script", "pen", "lap", "way", "great", "one", "two", "sign", "due", "turn", "by", "top", "first", "second", "odd", "other", "order"] "law" (defScope s_law) f cdv A outer s H E) (fun cls d _ H => E cls d H) := takes_of rfl rfl rfl rfl
  have hp : PassesOwn (model P w) (A.deeper (envOfC "law" (defScope s_law) s.heap.objs.size f cdv)) (envOfC "law" (defScope s_law) s.heap.objs.size f cdv) (cxOf (L2.CX P w) P w K mg base ["script", "pen", "lap", "way", "great", "one", "two", "sign", "due", "turn", "by", "top", "first", "second", "odd", "other", "order"] "law" (defScope s_law) f cdv A outer s H E).xe := passes_of (X := cxOf (L2.CX P w) P w K mg base ["script", "pen", "lap", "way", "great", "one", "two", "sign", "due", "turn", "by", "top", "first", "second", "odd", "other", "order"] "law" (defScope s_law) f cdv A outer s H E) rfl
  have hu1 := u1 hr
  have hu64 := u64 hr
  have hu65 := u65 hr
  exact (pss_sSeq (ps_sSet (i := 1) sc_law.nd rfl (.inl rfl) (pe_evCal C__law_pen (hr.mono (by decide)) hgs (by rfl) tk (PA.cons' (pe_evVar (i := 0) rfl (.inl rfl)) pa_evNil) (len_cons (fun _ _ _ _ h => len_nil h))))
  (pss_sSeq (ps_sFor (sl := [2]) hp rfl (pi_rg1 (by rfl) T.range' (PA.cons' pe_evInt pa_evNil)) (pg_tgN (i := 2) sc_law.nd rfl (.inl rfl)) (pss_sSeq (ps_sSet (i := 3) sc_law.nd rfl (.inl rfl) (pe_evCal C__law_draw (hr.mono (by decide)) hgs (by rfl) tk (PA.cons' (pe_evVar (i := 1) rfl (.inl rfl)) (PA.cons' pe_evInt pa_evNil)) (len_cons (len_cons (fun _ _ _ _ h => len_nil h)))))
  (pss_sSeq (ps_sSet (i := 4) sc_law.nd rfl (.inl rfl) (pe_evIf (pt_cmp2 (op_ltDd hu64) (pe_evVar (i := 3) rfl (.inl rfl)) pe_evInt (nomark _)) pe_evInt (pe_ev2 op_subD (pe_ev2 op_powD pe_evInt pe_evInt) pe_evInt)))
  (pss_sSeq (ps_sSet (i := 5) sc_law.nd rfl (.inl rfl) (pe_evTup (PA.cons' (pe_evCal C__law_some (hr.mono (by decide)) hgs (by rfl) tk (PA.cons' (pe_evVar (i := 1) rfl (.inl rfl)) (PA.cons' pe_evInt (PA.cons' pe_evInt (PA.cons' (pe_evVar (i := 4) rfl (.inl rfl)) pa_evNil)))) (len_cons (len_cons (len_cons (len_cons (fun _ _ _ _ h => len_nil h)))))) (PA.cons' (pe_evCal C__law_above_nought (hr.mono (by decide)) hgs (by rfl) tk (PA.cons' (pe_evCal C__law_some (hr.mono (by decide)) hgs (by rfl) tk (PA.cons' (pe_evVar (i := 1) rfl (.inl rfl)) (PA.cons' pe_evInt (PA.cons' pe_evInt (PA.cons' (pe_evVar (i := 4) rfl (.inl rfl)) pa_evNil)))) (len_cons (len_cons (len_cons (len_cons (fun _ _ _ _ h => len_nil h)))))) pa_evNil) (len_cons (fun _ _ _ _ h => len_nil h))) pa_evNil))))
  (pss_sSeq (ps_sSet (i := 6) sc_law.nd rfl (.inl rfl) (pe_evTup (PA.cons' (pe_evCal C__law_some (hr.mono (by decide)) hgs (by rfl) tk (PA.cons' (pe_evVar (i := 1) rfl (.inl rfl)) (PA.cons' pe_evInt (PA.cons' pe_evInt (PA.cons' (pe_evVar (i := 4) rfl (.inl rfl)) pa_evNil)))) (len_cons (len_cons (len_cons (len_cons (fun _ _ _ _ h => len_nil h)))))) (PA.cons' (pe_evCal C__law_above_nought (hr.mono (by decide)) hgs (by rfl) tk (PA.cons' (pe_evCal C__law_some (hr.mono (by decide)) hgs (by rfl) tk (PA.cons' (pe_evVar (i := 1) rfl (.inl rfl)) (PA.cons' pe_evInt (PA.cons' pe_evInt (PA.cons' (pe_evVar (i := 4) rfl (.inl rfl)) pa_evNil)))) (len_cons (len_cons (len_cons (len_cons (fun _ _ _ _ h => len_nil h)))))) pa_evNil) (len_cons (fun _ _ _ _ h => len_nil h))) pa_evNil))))
  (pss_sSeq (ps_sIf (pt_cmp2 (op_eqX hu64) (pe_evVar (i := 3) rfl (.inl rfl)) pe_evInt (nomark _)) (pss_sSeq (ps_sSet (i := 10) sc_law.nd rfl (.inl rfl) (pe_evCal C__law_above_nought (hr.mono (by decide)) hgs (by rfl) tk (PA.cons' (pe_evCal C__law_some (hr.mono (by decide)) hgs (by rfl) tk (PA.cons' (pe_evVar (i := 1) rfl (.inl rfl)) (PA.cons' pe_evInt (PA.cons' pe_evInt (PA.cons' pe_evInt pa_evNil)))) (len_cons (len_cons (len_cons (len_cons (fun _ _ _ _ h => len_nil h)))))) pa_evNil) (len_cons (fun _ _ _ _ h => len_nil h))))
  (pss_sOne (ps_sSet (i := 6) sc_law.nd rfl (.inl rfl) (pe_evTup (PA.cons' (pe_evCal C__law_product (hr.mono (by decide)) hgs (by rfl) tk (PA.cons' (pe_ix2 (ix_subscD hu1) (pe_evVar (i := 5) rfl (.inl rfl)) pe_evInt (fun _ _ => rfl)) (PA.cons' (pe_evVar (i := 10) rfl (.inl rfl)) pa_evNil)) (len_cons (len_cons (fun _ _ _ _ h => len_nil h)))) (PA.cons' (pe_evCal C__law_product (hr.mono (by decide)) hgs (by rfl) tk (PA.cons' (pe_ix2 (ix_subscD hu1) (pe_evVar (i := 5) rfl (.inl rfl)) pe_evInt (fun _ _ => rfl)) (PA.cons' (pe_evVar (i := 10) rfl (.inl rfl)) pa_evNil)) (len_cons (len_cons (fun _ _ _ _ h => len_nil h)))) pa_evNil)))))) pss_sNil)
  (pss_sSeq (ps_sIf (PW.pt (pw_tand (pt_cmp2 (op_eqX hu64) (pe_evVar (i := 3) rfl (.inl rfl)) pe_evInt (nomark _)) (pw_and1 (pt_cmp2 (op_neX hu64) (pe_ix2 (ix_subscD hu1) (pe_evVar (i := 5) rfl (.inl rfl)) pe_evInt (fun _ _ => rfl)) pe_evDct (nomark _))))) (pss_sSeq (ps_sPar (i := 10) (j := 16) rfl sc_law.nd rfl rfl (by decide) rfl rfl (PA.cons' (pe_evCal C__law_above_nought (hr.mono (by decide)) hgs (by rfl) tk (PA.cons' (pe_evCal C__law_some (hr.mono (by decide)) hgs (by rfl) tk (PA.cons' (pe_evVar (i := 1) rfl (.inl rfl)) (PA.cons' pe_evInt (PA.cons' pe_evInt (PA.cons' pe_evInt pa_evNil)))) (len_cons (len_cons (len_cons (len_cons (fun _ _ _ _ h => len_nil h)))))) pa_evNil) (len_cons (fun _ _ _ _ h => len_nil h))) (PA.cons' (pe_evCal C__law_pick (hr.mono (by decide)) hgs (by rfl) tk (PA.cons' (pe_evVar (i := 1) rfl (.inl rfl)) (PA.cons' (pe_evB (cr_sortedD rfl hu64) (by rfl) T.sorted' (by decide +kernel) (PA.cons' (pe_ix2 (ix_subscD hu1) (pe_evVar (i := 5) rfl (.inl rfl)) pe_evInt (fun _ _ => rfl)) pa_evNil)) pa_evNil)) (len_cons (len_cons (fun _ _ _ _ h => len_nil h)))) pa_evNil)) (by rfl))
  (pss_sSeq (ps_sSet (i := 11) sc_law.nd rfl (.inl rfl) (pe_evBT (cr_dictD rfl) (by rfl) T.dict' (by decide +kernel) (PA.cons' (pe_ix2 (ix_subscD hu1) (pe_evVar (i := 5) rfl (.inl rfl)) pe_evInt (fun _ _ => rfl)) pa_evNil)))
  (pss_sSeq (ps_sSub (set_putD hu1) (pe_evVar (i := 11) rfl (.inl rfl)) (pe_evVar (i := 16) rfl (.inl rfl)) (pe_evCal C__law_add (hr.mono (by decide)) hgs (by rfl) tk (PA.cons' (pe_ix2 (ix_subscD hu1) (pe_evVar (i := 11) rfl (.inl rfl)) (pe_evVar (i := 16) rfl (.inl rfl)) (fun _ _ => rfl)) (PA.cons' (pe_evTup (PA.cons' (pe_evCal C__law_pick (hr.mono (by decide)) hgs (by rfl) tk (PA.cons' (pe_evVar (i := 1) rfl (.inl rfl)) (PA.cons' (pe_evLst (PA.cons' pe_evInt (PA.cons' (pe_ev1 un_negD pe_evInt) pa_evNil))) pa_evNil)) (len_cons (len_cons (fun _ _ _ _ h => len_nil h)))) (PA.cons' (pe_ev2 op_powD pe_evInt pe_evInt) pa_evNil))) pa_evNil)) (len_cons (len_cons (fun _ _ _ _ h => len_nil h)))))
  (pss_sOne (ps_sSet (i := 6) sc_law.nd rfl (.inl rfl) (pe_evTup (PA.cons' (pe_evCal C__law_product (hr.mono (by decide)) hgs (by rfl) tk (PA.cons' (pe_evVar (i := 11) rfl (.inl rfl)) (PA.cons' (pe_evVar (i := 10) rfl (.inl rfl)) pa_evNil)) (len_cons (len_cons (fun _ _ _ _ h => len_nil h)))) (PA.cons' (pe_evCal C__law_product (hr.mono (by decide)) hgs (by rfl) tk (PA.cons' (pe_ix2 (ix_subscD hu1) (pe_evVar (i := 5) rfl (.inl rfl)) pe_evInt (fun _ _ => rfl)) (PA.cons' (pe_evVar (i := 10) rfl (.inl rfl)) pa_evNil)) (len_cons (len_cons (fun _ _ _ _ h => len_nil h)))) pa_evNil)))))))) pss_sNil)
  (pss_sSeq (ps_sPar (i := 12) (j := 13) rfl sc_law.nd rfl rfl (by decide) rfl rfl (PA.cons' (pe_evTup (PA.cons' (pe_evCal C__law_as (hr.mono (by decide)) hgs (by rfl) tk (PA.cons' (pe_ix2 (ix_subscD hu1) (pe_evVar (i := 5) rfl (.inl rfl)) pe_evInt (fun _ _ => rfl)) pa_evNil) (len_cons (fun _ _ _ _ h => len_nil h))) (PA.cons' (pe_evCal C__law_as (hr.mono (by decide)) hgs (by rfl) tk (PA.cons' (pe_ix2 (ix_subscD hu1) (pe_evVar (i := 5) rfl (.inl rfl)) pe_evInt (fun _ _ => rfl)) pa_evNil) (len_cons (fun _ _ _ _ h => len_nil h))) pa_evNil))) (PA.cons' (pe_evTup (PA.cons' (pe_evCal C__law_as (hr.mono (by decide)) hgs (by rfl) tk (PA.cons' (pe_ix2 (ix_subscD hu1) (pe_evVar (i := 6) rfl (.inl rfl)) pe_evInt (fun _ _ => rfl)) pa_evNil) (len_cons (fun _ _ _ _ h => len_nil h))) (PA.cons' (pe_evCal C__law_as (hr.mono (by decide)) hgs (by rfl) tk (PA.cons' (pe_ix2 (ix_subscD hu1) (pe_evVar (i := 6) rfl (.inl rfl)) pe_evInt (fun _ _ => rfl)) pa_evNil) (len_cons (fun _ _ _ _ h => len_nil h))) pa_evNil))) pa_evNil)) (by rfl))
  (pss_sSeq (ps_sSet (i := 7) sc_law.nd rfl (.inl rfl) (pe_evCal C__law_sign (hr.mono (by decide)) hgs (by rfl) tk (PA.cons' (pe_evVar (i := 5) rfl (.inl rfl)) (PA.cons' (pe_evVar (i := 6) rfl (.inl rfl)) pa_evNil)) (len_cons (len_cons (fun _ _ _ _ h => len_nil h)))))
  (pss_sSeq (ps_sIf (PW.pt (pw_tor (pt_tnot (pt_ev (pe_evCal C__law_is (hr.mono (by decide)) hgs (by rfl) tk (PA.cons' (pe_evCal C_is_quotient (hr.mono (by decide)) hgs (by rfl) tk (PA.cons' (pe_evVar (i := 12) rfl (.inl rfl)) pa_evNil) (len_cons (fun _ _ _ _ h => len_nil h))) (PA.cons' pe_evBl pa_evNil)) (len_cons (len_cons (fun _ _ _ _ h => len_nil h)))) (fun _ => rfl))) (pw_or1 (pt_tnot (pt_ev (pe_evCal C__law_is (hr.mono (by decide)) hgs (by rfl) tk (PA.cons' (pe_evCal C_are_alike (hr.mono (by decide)) hgs (by rfl) tk (PA.cons' (pe_evVar (i := 12) rfl (.inl rfl)) (PA.cons' (pe_evVar (i := 13) rfl (.inl rfl)) pa_evNil)) (len_cons (len_cons (fun _ _ _ _ h => len_nil h)))) (PA.cons' (pe_cmp2 (op_eqX hu64) (pe_evVar (i := 7) rfl (.inl rfl)) pe_evInt (nomark _)) pa_evNil)) (len_cons (len_cons (fun _ _ _ _ h => len_nil h)))) (fun _ => rfl)))))) (pss_sOne (ps_sRet pe_evBl)) pss_sNil)
  (pss_sSeq (ps_sIf (pt_tnot (pt_ev (pe_evCal C__law_is (hr.mono (by decide)) hgs (by rfl) tk (PA.cons' (pe_evCal C_quotient_above (hr.mono (by decide)) hgs (by rfl) tk (PA.cons' (pe_evVar (i := 12) rfl (.inl rfl)) (PA.cons' (pe_evVar (i := 13) rfl (.inl rfl)) pa_evNil)) (len_cons (len_cons (fun _ _ _ _ h => len_nil h)))) (PA.cons' (pe_cmp2 (op_eqX hu64) (pe_evVar (i := 7) rfl (.inl rfl)) pe_evInt (nomark _)) pa_evNil)) (len_cons (len_cons (fun _ _ _ _ h => len_nil h)))) (fun _ => rfl))) (pss_sOne (ps_sRet pe_evBl)) pss_sNil)
  (pss_sSeq (ps_sIf (pt_tnot (pt_ev (pe_evCal C__law_is (hr.mono (by decide)) hgs (by rfl) tk (PA.cons' (pe_evCal C_quotient_above (hr.mono (by decide)) hgs (by rfl) tk (PA.cons' (pe_evVar (i := 13) rfl (.inl rfl)) (PA.cons' (pe_evVar (i := 12) rfl (.inl rfl)) pa_evNil)) (len_cons (len_cons (fun _ _ _ _ h => len_nil h)))) (PA.cons' (pe_cmp2 (op_eqX hu64) (pe_evVar (i := 7) rfl (.inl rfl)) (pe_ev1 un_negD pe_evInt) (nomark _)) pa_evNil)) (len_cons (len_cons (fun _ _ _ _ h => len_nil h)))) (fun _ => rfl))) (pss_sOne (ps_sRet pe_evBl)) pss_sNil)
  (pss_sSeq (ps_sSet (i := 8) sc_law.nd rfl (.inl rfl) pe_evNon)
  (pss_sSeq (ps_sIf (pt_cmp2 (op_neX hu64) (pe_ix2 (ix_subscD hu1) (pe_evVar (i := 12) rfl (.inl rfl)) pe_evInt (fun _ _ => rfl)) (pe_evTup pa_evNil) (nomark _)) (pss_sOne (ps_sSet (i := 8) sc_law.nd rfl (.inl rfl) (pe_ev2 op_addD (pe_evTup (PA.cons' (pe_ev2 op_subD (pe_ix2 (ix_subscD hu1) (pe_ix2 (ix_subscD hu1) (pe_ix2 (ix_subscD hu1) (pe_evVar (i := 12) rfl (.inl rfl)) pe_evInt (fun _ _ => rfl)) pe_evInt (fun _ _ => rfl)) pe_evInt (fun _ _ => rfl)) (pe_ix2 (ix_subscD hu1) (pe_ix2 (ix_subscD hu1) (pe_ix2 (ix_subscD hu1) (pe_evVar (i := 12) rfl (.inl rfl)) pe_evInt (fun _ _ => rfl)) pe_evInt (fun _ _ => rfl)) pe_evInt (fun _ _ => rfl))) pa_evNil)) (pe_evCal C__law_over (hr.mono (by decide)) hgs (by rfl) tk (PA.cons' (pe_evSl sl_sliceD (pe_ix2 (ix_subscD hu1) (pe_ix2 (ix_subscD hu1) (pe_evVar (i := 12) rfl (.inl rfl)) pe_evInt (fun _ _ => rfl)) pe_evInt (fun _ _ => rfl)) (po_ev1 pe_evInt) po_ev0) (PA.cons' (pe_evSl sl_sliceD (pe_ix2 (ix_subscD hu1) (pe_ix2 (ix_subscD hu1) (pe_evVar (i := 12) rfl (.inl rfl)) pe_evInt (fun _ _ => rfl)) pe_evInt (fun _ _ => rfl)) (po_ev1 pe_evInt) po_ev0) pa_evNil)) (len_cons (len_cons (fun _ _ _ _ h => len_nil h))))))) pss_sNil)
  (pss_sSeq (ps_sIf (pt_cmp2 (op_neX hu64) (pe_evB (cr_reprD hgs hu64) (by rfl) T.repr' (by decide +kernel) (PA.cons' (pe_evCal C_quotient_term (hr.mono (by decide)) hgs (by rfl) tk (PA.cons' (pe_evVar (i := 12) rfl (.inl rfl)) pa_evNil) (len_cons (fun _ _ _ _ h => len_nil h))) pa_evNil)) (pe_evB (cr_reprD hgs hu64) (by rfl) T.repr' (by decide +kernel) (PA.cons' (pe_evVar (i := 8) rfl (.inl rfl)) pa_evNil)) (nomark _)) (pss_sOne (ps_sRet pe_evBl)) pss_sNil)
  (pss_sSeq (ps_sPar (i := 14) (j := 15) rfl sc_law.nd rfl rfl (by decide) rfl rfl (PA.cons' (pe_evCal C__law_odd (hr.mono (by decide)) hgs (by rfl) tk (PA.cons' (pe_evVar (i := 1) rfl (.inl rfl)) (PA.cons' (pe_evVar (i := 12) rfl (.inl rfl)) pa_evNil)) (len_cons (len_cons (fun _ _ _ _ h => len_nil h)))) (PA.cons' (pe_evCal C__law_odd (hr.mono (by decide)) hgs (by rfl) tk (PA.cons' (pe_evVar (i := 1) rfl (.inl rfl)) (PA.cons' (pe_evVar (i := 13) rfl (.inl rfl)) pa_evNil)) (len_cons (len_cons (fun _ _ _ _ h => len_nil h)))) pa_evNil)) (by rfl))
  (pss_sSeq (ps_sIf (pt_tnot (pt_ev (pe_evCal C__law_is (hr.mono (by decide)) hgs (by rfl) tk (PA.cons' (pe_evCal C_is_quotient (hr.mono (by decide)) hgs (by rfl) tk (PA.cons' (pe_evVar (i := 14) rfl (.inl rfl)) pa_evNil) (len_cons (fun _ _ _ _ h => len_nil h))) (PA.cons' pe_evBl pa_evNil)) (len_cons (len_cons (fun _ _ _ _ h => len_nil h)))) (fun _ => rfl))) (pss_sOne (ps_sRet pe_evBl)) pss_sNil)
  (pss_sSeq (ps_sFor (sl := [9]) hp rfl (pi_src (pe_evLst (PA.cons' pe_evInt (PA.cons' pe_evInt pa_evNil)))) (pg_tgN (i := 9) sc_law.nd rfl (.inl rfl)) (pss_sSeq (ps_sIf (pt_cmp2 (op_neX hu64) (pe_evCal C__law_raised (hr.mono (by decide)) hgs (by rfl) tk (PA.cons' (pe_evVar (i := 9) rfl (.inl rfl)) (PA.cons' (pe_evVar (i := 14) rfl (.inl rfl)) (PA.cons' (pe_evVar (i := 15) rfl (.inl rfl)) pa_evNil))) (len_cons (len_cons (len_cons (fun _ _ _ _ h => len_nil h))))) (pe_ev2 op_addD pe_evStr (pe_evB (cr_reprD hgs hu64) (by rfl) T.repr' (by decide +kernel) (PA.cons' (pe_evVar (i := 14) rfl (.inl rfl)) pa_evNil))) (nomark _)) (pss_sOne (ps_sRet pe_evBl)) pss_sNil)
  (pss_sOne (ps_sIf (pt_cmp2 (op_neX hu64) (pe_evCal C__law_raised (hr.mono (by decide)) hgs (by rfl) tk (PA.cons' (pe_evVar (i := 9) rfl (.inl rfl)) (PA.cons' (pe_evVar (i := 12) rfl (.inl rfl)) (PA.cons' (pe_evVar (i := 15) rfl (.inl rfl)) pa_evNil))) (len_cons (len_cons (len_cons (fun _ _ _ _ h => len_nil h))))) (pe_ev2 op_addD pe_evStr (pe_evB (cr_reprD hgs hu64) (by rfl) T.repr' (by decide +kernel) (PA.cons' (pe_evVar (i := 15) rfl (.inl rfl)) pa_evNil))) (nomark _)) (pss_sOne (ps_sRet pe_evBl)) pss_sNil))))
  (pss_sOne (ps_sIf (pt_cmp2 (op_neX hu64) (pe_evCal C__law_raised (hr.mono (by decide)) hgs (by rfl) tk (PA.cons' pe_evInt (PA.cons' (pe_evVar (i := 14) rfl (.inl rfl)) (PA.cons' pe_evNon pa_evNil))) (len_cons (len_cons (len_cons (fun _ _ _ _ h => len_nil h))))) (pe_ev2 op_addD pe_evStr (pe_evB (cr_reprD hgs hu64) (by rfl) T.repr' (by decide +kernel) (PA.cons' (pe_evVar (i := 14) rfl (.inl rfl)) pa_evNil))) (nomark _)) (pss_sOne (ps_sRet pe_evBl)) pss_sNil))))))))))))))))))))
  (pss_sOne (ps_sRet pe_evBl))))
end
end G24
set_option Elab.async false
set_option linter.all false
set_option maxRecDepth 100000
set_option maxHeartbeats 0
/-! the head of raresteps_k24_quotients: what the top leaves; the law's def -/
namespace HG24
open PySem PySem.Spec PyProof.Rows L2 He PP G24
def dd__law_pen : DefD := ⟨("_law_pen", none), "_law_pen", "_law_pen", defArgs s__law_pen, defBody s__law_pen, defScope s__law_pen, [], []⟩
def dd__law_draw : DefD := ⟨("_law_draw", none), "_law_draw", "_law_draw", defArgs s__law_draw, defBody s__law_draw, defScope s__law_draw, [], []⟩
def dd__law_above_nought : DefD := ⟨("_law_above_nought", none), "_law_above_nought", "_law_above_nought", defArgs s__law_above_nought, defBody s__law_above_nought, defScope s__law_above_nought, [], []⟩
def dd__law_pick : DefD := ⟨("_law_pick", none), "_law_pick", "_law_pick", defArgs s__law_pick, defBody s__law_pick, defScope s__law_pick, [], []⟩
def dd__law_gcd : DefD := ⟨("_law_gcd", none), "_law_gcd", "_law_gcd", defArgs s__law_gcd, defBody s__law_gcd, defScope s__law_gcd, [], []⟩
def dd__law_part : DefD := ⟨("_law_part", none), "_law_part", "_law_part", defArgs s__law_part, defBody s__law_part, defScope s__law_part, [], []⟩
def dd__law_some : DefD := ⟨("_law_some", none), "_law_some", "_law_some", defArgs s__law_some, defBody s__law_some, defScope s__law_some, [], []⟩
def dd__law_add : DefD := ⟨("_law_add", none), "_law_add", "_law_add", defArgs s__law_add, defBody s__law_add, defScope s__law_add, [], []⟩
def dd__law_by : DefD := ⟨("_law_by", none), "_law_by", "_law_by", defArgs s__law_by, defBody s__law_by, defScope s__law_by, [], []⟩
def dd__law_product : DefD := ⟨("_law_product", none), "_law_product", "_law_product", defArgs s__law_product, defBody s__law_product, defScope s__law_product, [], []⟩
def dd__law_as : DefD := ⟨("_law_as", none), "_law_as", "_law_as", defArgs s__law_as, defBody s__law_as, defScope s__law_as, [], []⟩
def dd__law_sign : DefD := ⟨("_law_sign", none), "_law_sign", "_law_sign", defArgs s__law_sign, defBody s__law_sign, defScope s__law_sign, [], []⟩
def dd__law_is : DefD := ⟨("_law_is", none), "_law_is", "_law_is", defArgs s__law_is, defBody s__law_is, defScope s__law_is, [], []⟩
def dd_is_whole : DefD := ⟨("is_whole", none), "is_whole", "is_whole", defArgs s_is_whole, defBody s_is_whole, defScope s_is_whole, [], []⟩
def dd_is_count : DefD := ⟨("is_count", none), "is_count", "is_count", defArgs s_is_count, defBody s_is_count, defScope s_is_count, [], []⟩
def dd_is_fraction : DefD := ⟨("is_fraction", none), "is_fraction", "is_fraction", defArgs s_is_fraction, defBody s_is_fraction, defScope s_is_fraction, [], []⟩
def dd_is_term : DefD := ⟨("is_term", none), "is_term", "is_term", defArgs s_is_term, defBody s_is_term, defScope s_is_term, [], []⟩
def dd_is_worth : DefD := ⟨("is_worth", none), "is_worth", "is_worth", defArgs s_is_worth, defBody s_is_worth, defScope s_is_worth, [], []⟩
def dd_sign_of : DefD := ⟨("sign_of", none), "sign_of", "sign_of", defArgs s_sign_of, defBody s_sign_of, defScope s_sign_of, [], []⟩
def dd_is_quotient : DefD := ⟨("is_quotient", none), "is_quotient", "is_quotient", defArgs s_is_quotient, defBody s_is_quotient, defScope s_is_quotient, [], []⟩
def dd_need_quotient : DefD := ⟨("need_quotient", none), "need_quotient", "need_quotient", defArgs s_need_quotient, defBody s_need_quotient, defScope s_need_quotient, [], []⟩
def dd_fraction_of : DefD := ⟨("fraction_of", none), "fraction_of", "fraction_of", defArgs s_fraction_of, defBody s_fraction_of, defScope s_fraction_of, [], []⟩
def dd_added : DefD := ⟨("added", none), "added", "added", defArgs s_added, defBody s_added, defScope s_added, [], []⟩
def dd_summed : DefD := ⟨("summed", none), "summed", "summed", defArgs s_summed, defBody s_summed, defScope s_summed, [], []⟩
def dd_sum_of : DefD := ⟨("sum_of", none), "sum_of", "sum_of", defArgs s_sum_of, defBody s_sum_of, defScope s_sum_of, [], []⟩
def dd_negative : DefD := ⟨("negative", none), "negative", "negative", defArgs s_negative, defBody s_negative, defScope s_negative, [], []⟩
def dd_product_of : DefD := ⟨("product_of", none), "product_of", "product_of", defArgs s_product_of, defBody s_product_of, defScope s_product_of, [], []⟩
def dd_crossed : DefD := ⟨("crossed", none), "crossed", "crossed", defArgs s_crossed, defBody s_crossed, defScope s_crossed, [], []⟩
def dd_are_alike : DefD := ⟨("are_alike", none), "are_alike", "are_alike", defArgs s_are_alike, defBody s_are_alike, defScope s_are_alike, [], []⟩
def dd_quotient_above : DefD := ⟨("quotient_above", none), "quotient_above", "quotient_above", defArgs s_quotient_above, defBody s_quotient_above, defScope s_quotient_above, [], []⟩
def dd__law_over : DefD := ⟨("_law_over", none), "_law_over", "_law_over", defArgs s__law_over, defBody s__law_over, defScope s__law_over, [], []⟩
def dd_divided : DefD := ⟨("divided", none), "divided", "divided", defArgs s_divided, defBody s_divided, defScope s_divided, [], []⟩
def dd_quotient_term : DefD := ⟨("quotient_term", none), "quotient_term", "quotient_term", defArgs s_quotient_term, defBody s_quotient_term, defScope s_quotient_term, [], []⟩
def dd__law_odd : DefD := ⟨("_law_odd", none), "_law_odd", "_law_odd", defArgs s__law_odd, defBody s__law_odd, defScope s__law_odd, [], []⟩
def dd__law_raised : DefD := ⟨("_law_raised", none), "_law_raised", "_law_raised", defArgs s__law_raised, defBody s__law_raised, defScope s__law_raised, [], []⟩
def dd_law : DefD := ⟨("law", none), "law", "law", defArgs s_law, defBody s_law, defScope s_law, [], []⟩
abbrev i_BadWorth : Stmt := (clsBody (topS 3)).getD 0 (.Pass ⟨0, 0, 0, 0⟩)
def di_BadWorth : DefD := ⟨("BadWorth", some "__init__"), "__init__", "BadWorth.__init__", defArgs i_BadWorth, defBody i_BadWorth, defScope i_BadWorth, [], []⟩
def fn : List DefD := [dd__law_pen, dd__law_draw, dd__law_above_nought, dd__law_pick, dd__law_gcd, dd__law_part, dd__law_some, dd__law_add, dd__law_by, dd__law_product, dd__law_as, dd__law_sign, dd__law_is, dd_is_whole, dd_is_count, dd_is_fraction, dd_is_term, dd_is_worth, dd_sign_of, dd_is_quotient, dd_need_quotient, dd_fraction_of, dd_added, dd_summed, dd_sum_of, dd_negative, dd_product_of, dd_crossed, dd_are_alike, dd_quotient_above, dd__law_over, dd_divided, dd_quotient_term, dd__law_odd, dd__law_raised, dd_law, di_BadWorth]
def faL : List Fa := [.glo "_law_pen", .glo "_law_draw", .glo "_law_above_nought", .glo "_law_pick", .glo "_law_gcd", .glo "_law_part", .glo "_law_some", .glo "_law_add", .glo "_law_by", .glo "_law_product", .glo "_law_as", .glo "_law_sign", .glo "_law_is", .glo "is_whole", .glo "is_count", .glo "is_fraction", .glo "is_term", .glo "is_worth", .glo "sign_of", .glo "is_quotient", .glo "need_quotient", .glo "fraction_of", .glo "added", .glo "summed", .glo "sum_of", .glo "negative", .glo "product_of", .glo "crossed", .glo "are_alike", .glo "quotient_above", .glo "_law_over", .glo "divided", .glo "quotient_term", .glo "_law_odd", .glo "_law_raised", .glo "law", .free "abs", .free "all", .free "bool", .free "dict", .free "int", .free "isinstance", .free "len", .free "list", .free "min", .free "range", .free "repr", .free "sorted", .free "tuple", .free "zip"]
def tb (K : PySem.W.Frag) : Bool := noList K && (faL.all (fun f => f.ok K) && (eqO (PySem.W.nsIn K mainGlobals "gcd") (some (some (.builtin "math.gcd"))) && (exB "BadWorth" ["worth"] K && (decide (PySem.W.exmOne K (.ref (ga K "BadWorth")) (.ref (ga K "BadWorth")) = some true)))))
abbrev R : PySem.W.OpenRow := PySem.W.OpenLaw.row PySem.Challenge.rw_raresteps_k24_quotients
abbrev hk : PySem.W.Hook := hookF 6 tb fn
def ob (s : PySem.W.SharedT) : AlD := obsFG 6 tb fn (HandSHeadRun.getT s)
theorem ob_eq (s : PySem.W.SharedT) : ob s = hk.obs s.abs := obsFG_eq (HandSHeadRun.getT_eq s)
def loose0 : List Str := ["RareError", "BadWorth", "is_whole", "is_count", "is_fraction", "fraction_of", "added", "divided", "is_term", "is_worth", "summed", "sum_of", "negative", "product_of", "sign_of", "is_quotient", "need_quotient", "crossed", "are_alike", "quotient_above", "quotient_term", "_law_pen", "_law_draw", "_law_pick", "_law_is", "_law_gcd", "_law_part", "_law_add", "_law_by", "_law_over"]
def loose1 : List Str := ["_law_raised", "_law_some", "_law_product", "_law_as", "_law_above_nought", "_law_sign", "_law_odd"]
def loose : List Str := loose0 ++ loose1
theorem run (w : World) : HandSHeadRun.RunEqI R (PySem.W.view R.prog [0, 42]) hk ob 4000 loose w := by
  unfold HandSHeadRun.RunEqI
  kernel_rfl
theorem facts {P : Program} {w : World} {K : PySem.W.Frag} {h : Heap} {mg : Str → Option Value} {fl : Addr} (kin : K.In h) (G : h.Ns mainGlobals mg) (hfl : mg ("law" : Str) = some (.ref fl)) (c : SaysF tb fn K) :
    noList K = true ∧ ∃ fd : FuncData, (∀ (s : Shared) (v : Value), BindsTo s fd ⟨[v], []⟩ [("script", v)]) ∧ ∀ base : Heap, K.In base → base.Ns mainGlobals mg → FnG K mg P w base 10 fl fd ["script"] g_law := by
  have t := c.test
  unfold tb at t
  obtain ⟨t_nl, t⟩ := ba t
  obtain ⟨t_fa, t⟩ := ba t
  obtain ⟨t_g_gcd, t⟩ := ba t
  obtain ⟨t_x_BadWorth, t⟩ := ba t
  have t_m_BadWorth := t
  have fact : ∀ (i : Nat) {f : Fa}, faL[i]? = some f → f.ok K = true := fun i f h => List.all_eq_true.mp t_fa f (List.mem_of_getElem? h)
  have T : Txt mg := ⟨free_ok kin G (fact 36 rfl), free_ok kin G (fact 37 rfl), free_ok kin G (fact 38 rfl), free_ok kin G (fact 39 rfl), free_ok kin G (fact 40 rfl), free_ok kin G (fact 41 rfl), free_ok kin G (fact 42 rfl), free_ok kin G (fact 43 rfl), free_ok kin G (fact 44 rfl), free_ok kin G (fact 45 rfl), free_ok kin G (fact 46 rfl), free_ok kin G (fact 47 rfl), free_ok kin G (fact 48 rfl), free_ok kin G (fact 49 rfl), PySem.W.mg_of kin G (eqO_ok t_g_gcd)⟩
  obtain ⟨fd__law_pen, F__law_pen⟩ := c.at_ 0 (d := dd__law_pen) rfl
  obtain ⟨fd__law_draw, F__law_draw⟩ := c.at_ 1 (d := dd__law_draw) rfl
  obtain ⟨fd__law_above_nought, F__law_above_nought⟩ := c.at_ 2 (d := dd__law_above_nought) rfl
  obtain ⟨fd__law_pick, F__law_pick⟩ := c.at_ 3 (d := dd__law_pick) rfl
  obtain ⟨fd__law_gcd, F__law_gcd⟩ := c.at_ 4 (d := dd__law_gcd) rfl
  obtain ⟨fd__law_part, F__law_part⟩ := c.at_ 5 (d := dd__law_part) rfl
  obtain ⟨fd__law_some, F__law_some⟩ := c.at_ 6 (d := dd__law_some) rfl
  obtain ⟨fd__law_add, F__law_add⟩ := c.at_ 7 (d := dd__law_add) rfl
  obtain ⟨fd__law_by, F__law_by⟩ := c.at_ 8 (d := dd__law_by) rfl
  obtain ⟨fd__law_product, F__law_product⟩ := c.at_ 9 (d := dd__law_product) rfl
  obtain ⟨fd__law_as, F__law_as⟩ := c.at_ 10 (d := dd__law_as) rfl
  obtain ⟨fd__law_sign, F__law_sign⟩ := c.at_ 11 (d := dd__law_sign) rfl
  obtain ⟨fd__law_is, F__law_is⟩ := c.at_ 12 (d := dd__law_is) rfl
  obtain ⟨fd_is_whole, F_is_whole⟩ := c.at_ 13 (d := dd_is_whole) rfl
  obtain ⟨fd_is_count, F_is_count⟩ := c.at_ 14 (d := dd_is_count) rfl
  obtain ⟨fd_is_fraction, F_is_fraction⟩ := c.at_ 15 (d := dd_is_fraction) rfl
  obtain ⟨fd_is_term, F_is_term⟩ := c.at_ 16 (d := dd_is_term) rfl
  obtain ⟨fd_is_worth, F_is_worth⟩ := c.at_ 17 (d := dd_is_worth) rfl
  obtain ⟨fd_sign_of, F_sign_of⟩ := c.at_ 18 (d := dd_sign_of) rfl
  obtain ⟨fd_is_quotient, F_is_quotient⟩ := c.at_ 19 (d := dd_is_quotient) rfl
  obtain ⟨fd_need_quotient, F_need_quotient⟩ := c.at_ 20 (d := dd_need_quotient) rfl
  obtain ⟨fd_fraction_of, F_fraction_of⟩ := c.at_ 21 (d := dd_fraction_of) rfl
  obtain ⟨fd_added, F_added⟩ := c.at_ 22 (d := dd_added) rfl
  obtain ⟨fd_summed, F_summed⟩ := c.at_ 23 (d := dd_summed) rfl
  obtain ⟨fd_sum_of, F_sum_of⟩ := c.at_ 24 (d := dd_sum_of) rfl
  obtain ⟨fd_negative, F_negative⟩ := c.at_ 25 (d := dd_negative) rfl
  obtain ⟨fd_product_of, F_product_of⟩ := c.at_ 26 (d := dd_product_of) rfl
  obtain ⟨fd_crossed, F_crossed⟩ := c.at_ 27 (d := dd_crossed) rfl
  obtain ⟨fd_are_alike, F_are_alike⟩ := c.at_ 28 (d := dd_are_alike) rfl
  obtain ⟨fd_quotient_above, F_quotient_above⟩ := c.at_ 29 (d := dd_quotient_above) rfl
  obtain ⟨fd__law_over, F__law_over⟩ := c.at_ 30 (d := dd__law_over) rfl
  obtain ⟨fd_divided, F_divided⟩ := c.at_ 31 (d := dd_divided) rfl
  obtain ⟨fd_quotient_term, F_quotient_term⟩ := c.at_ 32 (d := dd_quotient_term) rfl
  obtain ⟨fd__law_odd, F__law_odd⟩ := c.at_ 33 (d := dd__law_odd) rfl
  obtain ⟨fd__law_raised, F__law_raised⟩ := c.at_ 34 (d := dd__law_raised) rfl
  obtain ⟨fd_law, F_law⟩ := c.at_ 35 (d := dd_law) rfl
  obtain ⟨fd_iBadWorth, F_iBadWorth⟩ := c.at_ 36 (d := di_BadWorth) rfl
  have TE : TabOk K mg exT := by
    intro cc cn b a he ha v hv
    unfold exT at he
    by_cases e_BadWorth : cc = "BadWorth" ∧ cn = "BadWorth"
    · rw [if_pos e_BadWorth] at he
      cases he
      rw [e_BadWorth.1, glo_ok kin G (ba t_x_BadWorth).1] at ha
      rw [e_BadWorth.2, glo_ok kin G (ba t_x_BadWorth).1] at hv
      cases ha; cases hv
      exact of_decide_eq_true t_m_BadWorth
    rw [if_neg e_BadWorth] at he
    cases he
  refine ⟨t_nl, fd_law, fun s v => FunD.bindsA (ps := ["script"]) F_law (fun _ _ _ _ _ _ us hl => match us, hl with | [_], _ => rfl) s [v] rfl, fun base _ _ => ?_⟩
  have X_BadWorth := mkXC1 (P := P) (w := w) (base := base) kin G t_x_BadWorth F_iBadWorth ⟨rfl, rfl, rfl, by decide +kernel, rfl, by decide +kernel, by decide +kernel⟩ rfl rfl (by decide) (by decide) (fun _ _ _ _ _ _ us hl => match us, hl with | [_, _], _ => rfl)
  have C__law_pen := mkCal (P := P) (w := w) (base := base) kin G (fact 0 (f := .glo "_law_pen") rfl) F__law_pen (ok__law_pen T F__law_pen) (fun _ _ _ _ _ _ us hl => match us, hl with | [_], _ => rfl)
  have C__law_draw := mkCal (P := P) (w := w) (base := base) kin G (fact 1 (f := .glo "_law_draw") rfl) F__law_draw (ok__law_draw T F__law_draw) (fun _ _ _ _ _ _ us hl => match us, hl with | [_, _], _ => rfl)
  have C__law_above_nought := mkCal (P := P) (w := w) (base := base) kin G (fact 2 (f := .glo "_law_above_nought") rfl) F__law_above_nought (ok__law_above_nought T F__law_above_nought) (fun _ _ _ _ _ _ us hl => match us, hl with | [_], _ => rfl)
  have C__law_pick := mkCal (P := P) (w := w) (base := base) kin G (fact 3 (f := .glo "_law_pick") rfl) F__law_pick (ok__law_pick T C__law_draw F__law_pick) (fun _ _ _ _ _ _ us hl => match us, hl with | [_, _], _ => rfl)
  have C__law_gcd := mkCal (P := P) (w := w) (base := base) kin G (fact 4 (f := .glo "_law_gcd") rfl) F__law_gcd (ok__law_gcd T F__law_gcd) (fun _ _ _ _ _ _ us hl => match us, hl with | [_, _], _ => rfl)
  have C__law_part := mkCal (P := P) (w := w) (base := base) kin G (fact 5 (f := .glo "_law_part") rfl) F__law_part (ok__law_part T C__law_gcd F__law_part) (fun _ _ _ _ _ _ us hl => match us, hl with | [_, _], _ => rfl)
  have C__law_some := mkCal (P := P) (w := w) (base := base) kin G (fact 6 (f := .glo "_law_some") rfl) F__law_some (ok__law_some T C__law_pick C__law_draw C__law_part F__law_some) (fun _ _ _ _ _ _ us hl => match us, hl with | [_, _, _, _], _ => rfl)
  have C__law_add := mkCal (P := P) (w := w) (base := base) kin G (fact 7 (f := .glo "_law_add") rfl) F__law_add (ok__law_add T C__law_part F__law_add) (fun _ _ _ _ _ _ us hl => match us, hl with | [_, _], _ => rfl)
  have C__law_by := mkCal (P := P) (w := w) (base := base) kin G (fact 8 (f := .glo "_law_by") rfl) F__law_by (ok__law_by T C__law_part F__law_by) (fun _ _ _ _ _ _ us hl => match us, hl with | [_, _], _ => rfl)
  have C__law_product := mkCal (P := P) (w := w) (base := base) kin G (fact 9 (f := .glo "_law_product") rfl) F__law_product (ok__law_product T C__law_add C__law_by F__law_product) (fun _ _ _ _ _ _ us hl => match us, hl with | [_, _], _ => rfl)
  have C__law_as := mkCal (P := P) (w := w) (base := base) kin G (fact 10 (f := .glo "_law_as") rfl) F__law_as (ok__law_as T F__law_as) (fun _ _ _ _ _ _ us hl => match us, hl with | [_], _ => rfl)
  have C__law_sign := mkCal (P := P) (w := w) (base := base) kin G (fact 11 (f := .glo "_law_sign") rfl) F__law_sign (ok__law_sign T C__law_product C__law_add F__law_sign) (fun _ _ _ _ _ _ us hl => match us, hl with | [_, _], _ => rfl)
  have C__law_is := mkCal (P := P) (w := w) (base := base) kin G (fact 12 (f := .glo "_law_is") rfl) F__law_is (ok__law_is T F__law_is) (fun _ _ _ _ _ _ us hl => match us, hl with | [_, _], _ => rfl)
  have C_is_whole := mkCal (P := P) (w := w) (base := base) kin G (fact 13 (f := .glo "is_whole") rfl) F_is_whole (ok_is_whole T F_is_whole) (fun _ _ _ _ _ _ us hl => match us, hl with | [_], _ => rfl)
  have C_is_count := mkCal (P := P) (w := w) (base := base) kin G (fact 14 (f := .glo "is_count") rfl) F_is_count (ok_is_count T C_is_whole F_is_count) (fun _ _ _ _ _ _ us hl => match us, hl with | [_], _ => rfl)
  have C_is_fraction := mkCal (P := P) (w := w) (base := base) kin G (fact 15 (f := .glo "is_fraction") rfl) F_is_fraction (ok_is_fraction T C_is_whole F_is_fraction) (fun _ _ _ _ _ _ us hl => match us, hl with | [_], _ => rfl)
  have C_is_term := mkCal (P := P) (w := w) (base := base) kin G (fact 16 (f := .glo "is_term") rfl) F_is_term (ok_is_term T C_is_count C_is_fraction F_is_term) (fun _ _ _ _ _ _ us hl => match us, hl with | [_], _ => rfl)
  have C_is_worth := mkCal (P := P) (w := w) (base := base) kin G (fact 17 (f := .glo "is_worth") rfl) F_is_worth (ok_is_worth T C_is_term F_is_worth) (fun _ _ _ _ _ _ us hl => match us, hl with | [_], _ => rfl)
  have C_sign_of := mkCal (P := P) (w := w) (base := base) kin G (fact 18 (f := .glo "sign_of") rfl) F_sign_of (ok_sign_of T F_sign_of) (fun _ _ _ _ _ _ us hl => match us, hl with | [_], _ => rfl)
  have C_is_quotient := mkCal (P := P) (w := w) (base := base) kin G (fact 19 (f := .glo "is_quotient") rfl) F_is_quotient (ok_is_quotient T C_is_worth C_sign_of F_is_quotient) (fun _ _ _ _ _ _ us hl => match us, hl with | [_], _ => rfl)
  have C_need_quotient := mkCal (P := P) (w := w) (base := base) kin G (fact 20 (f := .glo "need_quotient") rfl) F_need_quotient (ok_need_quotient T X_BadWorth C_is_quotient F_need_quotient) (fun _ _ _ _ _ _ us hl => match us, hl with | [_], _ => rfl)
  have C_fraction_of := mkCal (P := P) (w := w) (base := base) kin G (fact 21 (f := .glo "fraction_of") rfl) F_fraction_of (ok_fraction_of T F_fraction_of) (fun _ _ _ _ _ _ us hl => match us, hl with | [_, _], _ => rfl)
  have C_added := mkCal (P := P) (w := w) (base := base) kin G (fact 22 (f := .glo "added") rfl) F_added (ok_added T C_fraction_of F_added) (fun _ _ _ _ _ _ us hl => match us, hl with | [_, _], _ => rfl)
  have C_summed := mkCal (P := P) (w := w) (base := base) kin G (fact 23 (f := .glo "summed") rfl) F_summed (ok_summed T C_added C_fraction_of F_summed) (fun _ _ _ _ _ _ us hl => match us, hl with | [_], _ => rfl)
  have C_sum_of := mkCal (P := P) (w := w) (base := base) kin G (fact 24 (f := .glo "sum_of") rfl) F_sum_of (ok_sum_of T C_summed F_sum_of) (fun _ _ _ _ _ _ us hl => match us, hl with | [_, _], _ => rfl)
  have C_negative := mkCal (P := P) (w := w) (base := base) kin G (fact 25 (f := .glo "negative") rfl) F_negative (ok_negative T F_negative) (fun _ _ _ _ _ _ us hl => match us, hl with | [_], _ => rfl)
  have C_product_of := mkCal (P := P) (w := w) (base := base) kin G (fact 26 (f := .glo "product_of") rfl) F_product_of (ok_product_of T C_summed F_product_of) (fun _ _ _ _ _ _ us hl => match us, hl with | [_, _], _ => rfl)
  have C_crossed := mkCal (P := P) (w := w) (base := base) kin G (fact 27 (f := .glo "crossed") rfl) F_crossed (ok_crossed T C_need_quotient C_sum_of C_negative C_product_of F_crossed) (fun _ _ _ _ _ _ us hl => match us, hl with | [_, _], _ => rfl)
  have C_are_alike := mkCal (P := P) (w := w) (base := base) kin G (fact 28 (f := .glo "are_alike") rfl) F_are_alike (ok_are_alike T C_crossed F_are_alike) (fun _ _ _ _ _ _ us hl => match us, hl with | [_, _], _ => rfl)
  have C_quotient_above := mkCal (P := P) (w := w) (base := base) kin G (fact 29 (f := .glo "quotient_above") rfl) F_quotient_above (ok_quotient_above T C_sign_of C_crossed F_quotient_above) (fun _ _ _ _ _ _ us hl => match us, hl with | [_, _], _ => rfl)
  have C__law_over := mkCal (P := P) (w := w) (base := base) kin G (fact 30 (f := .glo "_law_over") rfl) F__law_over (ok__law_over T C__law_part F__law_over) (fun _ _ _ _ _ _ us hl => match us, hl with | [_, _], _ => rfl)
  have C_divided := mkCal (P := P) (w := w) (base := base) kin G (fact 31 (f := .glo "divided") rfl) F_divided (ok_divided T C_fraction_of F_divided) (fun _ _ _ _ _ _ us hl => match us, hl with | [_, _], _ => rfl)
  have C_quotient_term := mkCal (P := P) (w := w) (base := base) kin G (fact 32 (f := .glo "quotient_term") rfl) F_quotient_term (ok_quotient_term T C_need_quotient C_divided F_quotient_term) (fun _ _ _ _ _ _ us hl => match us, hl with | [_], _ => rfl)
  have C__law_odd := mkCal (P := P) (w := w) (base := base) kin G (fact 33 (f := .glo "_law_odd") rfl) F__law_odd (ok__law_odd T C__law_pick F__law_odd) (fun _ _ _ _ _ _ us hl => match us, hl with | [_, _], _ => rfl)
  have C__law_raised := mkCal (P := P) (w := w) (base := base) kin G (fact 34 (f := .glo "_law_raised") rfl) F__law_raised (ok__law_raised T X_BadWorth TE C_are_alike C_quotient_above C_quotient_term F__law_raised) (fun _ _ _ _ _ _ us hl => match us, hl with | [_, _, _], _ => rfl)
  have e := hfl.symm.trans (glo_ok kin G (fact 35 (f := .glo "law") rfl))
  cases e
  exact ok_law T C__law_pen C__law_draw C__law_above_nought C__law_some C__law_product C__law_pick C__law_add C__law_as C__law_sign C__law_is C_is_quotient C_are_alike C_quotient_above C__law_over C_quotient_term C__law_odd C__law_raised F_law
end HG24
open PySem PySem.W PySem.Calls PyProof.Rows
/-- the law holds if its evaluator gives True -/
theorem HG24.holds_of (ht : ∀ ns : List Int, ns.length ≤ 63 → PP.LawTrue G24.g_law ns) : PySem.Challenge.rw_raresteps_k24_quotients.Holds := by
  w_on; o_law
  refine HandSHeadRun.head_imp (r := OpenLaw.row PySem.Challenge.rw_raresteps_k24_quotients) (q := view (OpenLaw.row PySem.Challenge.rw_raresteps_k24_quotients).prog [0, 42]) (H := HG24.hk) (ob := HG24.ob) (M := 4000) (loose := HG24.loose) (d := HandSHeadRun.topDef (OpenLaw.row PySem.Challenge.rw_raresteps_k24_quotients).prog 42) (kwd := []) HG24.ob_eq HG24.run
    (by kernel_rfl) (by kernel_rfl) (by kernel_rfl) (by rfl) (by first | assumption | decide +kernel) (by decide +kernel) ⟨rfl, rfl, rfl, rfl, rfl, by decide +kernel⟩ ?hw ?hc
  case hw => w_witness2
  case hc =>
    refine PP.walk_ofG (l := PySem.Challenge.rw_raresteps_k24_quotients) (n := 63) (k := 10) (x := "script") rfl (by decide) (by kernel_rfl) ⟨rfl, by decide, by decide⟩ ?F
    intro w mg fa h Y G hmg0
    obtain ⟨K, kin, c⟩ := Y
    have hmg : mg ("law" : PySem.Str) = some (.ref fa) := by
      have e : (HandSHeadRun.topDef (OpenLaw.row PySem.Challenge.rw_raresteps_k24_quotients).prog 42).name = ("law" : PySem.Str) := by kernel_rfl
      rw [← e]
      exact hmg0
    obtain ⟨nl, fd, hb, hF⟩ := HG24.facts (P := (PySem.Challenge.rw_raresteps_k24_quotients).prog) (w := w) kin G hmg c
    exact ⟨K, fd, G24.g_law, kin, nl, hb, ht, hF⟩
set_option Elab.async false
set_option linter.all false
/-! MA: fractions in lowest terms, worths as lists of order and number: plain Lean, no program in sight. -/
namespace MA
/-! ### lowest terms -/
/-- what both numbers are divided by -/
def shr (t b : Int) : Int := if b > 0 then ((Nat.gcd t.natAbs b.natAbs : Nat) : Int) else -((Nat.gcd t.natAbs b.natAbs : Nat) : Int)
theorem shr_ne {t b : Int} (h : b ≠ 0) : shr t b ≠ 0 := by
  have : 0 < Nat.gcd t.natAbs b.natAbs := Nat.gcd_pos_of_pos_right _ (by omega)
  unfold shr; split <;> omega
theorem shr_eq {t b : Int} (h : b ≠ 0) : shr t b = b.sign * ((b.gcd t : Nat) : Int) := by
  unfold shr
  rw [Int.gcd_comm]
  show (if b > 0 then ((t.gcd b : Nat) : Int) else -((t.gcd b : Nat) : Int)) = _
  split
  · rw [Int.sign_eq_one_of_pos (by omega), Int.one_mul]
  · rw [Int.sign_eq_neg_one_of_neg (by omega)]; omega
theorem part_num {t b : Int} (h : b ≠ 0) : t.fdiv (shr t b) = (Rat.divInt t b).num := by
  have g0 : ((b.gcd t : Nat) : Int) ≠ 0 := by
    have : b.gcd t ≠ 0 := by rw [Ne, Int.gcd_eq_zero_iff]; exact fun z => h z.1
    omega
  rw [Rat.num_divInt]
  obtain ⟨c, hc⟩ := Int.gcd_dvd_right b t
  have e : b.sign * t / ((b.gcd t : Nat) : Int) = b.sign * c := by
    have : b.sign * t = b.sign * c * ((b.gcd t : Nat) : Int) := by
      conv => lhs; rw [hc]
      rw [Int.mul_assoc, Int.mul_comm c]
    rw [this, Int.mul_ediv_cancel _ g0]
  rw [e]
  refine Int.fdiv_eq_of_eq_mul_left (shr_ne h) ?_
  rw [shr_eq h]
  have s2 : b.sign * b.sign = 1 := by
    rcases Int.lt_or_gt_of_ne h with k | k
    · rw [Int.sign_eq_neg_one_of_neg k]; rfl
    · rw [Int.sign_eq_one_of_pos k]; rfl
  calc t = ((b.gcd t : Nat) : Int) * c := hc
    _ = (b.sign * b.sign) * (((b.gcd t : Nat) : Int) * c) := by rw [s2, Int.one_mul]
    _ = _ := by simp only [Int.mul_assoc, Int.mul_comm, Int.mul_left_comm]
theorem part_den {t b : Int} (h : b ≠ 0) : b.fdiv (shr t b) = ((Rat.divInt t b).den : Int) := by
  rw [Rat.den_divInt, if_neg h]
  have hd : b.gcd t ∣ b.natAbs := Nat.gcd_dvd_left _ _
  refine Int.fdiv_eq_of_eq_mul_left (shr_ne h) ?_
  rw [shr_eq h]
  obtain ⟨c, hc⟩ := hd
  have g0 : 0 < b.gcd t := Nat.pos_of_ne_zero (by rw [Ne, Int.gcd_eq_zero_iff]; exact fun z => h z.1)
  rw [hc, Nat.mul_div_cancel_left _ g0]
  have e : b = b.sign * (b.natAbs : Int) := (Int.sign_mul_natAbs b).symm
  have e2 : (b.natAbs : Int) = ((b.gcd t : Nat) : Int) * (c : Int) := by rw [hc]; simp
  calc b = b.sign * (b.natAbs : Int) := e
    _ = b.sign * (((b.gcd t : Nat) : Int) * (c : Int)) := by rw [e2]
    _ = _ := by simp only [Int.mul_assoc, Int.mul_comm, Int.mul_left_comm]
theorem shr_le {t b : Int} (h : b ≠ 0) : (shr t b).natAbs ≤ b.natAbs := by
  have : Nat.gcd t.natAbs b.natAbs ≤ b.natAbs := Nat.gcd_le_right _ (by omega)
  unfold shr; split <;> omega
theorem num_den (q : Rat) : (q.num : Rat) / ((q.den : Int) : Rat) = q := by
  rw [← Rat.divInt_eq_div]; exact Rat.num_divInt_den q
theorem den_ne (q : Rat) : ((q.den : Int)) ≠ 0 := by have := q.den_pos; omega
theorem cast_ne {b : Int} (h : b ≠ 0) : (b : Rat) ≠ 0 := fun z => h (Rat.intCast_inj.mp z)
theorem add_parts (p q : Rat) : Rat.divInt (p.num * q.den + q.num * p.den) (p.den * q.den) = p + q := by
  have h := Rat.divInt_add_divInt p.num q.num (den_ne p) (den_ne q)
  rw [Rat.num_divInt_den, Rat.num_divInt_den] at h
  exact h.symm
theorem mul_parts (p q : Rat) : Rat.divInt (p.num * q.num) (p.den * q.den) = p * q := by
  have h := Rat.divInt_mul_divInt p.num q.num (d₁ := p.den) (d₂ := q.den)
  rw [Rat.num_divInt_den, Rat.num_divInt_den] at h
  exact h.symm
theorem div_parts (p q : Rat) : Rat.divInt (p.num * q.den) (p.den * q.num) = p / q := by
  have h := Rat.divInt_mul_divInt p.num q.den (d₁ := p.den) (d₂ := q.num)
  rw [← h, Rat.num_divInt_den, Rat.div_def]
  congr 1
  rw [← Rat.inv_divInt, Rat.num_divInt_den]
/-! ### sizes: a common bottom and a bound of the tops -/
def Lat (L B : Nat) (q : Rat) : Prop := ∃ a : Int, q * ((L : Int) : Rat) = (a : Rat) ∧ a.natAbs ≤ B
theorem Lat.zero (L B : Nat) : Lat L B 0 := ⟨0, by simp [Rat.zero_mul], by simp⟩
theorem Lat.add {L B C : Nat} {p q : Rat} (h : Lat L B p) (k : Lat L C q) : Lat L (B + C) (p + q) := by
  obtain ⟨a, e, l⟩ := h
  obtain ⟨b, f, m⟩ := k
  exact ⟨a + b, by rw [Rat.intCast_add, ← e, ← f, Rat.add_mul], by omega⟩
theorem Lat.neg {L B : Nat} {p : Rat} (h : Lat L B p) : Lat L B (-p) := by
  obtain ⟨a, e, l⟩ := h
  exact ⟨-a, by rw [Rat.intCast_neg, ← e, Rat.neg_mul], by omega⟩
theorem Lat.mul {L B M C : Nat} {p q : Rat} (h : Lat L B p) (k : Lat M C q) : Lat (L * M) (B * C) (p * q) := by
  obtain ⟨a, e, l⟩ := h
  obtain ⟨b, f, m⟩ := k
  refine ⟨a * b, ?_, ?_⟩
  · rw [Rat.intCast_mul, ← e, ← f]
    have : (((L * M : Nat) : Int) : Rat) = ((L : Int) : Rat) * ((M : Int) : Rat) := by rw [← Rat.intCast_mul]; norm_cast
    rw [this]; grind
  · rw [Int.natAbs_mul]; exact Nat.mul_le_mul l m
theorem Lat.le {L B C : Nat} {p : Rat} (h : Lat L B p) (k : B ≤ C) : Lat L C p := by
  obtain ⟨a, e, l⟩ := h
  exact ⟨a, e, by omega⟩
theorem Lat.one {B : Nat} {a : Int} (h : a.natAbs ≤ B) : Lat 1 B (a : Rat) := ⟨a, by simp [Rat.mul_one], h⟩
theorem Lat.up {L B : Nat} {p : Rat} (h : Lat L B p) (c : Nat) : Lat (L * c) (B * c) p := by
  have := h.mul (Lat.one (B := c) (a := (c : Int)) (by simp))
  obtain ⟨a, e, l⟩ := h
  refine ⟨a * c, ?_, ?_⟩
  · rw [Rat.intCast_mul, ← e]
    have : (((L * c : Nat) : Int) : Rat) = ((L : Int) : Rat) * ((c : Int) : Rat) := by rw [← Rat.intCast_mul]; norm_cast
    rw [this]; grind
  · rw [Int.natAbs_mul]
    exact Nat.mul_le_mul l (by simp)
theorem Lat.num {L B : Nat} {q : Rat} (hL : 0 < L) (h : Lat L B q) : q.num.natAbs ≤ B ∧ q.den ≤ L := by
  obtain ⟨a, e, l⟩ := h
  have k : q.num * L = a * q.den := by
    have h1 : (q.num : Rat) / ((q.den : Int) : Rat) * ((L : Int) : Rat) = (a : Rat) := by rw [num_den]; exact e
    have d0 : ((q.den : Int) : Rat) ≠ 0 := cast_ne (den_ne q)
    have h2 : (q.num : Rat) * ((L : Int) : Rat) = (a : Rat) * ((q.den : Int) : Rat) := by grind
    rw [← Rat.intCast_mul, ← Rat.intCast_mul] at h2
    exact Rat.intCast_inj.mp h2
  have k2 : q.num.natAbs * L = a.natAbs * q.den := by
    have := congrArg Int.natAbs k
    rw [Int.natAbs_mul, Int.natAbs_mul] at this
    simpa using this
  have c := q.reduced
  have d1 : q.num.natAbs ∣ a.natAbs := Nat.Coprime.dvd_of_dvd_mul_right c ⟨L, k2.symm⟩
  have d2 : q.den ∣ L := Nat.Coprime.dvd_of_dvd_mul_left c.symm ⟨a.natAbs, by rw [k2, Nat.mul_comm]⟩
  refine ⟨?_, Nat.le_of_dvd hL d2⟩
  by_cases z : a.natAbs = 0
  · rw [z, Nat.zero_mul] at k2
    have : q.num.natAbs = 0 := by
      rcases Nat.mul_eq_zero.mp k2 with x | x
      · exact x
      · omega
    omega
  · exact Nat.le_trans (Nat.le_of_dvd (by omega) d1) l
/-! ### worths: orders and numbers -/
abbrev W := List (Int × Rat)
def cf : W → Int → Rat
  | [], _ => 0
  | p :: r, j => (if p.1 = j then p.2 else 0) + cf r j
theorem cf_app : ∀ (a b : W) (j : Int), cf (a ++ b) j = cf a j + cf b j
  | [], b, j => by simp [cf, Rat.zero_add]
  | p :: a, b, j => by simp only [List.cons_append, cf, cf_app a b j, Rat.add_assoc]
theorem cf_perm {a b : W} (h : a.Perm b) (j : Int) : cf a j = cf b j := by
  induction h with
  | nil => rfl
  | cons x _ ih => simp only [cf, ih]
  | swap x y l => simp only [cf]; grind
  | trans _ _ h1 h2 => exact h1.trans h2
abbrev keys (a : W) : List Int := a.map (·.1)
theorem cf_notin : ∀ {a : W} {j : Int}, j ∉ keys a → cf a j = 0
  | [], _, _ => rfl
  | p :: a, j, h => by
    have h1 : ¬ p.1 = j := fun e => h (by simp [keys, e])
    have h2 : j ∉ keys a := fun e => h (List.mem_cons_of_mem _ e)
    simp only [cf, if_neg h1, cf_notin h2, Rat.add_zero]
theorem cf_mem : ∀ {a : W} {p : Int × Rat}, (keys a).Nodup → p ∈ a → cf a p.1 = p.2
  | q :: a, p, h, hp => by
    obtain ⟨h1, h2⟩ := List.nodup_cons.mp h
    rcases List.mem_cons.mp hp with e | e
    · subst e
      simp only [cf, if_pos, cf_notin h1, Rat.add_zero]
    · have : ¬ q.1 = p.1 := fun z => h1 (by show q.1 ∈ _; rw [z]; exact List.mem_map_of_mem e)
      simp only [cf, if_neg this, cf_mem h2 e, Rat.zero_add]
/-- each key with its number -/
theorem as_keys : ∀ {a : W}, (keys a).Nodup → a = (keys a).map fun k => (k, cf a k) := fun {a} h => by
  have : a.map (fun p => (p.1, cf a p.1)) = a.map id := List.map_congr_left (fun p hp => by rw [cf_mem h hp]; rfl)
  rw [List.map_id] at this
  conv => lhs; rw [← this]
  rw [List.map_map]; rfl
def put (a : W) (k : Int) (v : Rat) : W := if (a.any fun p => p.1 == k) = true then a.map fun p => if p.1 == k then (p.1, v) else p else a ++ [(k, v)]
theorem keys_put (a : W) (k : Int) (v : Rat) : keys (put a k v) = if k ∈ keys a then keys a else keys a ++ [k] := by
  unfold put
  by_cases h : k ∈ keys a
  · have : (a.any fun p => p.1 == k) = true := by
      obtain ⟨p, hp, e⟩ := List.mem_map.mp h
      exact List.any_eq_true.mpr ⟨p, hp, by simp [e]⟩
    rw [if_pos this, if_pos h]
    unfold keys
    rw [List.map_map]
    exact List.map_congr_left fun p _ => by simp only [Function.comp]; split <;> rfl
  · have : ¬ (a.any fun p => p.1 == k) = true := fun z => by
      obtain ⟨p, hp, e⟩ := List.any_eq_true.mp z
      exact h (List.mem_map.mpr ⟨p, hp, by simpa using e⟩)
    rw [if_neg this, if_neg h]
    simp [keys]
theorem nodup_put {a : W} (k : Int) (v : Rat) (h : (keys a).Nodup) : (keys (put a k v)).Nodup := by
  rw [keys_put]
  split
  · exact h
  · rename_i n
    exact List.nodup_append.mpr ⟨h, by simp, fun x hx y hy e => n (by rw [List.mem_singleton.mp hy] at e; rw [← e]; exact hx)⟩
theorem len_put (a : W) (k : Int) (v : Rat) : (put a k v).length ≤ a.length + 1 := by
  unfold put; split <;> simp
theorem mem_put {a : W} {k : Int} {v : Rat} {p : Int × Rat} (h : p ∈ put a k v) : p ∈ a ∨ p = (k, v) := by
  unfold put at h
  split at h
  · obtain ⟨q, hq, e⟩ := List.mem_map.mp h
    split at e
    · rename_i z
      exact .inr (by rw [← e]; exact Prod.ext (by simpa using z) rfl)
    · exact .inl (e ▸ hq)
  · rcases List.mem_append.mp h with z | z
    · exact .inl z
    · exact .inr (List.mem_singleton.mp z)
theorem cf_put {a : W} (k : Int) (v : Rat) (h : (keys a).Nodup) (j : Int) : cf (put a k v) j = if k = j then v else cf a j := by
  have nd := nodup_put k v h
  by_cases hj : j ∈ keys (put a k v)
  · obtain ⟨p, hp, rfl⟩ := List.mem_map.mp hj
    rw [cf_mem nd hp]
    unfold put at hp
    split at hp
    · obtain ⟨q, hq, e⟩ := List.mem_map.mp hp
      split at e
      · rename_i z
        subst e
        have y : q.1 = k := by simpa using z
        rw [if_pos y.symm]
      · rename_i z
        subst e
        rw [if_neg (fun y => z (by simp [y])), cf_mem h hq]
    · rename_i z
      rcases List.mem_append.mp hp with y | y
      · rw [if_neg (fun x => z (List.any_eq_true.mpr ⟨p, y, by simp [x]⟩)), cf_mem h y]
      · rw [List.mem_singleton.mp y]; simp
  · rw [cf_notin hj]
    rw [keys_put] at hj
    split at hj
    · rename_i z
      rw [if_neg (fun (e : k = j) => hj (e ▸ z)), cf_notin hj]
    · rw [if_neg (fun (e : k = j) => hj (e ▸ List.mem_append_right _ (by simp))), cf_notin (fun e => hj (List.mem_append_left _ e))]
/-- a number added at an order -/
def add1 (a : W) (t : Int × Rat) : W := put a t.1 (cf a t.1 + t.2)
def sums (a : W) (ts : W) : W := ts.foldl add1 a
theorem sums_app (a b c : W) : sums a (b ++ c) = sums (sums a b) c := List.foldl_append
theorem nodup_sums : ∀ (ts : W) {a : W}, (keys a).Nodup → (keys (sums a ts)).Nodup
  | [], _, h => h
  | t :: ts, a, h => nodup_sums ts (nodup_put _ _ h)
theorem len_sums : ∀ (ts a : W), (sums a ts).length ≤ a.length + ts.length
  | [], a => by simp [sums]
  | t :: ts, a => by
    have h1 := len_sums ts (add1 a t)
    have h2 := len_put a t.1 (cf a t.1 + t.2)
    show (sums (add1 a t) ts).length ≤ _
    simp only [List.length_cons]
    unfold add1 at h1 ⊢
    omega
theorem cf_sums : ∀ (ts : W) {a : W}, (keys a).Nodup → ∀ j, cf (sums a ts) j = cf a j + cf ts j
  | [], a, h, j => by simp [sums, cf, Rat.add_zero]
  | t :: ts, a, h, j => by
    show cf (sums (add1 a t) ts) j = _
    rw [cf_sums ts (a := add1 a t) (nodup_put _ _ h)]
    unfold add1
    rw [cf_put _ _ h]
    simp only [cf]
    split
    · rename_i e
      rw [e, Rat.add_assoc]
    · rw [Rat.zero_add]
theorem keys_sums : ∀ (ts a : W) {k : Int}, k ∈ keys (sums a ts) → k ∈ keys a ∨ k ∈ keys ts
  | [], _, _, h => .inl h
  | t :: ts, a, k, h => by
    rcases keys_sums ts (add1 a t) h with z | z
    · unfold add1 at z
      rw [keys_put] at z
      split at z
      · exact .inl z
      · rcases List.mem_append.mp z with y | y
        · exact .inl y
        · exact .inr (by rw [List.mem_singleton.mp y]; exact List.mem_cons_self)
    · exact .inr (List.mem_cons_of_mem _ z)
def nz (a : W) : W := a.filter fun p => decide (p.2 ≠ 0)
theorem cf_nz : ∀ (a : W) (j : Int), cf (nz a) j = cf a j
  | [], _ => rfl
  | p :: a, j => by
    unfold nz
    rw [List.filter_cons]
    split
    · show (if p.1 = j then p.2 else 0) + cf (nz a) j = _
      rw [cf_nz a j]; rfl
    · rename_i z
      have : p.2 = 0 := by simpa using z
      show cf (nz a) j = (if p.1 = j then p.2 else 0) + cf a j
      rw [cf_nz a j, this]
      simp [Rat.zero_add]
theorem keys_nz {a : W} (h : (keys a).Nodup) : (keys (nz a)).Nodup := List.Sublist.nodup (List.Sublist.map _ List.filter_sublist) h
def cross (a b : W) : W := a.flatMap fun p => b.map fun r => (p.1 + r.1, p.2 * r.2)
theorem cf_shift (k : Int) (q : Rat) : ∀ (b : W) (j : Int), cf (b.map fun r => (k + r.1, q * r.2)) j = q * cf b (j - k)
  | [], j => by simp [cf, Rat.mul_zero]
  | r :: b, j => by
    simp only [List.map_cons, cf, cf_shift k q b j]
    by_cases e : r.1 = j - k
    · rw [if_pos e, if_pos (by omega), Rat.mul_add]
    · rw [if_neg e, if_neg (by omega), Rat.mul_add, Rat.mul_zero]
theorem cf_cross_cons (p : Int × Rat) (a b : W) (j : Int) : cf (cross (p :: a) b) j = p.2 * cf b (j - p.1) + cf (cross a b) j := by
  unfold cross
  rw [List.flatMap_cons, cf_app, cf_shift]
theorem cross_perm {a a' b b' : W} (h : a.Perm a') (k : b.Perm b') (j : Int) : cf (cross a b) j = cf (cross a' b') j := by
  have h1 : cf (cross a b) j = cf (cross a' b) j := by
    unfold cross
    exact cf_perm (List.Perm.flatMap_right _ h) j
  have h2 : ∀ a : W, cf (cross a b) j = cf (cross a b') j := fun a => by
    induction a with
    | nil => rfl
    | cons p a ih => rw [cf_cross_cons, cf_cross_cons, cf_perm k, ih]
  rw [h1, h2]
theorem cross_low {b : W} {m k0 : Int} : ∀ (a : W), (∀ p ∈ a, p.2 = 0 ∨ p.1 = k0 ∨ cf b (m - p.1) = 0) → cf (cross a b) m = cf a k0 * cf b (m - k0)
  | [], _ => by simp [cross, cf, Rat.zero_mul]
  | p :: a, h => by
    rw [cf_cross_cons, cross_low a (fun q hq => h q (List.mem_cons_of_mem _ hq))]
    simp only [cf]
    by_cases e : p.1 = k0
    · rw [if_pos e, e, Rat.add_mul]
    · rw [if_neg e, Rat.zero_add]
      rcases h p List.mem_cons_self with z | z | z
      · rw [z, Rat.zero_mul, Rat.zero_add]
      · exact absurd z e
      · rw [z, Rat.mul_zero, Rat.zero_add]
/-! ### the sign: that of the lowest number -/
def sgv (q : Rat) : Int := if 0 < q then 1 else -1
def Sg (f : Int → Rat) (s : Int) : Prop := (s = 0 ∧ ∀ k, f k = 0) ∨ ∃ k, f k ≠ 0 ∧ (∀ j, j < k → f j = 0) ∧ s = sgv (f k)
theorem Sg.uniq {f : Int → Rat} {s t : Int} (h : Sg f s) (k : Sg f t) : s = t := by
  rcases h with ⟨rfl, h⟩ | ⟨i, h1, h2, rfl⟩ <;> rcases k with ⟨rfl, k⟩ | ⟨j, k1, k2, rfl⟩
  · rfl
  · exact absurd (h j) k1
  · exact absurd (k i) h1
  · have : i = j := by
      rcases Int.lt_trichotomy i j with z | z | z
      · exact absurd (k2 i z) h1
      · exact z
      · exact absurd (h2 j z) k1
    rw [this]
theorem sgv_neg {q : Rat} (h : q ≠ 0) : sgv (-q) = - sgv q := by
  unfold sgv
  by_cases z : 0 < q
  · rw [if_pos z, if_neg (by grind)]
  · rw [if_neg z, if_pos (by grind)]; rfl
theorem Sg.neg {f g : Int → Rat} {s : Int} (h : Sg f s) (e : ∀ k, g k = - f k) : Sg g (-s) := by
  rcases h with ⟨rfl, h⟩ | ⟨i, h1, h2, rfl⟩
  · exact .inl ⟨rfl, fun k => by rw [e, h k]; rfl⟩
  · exact .inr ⟨i, by rw [e]; grind, fun j hj => by rw [e, h2 j hj]; rfl, by rw [e, sgv_neg h1]⟩
theorem Sg.congr {f g : Int → Rat} {s : Int} (h : Sg f s) (e : ∀ k, g k = f k) : Sg g s := by
  have : g = f := funext e
  rw [this]; exact h
theorem Sg.some {f : Int → Rat} {s : Int} (h : Sg f s) : s = 0 ∨ s = 1 ∨ s = -1 := by
  rcases h with ⟨rfl, h⟩ | ⟨i, h1, h2, rfl⟩
  · exact .inl rfl
  · unfold sgv; split <;> simp
theorem sgv_ne (q : Rat) : sgv q ≠ 0 := by unfold sgv; split <;> omega
theorem Sg.zero {f : Int → Rat} (h : Sg f 0) : ∀ k, f k = 0 := by
  rcases h with ⟨_, h⟩ | ⟨i, h1, h2, e⟩
  · exact h
  · exact absurd e.symm (sgv_ne _)
/-- orders rise, no number is 0 -/
structure Good (a : W) : Prop where
  up : (keys a).Pairwise (· < ·)
  nz : ∀ p ∈ a, p.2 ≠ 0
theorem Good.nodup {a : W} (h : Good a) : (keys a).Nodup := h.up.imp (fun h => by omega)
def sgn : W → Int
  | [] => 0
  | p :: _ => sgv p.2
theorem Good.sg {a : W} (h : Good a) : Sg (cf a) (sgn a) := by
  cases a with
  | nil => exact .inl ⟨rfl, fun k => rfl⟩
  | cons p a =>
    have e : cf (p :: a) p.1 = p.2 := cf_mem h.nodup List.mem_cons_self
    refine .inr ⟨p.1, by rw [e]; exact h.nz p List.mem_cons_self, fun j hj => cf_notin fun hm => ?_, by rw [e]; rfl⟩
    rcases List.mem_cons.mp hm with z | z
    · have z' : j = p.1 := z
      omega
    · have y : p.1 < j := (List.pairwise_cons.mp h.up).1 j z
      omega
theorem Sg.pos {f : Int → Rat} (h : Sg f 1) : ∃ k, 0 < f k ∧ ∀ j, j < k → f j = 0 := by
  rcases h with ⟨e, h⟩ | ⟨i, h1, h2, e⟩
  · exact absurd e (by omega)
  · refine ⟨i, ?_, h2⟩
    unfold sgv at e
    split at e
    · assumption
    · exact absurd e (by omega)
theorem sg_cross {a b : W} (na : (keys a).Nodup) (ha : Sg (cf a) 1) (hb : Sg (cf b) 1) : Sg (cf (cross a b)) 1 := by
  obtain ⟨k, k1, k2⟩ := ha.pos
  obtain ⟨j, j1, j2⟩ := hb.pos
  have low : ∀ m, m ≤ k + j → ∀ p ∈ a, p.2 = 0 ∨ p.1 = k ∨ cf b (m - p.1) = 0 := fun m hm p hp => by
    rcases Int.lt_trichotomy p.1 k with z | z | z
    · exact .inl (by rw [← cf_mem na hp]; exact k2 _ z)
    · exact .inr (.inl z)
    · exact .inr (.inr (j2 _ (by omega)))
  refine .inr ⟨k + j, ?_, fun m hm => ?_, ?_⟩
  · rw [cross_low a (low _ (Int.le_refl _)), show k + j - k = j by omega]
    have := Rat.mul_pos k1 j1
    grind
  · rw [cross_low a (low _ (by omega)), j2 _ (by omega), Rat.mul_zero]
  · rw [cross_low a (low _ (Int.le_refl _)), show k + j - k = j by omega]
    unfold sgv
    rw [if_pos (Rat.mul_pos k1 j1)]
/-! ### sorted -/
def ups (ks : List Int) : List Int := ks.mergeSort fun x y => decide (x ≤ y)
theorem ups_perm (ks : List Int) : (ups ks).Perm ks := List.mergeSort_perm _ _
theorem ups_le (ks : List Int) : (ups ks).Pairwise (· ≤ ·) := by
  have h := List.pairwise_mergeSort (le := fun x y : Int => decide (x ≤ y)) (fun a b c h k => by simp only [decide_eq_true_eq] at *; omega) (fun a b => by simp only [Bool.or_eq_true, decide_eq_true_eq]; omega) ks
  exact h.imp (fun x => of_decide_eq_true x)
theorem ups_lt {ks : List Int} (h : ks.Nodup) : (ups ks).Pairwise (· < ·) := by
  have h1 := ups_le ks
  have h2 : (ups ks).Nodup := (ups_perm ks).nodup_iff.mpr h
  exact (List.pairwise_and_iff.mpr ⟨h1, h2⟩).imp (fun x => by have := x.1; have := x.2; omega)
/-- the same, orders rising -/
def srt (a : W) : W := (ups (keys a)).map fun k => (k, cf a k)
theorem keys_srt (a : W) : keys (srt a) = ups (keys a) := by
  unfold srt keys
  rw [List.map_map]
  show List.map (fun k => k) _ = _
  rw [List.map_id']
theorem srt_perm {a : W} (h : (keys a).Nodup) : (srt a).Perm a := by
  have := (ups_perm (keys a)).map fun k => (k, cf a k)
  rw [← as_keys h] at this
  exact this
theorem good_srt {a : W} (h : (keys a).Nodup) : Good (nz (srt a)) := by
  refine ⟨?_, fun p hp => by simpa using (List.mem_filter.mp hp).2⟩
  have : (keys (srt a)).Pairwise (· < ·) := by rw [keys_srt]; exact ups_lt h
  exact this.sublist (List.Sublist.map _ List.filter_sublist)
theorem cf_srt {a : W} (h : (keys a).Nodup) (j : Int) : cf (srt a) j = cf a j := cf_perm (srt_perm h) j
theorem cf_nsrt {a : W} (h : (keys a).Nodup) (j : Int) : cf (nz (srt a)) j = cf a j := by rw [cf_nz, cf_srt h]
theorem cf_neg : ∀ (a : W) (j : Int), cf (a.map fun p => (p.1, -p.2)) j = - cf a j
  | [], _ => rfl
  | p :: a, j => by
    simp only [List.map_cons, cf, cf_neg a j]
    split <;> grind
/-- sizes of sums -/
theorem Lat.cf {L B : Nat} : ∀ {a : W}, (∀ p ∈ a, Lat L B p.2) → ∀ j, Lat L (a.length * B) (cf a j)
  | [], _, j => Lat.zero L _
  | p :: a, h, j => by
    have h1 := Lat.cf (fun q hq => h q (List.mem_cons_of_mem _ hq)) (a := a) j
    have h2 := h p List.mem_cons_self
    show Lat L ((a.length + 1) * B) ((if p.1 = j then p.2 else 0) + MA.cf a j)
    rw [Nat.add_mul, Nat.one_mul, Nat.add_comm]
    refine Lat.add ?_ h1
    split
    · exact h2
    · exact Lat.zero L _
theorem mem_cross {a b : W} {p : Int × Rat} (h : p ∈ cross a b) : ∃ x ∈ a, ∃ y ∈ b, p = (x.1 + y.1, x.2 * y.2) := by
  obtain ⟨x, hx, h1⟩ := List.mem_flatMap.mp h
  obtain ⟨y, hy, rfl⟩ := List.mem_map.mp h1
  exact ⟨x, hx, y, hy, rfl⟩
theorem len_cross : ∀ (a b : W), (cross a b).length = a.length * b.length
  | [], b => by simp [cross]
  | p :: a, b => by
    unfold cross
    rw [List.flatMap_cons, List.length_append, List.length_map]
    have := len_cross a b
    unfold cross at this
    rw [this, List.length_cons, Nat.add_mul, Nat.one_mul, Nat.add_comm]
end MA
set_option Elab.async false
set_option linter.all false
set_option maxRecDepth 100000
set_option maxHeartbeats 1000000
/-! MB: the evaluators of fractions. -/
namespace MB
open PySem PySem.Spec PyProof.Rows L2 PP MA G24
/-! ### comparisons of numbers -/
theorem rd_int (st : Store) (a : Int) : rdP st (.int a) = some (.int a) := rfl
theorem empD_i (st : Store) (a : Int) (e : D) : empD st (.int a) e = none := rfl
theorem eqX_ii (a b : Int) (st : Store) : eqX (.int a) (.int b) st = some (.bl (decide (a = b)), st) := by
  unfold eqX eqD
  rw [empD_i]
  simp only [rd_int, PyData.eqv]
  rfl
theorem neX_ii (a b : Int) (st : Store) : neX (.int a) (.int b) st = some (.bl (decide (a ≠ b)), st) := by
  unfold neX neD
  rw [empD_i]
  simp only [rd_int, PyData.eqv]
  congr 3
  by_cases h : a = b <;> simp [h]
theorem ord_ii (a b : Int) : ordOk (.int a) (.int b) = true := by
  unfold ordOk
  simp [PySem.W.alike]
theorem ltD_ii (a b : Int) (st : Store) : ltD (.int a) (.int b) st = some (.bl (decide (a < b)), st) := by
  unfold ltD
  simp only [rd_int, ord_ii, PySem.W.dataLt_int, if_true]
theorem gtD_ii (a b : Int) (st : Store) : gtD (.int a) (.int b) st = some (.bl (decide (b < a)), st) := by
  unfold gtD
  simp only [rd_int, ord_ii, PySem.W.dataLt_int, if_true]
theorem geD_ii (a b : Int) (st : Store) : geD (.int a) (.int b) st = some (.bl (!decide (a < b)), st) := by
  unfold geD
  simp only [rd_int, ord_ii, PySem.W.dataLt_int, if_true]
/-! ### sizes -/
/-- a number of at most n binary digits -/
def Bs (n : Nat) (i : Int) : Prop := i.natAbs < 2 ^ n
theorem Bs.mono {n m : Nat} {i : Int} (h : Bs n i) (k : n ≤ m) : Bs m i := Nat.lt_of_lt_of_le h (Nat.pow_le_pow_right (by omega) k)
theorem Bs.mul {n m : Nat} {i j : Int} (h : Bs n i) (k : Bs m j) : Bs (n + m) (i * j) := by
  unfold Bs at *
  rw [Int.natAbs_mul, Nat.pow_add]
  exact Nat.mul_lt_mul_of_lt_of_lt h k
theorem Bs.add {n : Nat} {i j : Int} (h : Bs n i) (k : Bs n j) : Bs (n + 1) (i + j) := by
  unfold Bs at *
  have := Int.natAbs_add_le i j
  rw [Nat.pow_succ]
  omega
theorem Bs.log {n : Nat} {i : Int} (h : Bs n i) (k : 0 < n) : i.natAbs.log2 < n := by
  by_cases z : i.natAbs = 0
  · rw [z]; simpa using k
  · exact (Nat.log2_lt z).mpr h
theorem Bs.small {i : Int} (h : Bs 9000 i) : smallI i = true := decide_eq_true (by have := h.log (by omega); omega)
theorem mulD_ii {a b : Int} (h : Bs 9000 a) (k : Bs 9000 b) (st : Store) : mulD (.int a) (.int b) st = some (.int (a * b), st) := by
  unfold mulD
  simp only [h.small, k.small, Bool.and_self, if_true]
theorem floorD_ii {a b : Int} (hb : b ≠ 0) (h : Bs 9000 b) (st : Store) : floorD (.int a) (.int b) st = some (.int (a.fdiv b), st) := by
  unfold floorD
  simp only
  rw [if_pos ⟨hb, h.log (by omega)⟩]
theorem modD_ii {a b : Int} (hb : b ≠ 0) (st : Store) : modD (.int a) (.int b) st = some (.int (a.fmod b), st) := by
  unfold modD
  simp only
  rw [if_pos hb]
/-! ### fractions -/
abbrev fr (q : Rat) : D := .tup false [.int q.num, .int q.den]
/-- what may be multiplied and shown -/
structure Ok (q : Rat) : Prop where
  num : Bs 1900 q.num
  den : Bs 1900 q.den
theorem shr_bs {t b : Int} (h : b ≠ 0) (k : Bs 9000 b) : Bs 9000 (shr t b) := Nat.lt_of_le_of_lt (shr_le h) k
/-- the greatest common part, as the loop finds it -/
theorem gcd_loop : ∀ (k a b : Nat), b < 2 ^ k → ∀ (m : Nat) (st : Store), 2 * k + 1 < m →
    whileE (evTB (ev2 neX (evVar 1) (evC (.int 0)))) (sPar 0 1 (evCons (evVar 1) (evCons (ev2 modD (evVar 0) (evVar 1)) evNil))) m [some (.int a), some (.int b)] st = .fl (.nx [some (.int (Nat.gcd a b : Nat)), some (.int 0)]) st := by
  have stop : ∀ (a m : Nat) (st : Store), 0 < m → whileE (evTB (ev2 neX (evVar 1) (evC (.int 0)))) (sPar 0 1 (evCons (evVar 1) (evCons (ev2 modD (evVar 0) (evVar 1)) evNil))) m [some (.int a), some (.int 0)] st = .fl (.nx [some (.int a), some (.int 0)]) st := fun a m st hm => by
    obtain ⟨m, rfl⟩ : ∃ j, m = j + 1 := ⟨m - 1, by omega⟩
    unfold whileE
    simp [evTB, ev2, evVar, evC, Res.bind, neX_ii, Res.ofOpt, asB, ofE]
  have go : ∀ (a b m : Nat) (st : Store), 0 < b → whileE (evTB (ev2 neX (evVar 1) (evC (.int 0)))) (sPar 0 1 (evCons (evVar 1) (evCons (ev2 modD (evVar 0) (evVar 1)) evNil))) (m + 1) [some (.int a), some (.int b)] st = whileE (evTB (ev2 neX (evVar 1) (evC (.int 0)))) (sPar 0 1 (evCons (evVar 1) (evCons (ev2 modD (evVar 0) (evVar 1)) evNil))) m [some (.int b), some (.int (a % b : Nat))] st := fun a b m st hb => by
    have b0 : (b : Int) ≠ 0 := by omega
    have e : Int.fmod (a : Int) (b : Int) = ((a % b : Nat) : Int) := by rw [Int.fmod_eq_emod_of_nonneg _ (by omega)]; rfl
    conv => lhs; unfold whileE
    simp [evTB, ev2, evVar, evC, Res.bind, neX_ii, Res.ofOpt, asB, ofE, sPar, evCons, evNil, modD_ii b0, e, Nat.pos_iff_ne_zero.mp hb]
  intro k
  induction k with
  | zero =>
    intro a b hb m st hm
    have : b = 0 := by simpa using hb
    subst this
    rw [Nat.gcd_zero_right]
    exact stop a m st (by omega)
  | succ k ih =>
    intro a b hb m st hm
    by_cases b0 : b = 0
    · subst b0
      rw [Nat.gcd_zero_right]
      exact stop a m st (by omega)
    · obtain ⟨m, rfl⟩ : ∃ j, m = j + 2 := ⟨m - 2, by omega⟩
      rw [go a b (m + 1) st (by omega)]
      have eg : Nat.gcd a b = Nat.gcd b (a % b) := by rw [Nat.gcd_comm a b, Nat.gcd_rec b a, Nat.gcd_comm]
      by_cases r0 : a % b = 0
      · rw [eg, r0, Nat.gcd_zero_right]
        exact stop b (m + 1) st (by omega)
      · rw [go b (a % b) m st (by omega)]
        have eg2 : Nat.gcd b (a % b) = Nat.gcd (a % b) (b % (a % b)) := by rw [Nat.gcd_comm b, Nat.gcd_rec (a % b) b, Nat.gcd_comm]
        rw [eg, eg2]
        refine ih (a % b) (b % (a % b)) ?_ m st (by omega)
        have h1 : a % b < b := Nat.mod_lt _ (by omega)
        have h2 : b % (a % b) < a % b := Nat.mod_lt _ (by omega)
        have h3 : b % (a % b) + (a % b) ≤ b := by
          have := Nat.div_add_mod b (a % b)
          have d1 : 1 ≤ b / (a % b) := (Nat.one_le_div_iff (by omega)).mpr (by omega)
          have : (a % b) * 1 ≤ (a % b) * (b / (a % b)) := Nat.mul_le_mul_left _ d1
          omega
        rw [Nat.pow_succ] at hb
        omega
theorem law_gcd {t b : Int} (h : Bs 9000 b) (st : Store) : g__law_gcd [.int t, .int b] st = .ok (.int (Nat.gcd t.natAbs b.natAbs : Nat)) st := by
  have ea : ∀ i : Int, (if i < 0 then -i else i) = ((i.natAbs : Nat) : Int) := fun i => by split <;> omega
  have hw := gcd_loop 9000 t.natAbs b.natAbs h fuelW st (by unfold fuelW; omega)
  unfold g__law_gcd b__law_gcd runS startD
  simp only [sSeq, sPar, evCons, evNil, evL, evVar, Res.bind, absD, Res.ofOpt, ofE, ea, List.map_cons, List.map_nil, List.length_cons, List.length_nil, List.replicate_zero, List.append_nil, Nat.sub_self, List.getElem?_cons_zero, List.getElem?_cons_succ, List.set_cons_zero, List.set_cons_succ, Nat.zero_add, sWhile]
  rw [hw]
  simp [sRet, ofE, evVar]
theorem shr_def (t b : Int) : shr t b = if b > 0 then ((Nat.gcd t.natAbs b.natAbs : Nat) : Int) else -((Nat.gcd t.natAbs b.natAbs : Nat) : Int) := rfl
theorem law_part {t b : Int} (hb : b ≠ 0) (h : Bs 9000 b) (st : Store) : g__law_part [.int t, .int b] st = .ok (fr (Rat.divInt t b)) st := by
  have hs := shr_ne (t := t) hb
  have hz := shr_bs (t := t) hb h
  have hl : 2 ≤ sizeLine := by decide
  rw [← show D.tup false [.int (t.fdiv (shr t b)), .int (b.fdiv (shr t b))] = fr (Rat.divInt t b) by rw [part_num hb, part_den hb]]
  have es : (if (0 : Int) < b then D.int ((Nat.gcd t.natAbs b.natAbs : Nat) : Int) else D.int (-((Nat.gcd t.natAbs b.natAbs : Nat) : Int))) = .int (shr t b) := by
    unfold shr; split <;> rfl
  unfold g__law_part b__law_part runS startD
  by_cases c : 0 < b
  · have es : shr t b = ((Nat.gcd t.natAbs b.natAbs : Nat) : Int) := by unfold shr; rw [if_pos c]
    rw [es] at hs hz ⊢
    simp [sSeq, sSet, sRet, ofE, evCall, evCons, evNil, evVar, Res.bind, law_gcd h, evIf, evTB, ev2, evC, gtD_ii, Res.ofOpt, asB, evL, mkTup, floorD_ii hs hz, c, hl]
  · have es : shr t b = -((Nat.gcd t.natAbs b.natAbs : Nat) : Int) := by unfold shr; rw [if_neg c]
    rw [es] at hs hz ⊢
    simp [sSeq, sSet, sRet, ofE, evCall, evCons, evNil, evVar, Res.bind, law_gcd h, evIf, evTB, ev2, ev1, negD, evC, gtD_ii, Res.ofOpt, asB, evL, mkTup, floorD_ii hs hz, c, hl]
theorem fraction_of {t b : Int} (hb : b ≠ 0) (h : Bs 9000 b) (st : Store) : g_fraction_of [.int t, .int b] st = .ok (fr (Rat.divInt t b)) st := by
  have hs := shr_ne (t := t) hb
  have hz := shr_bs (t := t) hb h
  have hl : 2 ≤ sizeLine := by decide
  rw [← show D.tup false [.int (t.fdiv (shr t b)), .int (b.fdiv (shr t b))] = fr (Rat.divInt t b) by rw [part_num hb, part_den hb]]
  unfold g_fraction_of b_fraction_of runS startD
  by_cases c : 0 < b
  · have es : shr t b = ((Nat.gcd t.natAbs b.natAbs : Nat) : Int) := by unfold shr; rw [if_pos c]
    rw [es] at hs hz ⊢
    simp [sSeq, sSet, sRet, ofE, evCons, evNil, evVar, Res.bind, gcdD, evIf, evTB, ev2, evC, gtD_ii, Res.ofOpt, asB, evL, mkTup, floorD_ii hs hz, c, hl]
  · have es : shr t b = -((Nat.gcd t.natAbs b.natAbs : Nat) : Int) := by unfold shr; rw [if_neg c]
    rw [es] at hs hz ⊢
    simp [sSeq, sSet, sRet, ofE, evCons, evNil, evVar, Res.bind, gcdD, evIf, evTB, ev2, ev1, negD, evC, gtD_ii, Res.ofOpt, asB, evL, mkTup, floorD_ii hs hz, c, hl]
theorem ix0 (b : Bool) (x : D) (r : List D) (st : Store) : subscD (.tup b (x :: r)) (.int 0) st = some (x, st) := by
  unfold subscD ixD
  simp [L2.atI, L2.ixN]
theorem ix1 (b : Bool) (x y : D) (r : List D) (st : Store) : subscD (.tup b (x :: y :: r)) (.int 1) st = some (y, st) := by
  unfold subscD ixD
  have : (1 : Int) < (r.length : Int) + 1 + 1 := by omega
  simp [L2.atI, L2.ixN, this]
theorem ix2 (b : Bool) (x y z : D) (r : List D) (st : Store) : subscD (.tup b (x :: y :: z :: r)) (.int 2) st = some (z, st) := by
  unfold subscD ixD
  have : (2 : Int) < (r.length : Int) + 1 + 1 + 1 := by omega
  simp [L2.atI, L2.ixN, this]
theorem addD_ii (a b : Int) (st : Store) : addD (.int a) (.int b) st = some (.int (a + b), st) := rfl
theorem subD_ii (a b : Int) (st : Store) : subD (.int a) (.int b) st = some (.int (a - b), st) := rfl
section
variable {p q : Rat} (hp : Ok p) (hq : Ok q)
theorem Ok.k1 {p : Rat} (h : Ok p) : Bs 9000 p.num := h.num.mono (by omega)
theorem Ok.k2 {p : Rat} (h : Ok p) : Bs 9000 (p.den : Int) := h.den.mono (by omega)
theorem den_mul_ne (p q : Rat) : (p.den : Int) * (q.den : Int) ≠ 0 := Int.mul_ne_zero (den_ne p) (den_ne q)
include hp hq
theorem den_mul_bs : Bs 9000 ((p.den : Int) * (q.den : Int)) := (hp.den.mul hq.den).mono (by omega)
theorem law_add (st : Store) : g__law_add [fr p, fr q] st = .ok (fr (p + q)) st := by
  unfold g__law_add b__law_add runS startD
  simp [sRet, ofE, evCall, evCons, evNil, evVar, Res.bind, ev2, evC, ix0, ix1, mulD_ii hp.k1 hq.k2, mulD_ii hq.k1 hp.k2, mulD_ii hp.k2 hq.k2, Res.ofOpt, addD_ii, law_part (den_mul_ne p q) (den_mul_bs hp hq), add_parts]
theorem law_by (st : Store) : g__law_by [fr p, fr q] st = .ok (fr (p * q)) st := by
  unfold g__law_by b__law_by runS startD
  simp [sRet, ofE, evCall, evCons, evNil, evVar, Res.bind, ev2, evC, ix0, ix1, mulD_ii hp.k1 hq.k1, mulD_ii hp.k2 hq.k2, Res.ofOpt, law_part (den_mul_ne p q) (den_mul_bs hp hq), mul_parts]
theorem added (st : Store) : g_added [fr p, fr q] st = .ok (fr (p + q)) st := by
  unfold g_added b_added runS startD
  simp [sRet, ofE, evCall, evCons, evNil, evVar, Res.bind, ev2, evC, ix0, ix1, mulD_ii hp.k1 hq.k2, mulD_ii hq.k1 hp.k2, mulD_ii hp.k2 hq.k2, Res.ofOpt, addD_ii, fraction_of (den_mul_ne p q) (den_mul_bs hp hq), add_parts]
theorem over_bs (q0 : q ≠ 0) : (p.den : Int) * q.num ≠ 0 ∧ Bs 9000 ((p.den : Int) * q.num) := ⟨Int.mul_ne_zero (den_ne p) (fun z => q0 (Rat.num_eq_zero.mp z)), (hp.den.mul hq.num).mono (by omega)⟩
theorem law_over (q0 : q ≠ 0) (st : Store) : g__law_over [fr p, fr q] st = .ok (fr (p / q)) st := by
  unfold g__law_over b__law_over runS startD
  simp [sRet, ofE, evCall, evCons, evNil, evVar, Res.bind, ev2, evC, ix0, ix1, mulD_ii hp.k1 hq.k2, mulD_ii hp.k2 hq.k1, Res.ofOpt, law_part (over_bs hp hq q0).1 (over_bs hp hq q0).2, div_parts]
theorem divided (q0 : q ≠ 0) (st : Store) : g_divided [fr p, fr q] st = .ok (fr (p / q)) st := by
  unfold g_divided b_divided runS startD
  simp [sRet, ofE, evCall, evCons, evNil, evVar, Res.bind, ev2, evC, ix0, ix1, mulD_ii hp.k1 hq.k2, mulD_ii hp.k2 hq.k1, Res.ofOpt, fraction_of (over_bs hp hq q0).1 (over_bs hp hq q0).2, div_parts]
end
end MB
set_option Elab.async false
set_option linter.all false
set_option maxRecDepth 100000
set_option maxHeartbeats 1000000
/-! MC: dicts and tuples of worths. -/
namespace MC
open PySem PySem.Spec PyProof.Rows L2 PP MA MB G24
abbrev kv (a : W) : List (D × D) := a.map fun p => (.int p.1, fr p.2)
abbrev tm (p : Int × Rat) : D := .tup false [.int p.1, .int p.2.num, .int p.2.den]
abbrev tms (a : W) : D := .tup false (a.map tm)
theorem keq_ii (a b : Int) : keq (.int a) (.int b) = decide (a = b) := by
  show decide ((Sum.inl (Sum.inl a) : Sum Key (List Key)) = Sum.inl (Sum.inl b)) = _
  simp
theorem dget_kv : ∀ {a : W} (k : Int), (keys a).Nodup → dget (kv a) (.int k) = if k ∈ keys a then some (fr (cf a k)) else none
  | [], k, _ => rfl
  | p :: a, k, h => by
    obtain ⟨h1, h2⟩ := List.nodup_cons.mp h
    have ih := dget_kv (a := a) k h2
    unfold dget at ih ⊢
    unfold kv at ih ⊢
    rw [List.map_cons, List.find?_cons]
    simp only [keq_ii]
    by_cases e : p.1 = k
    · have m : k ∈ keys (p :: a) := by rw [← e]; exact List.mem_cons_self
      rw [if_pos m]
      have c : cf (p :: a) k = p.2 := by rw [← e]; exact cf_mem h List.mem_cons_self
      simp [e, c]
    · have c : cf (p :: a) k = cf a k := by simp [cf, e, Rat.zero_add]
      rw [c]
      simp only [e, decide_false]
      rw [ih]
      have : (k ∈ keys (p :: a)) ↔ k ∈ keys a := by
        simp only [keys, List.map_cons, List.mem_cons]
        exact ⟨fun z => z.resolve_left (fun y => e y.symm), .inr⟩
      simp only [this]
theorem dput_kv (a : W) (k : Int) (v : Rat) : dput (kv a) (.int k) (fr v) = kv (put a k v) := by
  have e1 : ((kv a).any fun p => keq p.1 (.int k)) = a.any fun p => p.1 == k := by
    unfold kv
    rw [List.any_map]
    congr 1
    funext p
    simp only [Function.comp, keq_ii]
    rfl
  unfold dput put
  rw [e1]
  split
  · simp only [kv, List.map_map]
    refine List.map_congr_left fun p _ => ?_
    simp only [Function.comp, keq_ii]
    by_cases e : p.1 = k <;> simp [e]
  · simp [kv]
theorem isK_i (k : Int) : isK (.int k) = true := rfl
theorem look_kv {st : Store} {l : Nat} {lk : Bool} {a : W} (e : st[l]? = some (lk, .dct (kv a))) (h : a = [] → lk = false) (nd : (keys a).Nodup) (k : Int) : lookD st (.ref l) (.int k) = some (if k ∈ keys a then some (fr (cf a k)) else none) := by
  unfold lookD
  rw [← dget_kv k nd]
  cases a with
  | nil =>
    have := h rfl
    subst this
    simp only [kv, List.map_nil] at e ⊢
    simp [e, isK_i, dget]
  | cons p a => simp [kv, e, isK_i]
theorem ixD_dct {st : Store} {l : Nat} {lk : Bool} {kvs : List (D × D)} (e : st[l]? = some (lk, .dct kvs)) (k : D) : ixD (.ref l) k st = none := by
  unfold ixD
  cases k <;> simp [e]
theorem get_kv {st : Store} {l : Nat} {lk : Bool} {a : W} (e : st[l]? = some (lk, .dct (kv a))) (nd : (keys a).Nodup) {k : Int} (h : k ∈ keys a) : subscD (.ref l) (.int k) st = some (fr (cf a k), st) := by
  have h0 : a = [] → lk = false := fun z => by subst z; cases h
  unfold subscD
  rw [ixD_dct e]
  simp only [dgetD, look_kv e h0 nd, if_pos h]
theorem put_kv {st : Store} {l : Nat} {a : W} (e : st[l]? = some (false, .dct (kv a))) (k : Int) (v : Rat) (h : a.length < sizeLine) : putD (.ref l) (.int k) (fr v) st = some (st.set l (false, .dct (kv (put a k v)))) := by
  have h1 : lputD (.ref l) (.int k) (fr v) st = none := by
    unfold lputD
    simp [e]
  unfold putD
  rw [h1]
  simp only [dputD]
  rw [e]
  cases a with
  | nil => simp [kv, isK_i, put]
  | cons p a =>
    rw [← dput_kv]
    simp only [kv, List.map_cons, isK_i, Bool.and_self]
    rw [if_pos ⟨.inl trivial, by simpa using h⟩]
/-! ### the store's end -/
theorem at_end (S ex : Store) (c : Bool × Cell) : (S ++ c :: ex)[S.length]? = some c := by
  rw [List.getElem?_append_right (Nat.le_refl _), Nat.sub_self]; rfl
theorem set_end (S ex : Store) (c d : Bool × Cell) : (S ++ c :: ex).set S.length d = S ++ d :: ex := by
  rw [List.set_append_right _ _ (Nat.le_refl _), Nat.sub_self]; rfl
theorem add_end (S ex e2 : Store) (c : Bool × Cell) : S ++ c :: ex ++ e2 = S ++ c :: (ex ++ e2) := by simp
theorem Ext.end (S ex : Store) (c : Bool × Cell) : Ext S (S ++ c :: ex) := ⟨_, rfl⟩
/-! ### sorted -/
theorem optAll_some {α β : Type} (f : β → α) : ∀ l : List β, optAll (l.map fun x => some (f x)) = some (l.map f)
  | [] => rfl
  | x :: l => by
    show (optAll (l.map fun x => some (f x))).map _ = _
    rw [optAll_some f l]; rfl
theorem sorted_ints (st : Store) (ks : List Int) : sortedL st (ks.map D.int) = some ((ups ks).map D.int) := by
  have e : (ks.map D.int).map (rdP st) = ks.map fun x => some (PyData.int x) := by rw [List.map_map]; rfl
  have b : sortB (ks.map PyData.int) = true := by
    unfold sortB allAlike
    rw [Bool.and_eq_true]
    refine ⟨List.all_eq_true.mpr fun x hx => List.all_eq_true.mpr fun y hy => ?_, ?_⟩
    · obtain ⟨i, _, rfl⟩ := List.mem_map.mp hx
      obtain ⟨j, _, rfl⟩ := List.mem_map.mp hy
      simp [PySem.W.alike]
    · rw [Bool.or_eq_true]
      refine .inr (List.all_eq_true.mpr fun x hx => ?_)
      obtain ⟨i, _, rfl⟩ := List.mem_map.mp hx
      rfl
  unfold sortedL
  rw [e, optAll_some PyData.int]
  simp only
  rw [if_pos b]
  congr 1
  unfold ups
  refine (List.map_mergeSort fun i _ j _ => ?_).symm
  exact (congrFun (congrFun (PySem.W.dataLe_int (fun k : Int => k)) i) j).symm
theorem kv_keys (a : W) : (kv a).map (·.1) = (keys a).map D.int := by
  unfold kv keys
  rw [List.map_map, List.map_map]; rfl
theorem dctK_kv {st : Store} {l : Nat} {a : W} (e : st[l]? = some (false, .dct (kv a))) : dctK st (.ref l) = some (kv a) := by
  unfold dctK
  cases a with
  | nil => simp [kv] at e ⊢; simp [e]
  | cons p a => simp [kv] at e ⊢; simp [e, isK_i]
theorem sortedD_kv {st : Store} {l : Nat} {a : W} (e : st[l]? = some (false, .dct (kv a))) : sortedD [.ref l] st = some (.ref st.length, st ++ [(false, .lst ((ups (keys a)).map D.int))]) := by
  have h1 : lstD st (.ref l) = none := by unfold lstD; simp [e]
  unfold sortedD
  simp only [h1, dctK_kv e, kv_keys, sorted_ints, Option.bind_some, newL]
/-! ### walks over lists and tuples -/
/-- the value is walked as these items -/
def Walks (v : D) (S : Store) (ds : List D) : Prop := v = .tup false ds ∨ ∃ l lk, v = .ref l ∧ S[l]? = some (lk, .lst ds)
theorem Walks.src {v : D} {S : Store} {ds : List D} (h : Walks v S ds) {env : EnvD} {f : Ev D} (hf : ∀ s, f env s = .ok v s) : ∃ g, (∀ s, Ext S s → evSrc f env s = .ok g s) ∧ ∀ s i, Ext S s → g i s = some ds[i]? := by
  rcases h with rfl | ⟨l, lk, rfl, e⟩
  · exact ⟨srcS ds, fun s _ => by unfold evSrc; rw [hf]; rfl, fun _ _ _ => rfl⟩
  · refine ⟨srcL l, fun s x => ?_, fun s i x => ?_⟩
    · unfold evSrc
      rw [hf]
      simp only [Res.bind, srcD, x.get e]
      rfl
    · unfold srcL
      rw [x.get e]
theorem var_ok {env : EnvD} {i : Nat} {v : D} (h : env[i]? = some (some v)) (s : Store) : evVar i env s = .ok v s := by unfold evVar; rw [h]
/-! ### summed -/
/-- a term before it is brought to lowest terms -/
abbrev Raw := Int × Int × Int
abbrev rt (r : Raw) : D := .tup false [.int r.1, .int r.2.1, .int r.2.2]
abbrev rq (r : Raw) : Int × Rat := (r.1, Rat.divInt r.2.1 r.2.2)
theorem fr0 : D.tup false [.int 0, .int 1] = fr 0 := rfl
theorem one_le : 1 ≤ sizeLine := by decide
theorem two_le : 2 ≤ sizeLine := by decide
theorem three_le : 3 ≤ sizeLine := by decide
theorem cf_or (a : W) (k : Int) : (if k ∈ keys a then some (fr (cf a k)) else none).getD (fr 0) = fr (cf a k) := by
  split
  · rfl
  · rename_i h
    rw [cf_notin h]; rfl
theorem take_snoc {α : Type} (l : List α) (i : Nat) {x : α} (h : l[i]? = some x) : l.take (i + 1) = l.take i ++ [x] := by
  obtain ⟨hl, e⟩ := List.getElem?_eq_some_iff.mp h
  rw [List.take_succ_eq_append_getElem hl, e]
theorem Rpu.of_eq {α : Type} {r : Store → Res α} {st : Store} {a : α} (h : ∀ s, Ext st s → r s = .ok a s) : Rpu r st a := fun S x => ⟨[], by rw [h S x, List.append_nil]⟩
def pz (a : W) : D → Bool
  | .int k => decide (cf a k ≠ 0)
  | _ => false
def kz (a : W) : D → D
  | .int k => tm (k, cf a k)
  | d => d
theorem nsrt_map (a : W) : ((((ups (keys a)).map D.int).filter (pz a)).map (kz a)) = (nz (srt a)).map tm := by
  unfold nz srt
  rw [List.filter_map, List.filter_map, List.map_map, List.map_map]
  rfl
theorem num_dec (q : Rat) : decide (q.num ≠ 0) = decide (q ≠ 0) := by
  have := Rat.num_eq_zero (q := q)
  simp only [ne_eq, this]
/-- a dict as a worth: orders rising, noughts left out -/
theorem worth_out {v : D} {l : Nat} {e2 e3 e4 : Option D} {S1 : Store} {a : W} (h : S1[l]? = some (false, .dct (kv a))) (nd : (keys a).Nodup) (hz : a.length < sizeLine) :
    Pr (evL tupleD (evCons (evLc (evSrc (evL sortedD (evCons (evVar 1) evNil))) (tgN 2) [2] (evTB (ev2 neX (ev2 subscD (ev2 subscD (evVar 1) (evVar 2)) (evC (.int 0))) (evC (.int 0)))) (ev2 addD (evL mkTup (evCons (evVar 2) evNil)) (ev2 subscD (evVar 1) (evVar 2)))) evNil)) [some v, some (.ref l), e2, e3, e4] S1 (tms (nz (srt a))) := by
  refine pr_lcL ((ups (keys a)).map D.int) (pz a) (kz a) ?hz ?hs ?hb ?ho
  case hz => 
    rw [List.length_map, (ups_perm _).length_eq, List.length_map]
    exact hz
  case hs =>
    intro S x
    refine ⟨srcL S.length, [(false, .lst ((ups (keys a)).map D.int))], ?_, fun S' i x' => ?_⟩
    · unfold evSrc evL evCons evNil
      simp only [evVar, Res.bind, List.getElem?_cons_succ, List.getElem?_cons_zero, sortedD_kv (x.get h), Res.ofOpt, srcD, at_end]
      rfl
    · unfold srcL
      rw [x'.get (at_end S [] _)]
  case hb =>
    intro d hd
    obtain ⟨k, hk, rfl⟩ := List.mem_map.mp hd
    have hk' : k ∈ keys a := (ups_perm _).mem_iff.mp hk
    refine ⟨[some v, some (.ref l), some (.int k), e3, e4], rfl, Rpu.of_eq fun s x => ?_, fun _ => Rpu.of_eq fun s x => ?_⟩
    · have g := get_kv (x.get h) nd hk'
      unfold evTB ev2 evC
      simp only [evVar, Res.bind, List.getElem?_cons_succ, List.getElem?_cons_zero, g, Res.ofOpt, ix0, neX_ii, asB, Option.map_some, num_dec, pz]
    · have g := get_kv (x.get h) nd hk'
      unfold ev2 evL evCons evNil
      simp only [evVar, Res.bind, List.getElem?_cons_succ, List.getElem?_cons_zero, g, Res.ofOpt, mkTup, List.length_cons, List.length_nil, one_le, if_true, Nat.zero_add, Nat.reduceAdd, addD, three_le, List.cons_append, List.nil_append, kz, Bool.or_self]
  case ho =>
    intro S l' x e
    rw [nsrt_map] at e
    unfold tupleD
    simp only [e]
theorem summed {rs : List Raw} {v : D} {S : Store} (hw : Walks v S (rs.map rt)) (hn : rs.length < sizeLine) (hb : ∀ r ∈ rs, r.2.2 ≠ 0 ∧ Bs 9000 r.2.2 ∧ Ok (rq r).2) (hc : ∀ i j, Ok (cf ((rs.map rq).take i) j)) :
    ∃ ex, g_summed [v] S = .ok (tms (nz (srt (sums [] (rs.map rq))))) (S ++ ex) := by
  have nd : ∀ i, (keys (sums [] ((rs.map rq).take i))).Nodup := fun i => nodup_sums _ (a := []) List.nodup_nil
  have cs : ∀ i j, cf (sums [] ((rs.map rq).take i)) j = cf ((rs.map rq).take i) j := fun i j => by rw [cf_sums _ (a := []) List.nodup_nil]; simp [cf, Rat.zero_add]
  obtain ⟨g, g1, g2⟩ := hw.src (env := [some v, some (.ref S.length), none, none, none]) (f := evVar 0) (fun s => rfl)
  obtain ⟨e, s, q, e2, e3, e4, ex, rfl, rfl⟩ := sFor_inv (src := evSrc (evVar 0)) (tg := tgT 3 (tgsCons (tgN 2) (tgsCons (tgN 3) (tgsCons (tgN 4) tgsNil)))) (body := (sSub putD (evVar 1) (evVar 2) (evCall g_added (evCons (evGet2 (evVar 1) (evVar 2) (evL mkTup (evCons (evC (.int 0)) (evCons (evC (.int 1)) evNil)))) (evCons (evCall g_fraction_of (evCons (evVar 3) (evCons (evVar 4) evNil))) evNil)))))
    (env := [some v, some (.ref S.length), none, none, none]) (st := S ++ [(false, .dct [])]) (st1 := S ++ [(false, .dct [])]) (g := g) (rs.map rt)
    (fun i env st => ∃ e2 e3 e4 ex, env = [some v, some (.ref S.length), e2, e3, e4] ∧ st = S ++ (false, .dct (kv (sums [] ((rs.map rq).take i)))) :: ex) (by simpa using hn) (g1 _ ⟨_, rfl⟩)
    ⟨none, none, none, [], rfl, by simp [sums, kv]⟩ (fun i env st h => by
      obtain ⟨_, _, _, ex, _, rfl⟩ := h
      exact g2 _ _ (Ext.end _ _ _)) (fun i d env st hd h => by
      obtain ⟨e2, e3, e4, ex, rfl, rfl⟩ := h
      rw [List.getElem?_map] at hd
      obtain ⟨r, hr, rfl⟩ := Option.map_eq_some_iff.mp hd
      have hr' : (rs.map rq)[i]? = some (rq r) := by rw [List.getElem?_map, hr]; rfl
      obtain ⟨b0, b1, b2⟩ := hb r (List.mem_of_getElem? hr)
      have lk := look_kv (at_end S ex (false, .dct (kv (sums [] ((rs.map rq).take i))))) (fun _ => rfl) (nd i) r.1
      have hl : (sums [] ((rs.map rq).take i)).length < sizeLine := by
        have := len_sums ((rs.map rq).take i) []
        simp only [List.length_nil, List.length_take, List.length_map] at this
        omega
      have o1 : Ok (cf (sums [] ((rs.map rq).take i)) r.1) := by rw [cs]; exact hc i r.1
      refine ⟨[some v, some (.ref S.length), some (.int r.1), some (.int r.2.1), some (.int r.2.2)], rfl, [some v, some (.ref S.length), some (.int r.1), some (.int r.2.1), some (.int r.2.2)], _, .inl ?_, some (.int r.1), some (.int r.2.1), some (.int r.2.2), ex, rfl, rfl⟩
      have pk := put_kv (at_end S ex (false, .dct (kv (sums [] ((rs.map rq).take i))))) r.1 (cf (sums [] ((rs.map rq).take i)) r.1 + (rq r).2) hl
      have isd : isDct (.ref S.length) (S ++ (false, Cell.dct (kv (sums [] ((rs.map rq).take i)))) :: ex) = true := by unfold isDct; simp only [at_end]
      have e0 : (if r.1 ∈ keys (sums [] ((rs.map rq).take i)) then some (fr (cf (sums [] ((rs.map rq).take i)) r.1)) else none).getD (D.tup false [.int 0, .int 1]) = fr (cf (sums [] ((rs.map rq).take i)) r.1) := cf_or _ _
      have fo := MB.fraction_of (t := r.2.1) b0 b1 (S ++ (false, Cell.dct (kv (sums [] ((rs.map rq).take i)))) :: ex)
      have ad := MB.added o1 b2 (S ++ (false, Cell.dct (kv (sums [] ((rs.map rq).take i)))) :: ex)
      have fin : sums [] ((rs.map rq).take (i + 1)) = put (sums [] ((rs.map rq).take i)) r.1 (cf (sums [] ((rs.map rq).take i)) r.1 + (rq r).2) := by
        rw [take_snoc _ _ hr', sums_app]; rfl
      rw [fin]
      unfold sSub evCall evGet2 evL evCons evNil evC
      simp only [evVar, Res.bind, ofE, List.getElem?_cons_succ, List.getElem?_cons_zero, isd, if_true, mkTup, List.length_cons, List.length_nil, two_le, Nat.zero_add, Nat.reduceAdd, Res.ofOpt, lk, e0, fo, ad, pk, set_end])
  rw [List.length_map, List.take_of_length_le (by simp)] at q
  have nd1 : (keys (sums [] (rs.map rq))).Nodup := nodup_sums _ (a := []) List.nodup_nil
  have hz1 : (sums [] (rs.map rq)).length < sizeLine := by
    have := len_sums (rs.map rq) []
    simp only [List.length_nil, List.length_map] at this
    omega
  generalize sums [] (rs.map rq) = a at q nd1 hz1 ⊢
  obtain ⟨ex2, h2⟩ := (worth_out (v := v) (e2 := e2) (e3 := e3) (e4 := e4) (S1 := S ++ (false, .dct (kv a)) :: ex) (at_end _ _ _) nd1 hz1).here
  refine ⟨(false, .dct (kv a)) :: ex ++ ex2, ?_⟩
  rw [← List.append_assoc]
  unfold g_summed b_summed runS startD
  simp only [sSeq, sSet, mkDct, ofE, List.map_cons, List.map_nil, List.length_cons, List.length_nil, Nat.zero_add, Nat.reduceSub, List.replicate_succ, List.replicate_zero, List.cons_append, List.nil_append, List.set_cons_succ, List.set_cons_zero, q, sRet, h2]
end MC
set_option Elab.async false
set_option linter.all false
set_option maxRecDepth 100000
set_option maxHeartbeats 1000000
/-! MD: the program's products, sums, negatives. -/
namespace MD
open PySem PySem.Spec PyProof.Rows L2 PP MA MB MC G24
/-! ### two clauses, items that stand still -/
theorem lcIn_run {tg : Tgt} {env : EnvD} {te : Ev D} (S : Store) (ds : List D) (k : D → D) (hz : ∀ d ∈ ds, ∃ env1, tg d env = some env1 ∧ ∀ s, te env1 s = .ok (k d) s) :
    ∀ (n i : Nat) (acc : List D) (ex : Store), i + n = ds.length → acc.length + n < sizeLine → ∀ m, n < m → lcIn (srcS ds) tg env tyes te S.length m i (S ++ (false, .lst acc) :: ex) = some (S ++ (false, .lst (acc ++ (ds.drop i).map k)) :: ex)
  | 0, i, acc, ex, hi, ha, m, hm => by
    obtain ⟨m, rfl⟩ : ∃ j, m = j + 1 := ⟨m - 1, by omega⟩
    unfold lcIn srcS
    rw [List.getElem?_eq_none (by omega), List.drop_of_length_le (by omega)]
    simp
  | n + 1, i, acc, ex, hi, ha, m, hm => by
    obtain ⟨m, rfl⟩ : ∃ j, m = j + 1 := ⟨m - 1, by omega⟩
    have hl : i < ds.length := by omega
    obtain ⟨env1, e1, e2⟩ := hz ds[i] (List.getElem_mem hl)
    have drp : ds.drop i = ds[i] :: ds.drop (i + 1) := List.drop_eq_getElem_cons hl
    unfold lcIn
    simp only [srcS, List.getElem?_eq_getElem hl, e1, tyes, if_true, e2]
    rw [pushAt_mid _ _ _ _ (by omega)]
    simp only
    refine (lcIn_run S ds k hz n (i + 1) (acc ++ [k ds[i]]) ex (by omega) (by simp; omega) m (by omega)).trans ?_
    rw [drp, List.map_cons, List.append_assoc]
    rfl
theorem lcOut_run {tg tg1 : Tgt} {env : EnvD} {src1 : Ev Src} {vs1 : List Nat} {te : Ev D} (S : Store) (ds es : List D) (k : D → D → D) (he : es.length < sizeLine)
    (hz : ∀ d ∈ ds, ∃ env1, tg d env = some env1 ∧ (∀ s, src1 env1 s = .ok (srcS es) s) ∧ ∀ e ∈ es, ∃ env2, tg1 e (wipeD env1 vs1) = some env2 ∧ ∀ s, te env2 s = .ok (k d e) s) :
    ∀ (n i : Nat) (acc : List D) (ex : Store), i + n = ds.length → acc.length + n * es.length < sizeLine → ∀ m, n < m → lcOut (srcS ds) tg env tyes src1 tg1 vs1 tyes te S.length m i (S ++ (false, .lst acc) :: ex) = .ok (.ref S.length) (S ++ (false, .lst (acc ++ (ds.drop i).flatMap fun d => es.map (k d))) :: ex)
  | 0, i, acc, ex, hi, ha, m, hm => by
    obtain ⟨m, rfl⟩ : ∃ j, m = j + 1 := ⟨m - 1, by omega⟩
    unfold lcOut
    simp only [srcS]
    rw [List.getElem?_eq_none (by omega), List.drop_of_length_le (by omega)]
    simp
  | n + 1, i, acc, ex, hi, ha, m, hm => by
    obtain ⟨m, rfl⟩ : ∃ j, m = j + 1 := ⟨m - 1, by omega⟩
    have hl : i < ds.length := by omega
    obtain ⟨env1, e1, e2, e3⟩ := hz ds[i] (List.getElem_mem hl)
    have drp : ds.drop i = ds[i] :: ds.drop (i + 1) := List.drop_eq_getElem_cons hl
    have hm1 : (n + 1) * es.length = n * es.length + es.length := by rw [Nat.add_mul, Nat.one_mul]
    unfold lcOut
    simp only [srcS, List.getElem?_eq_getElem hl, e1, tyes, if_true, e2]
    have q := lcIn_run S es (k ds[i]) e3 es.length 0 acc ex (by omega) (by omega) fuelF (by
      have : sizeLine ≤ 16777216 := by decide
      unfold fuelF; omega)
    rw [q]
    simp only
    refine (lcOut_run S ds es k he hz n (i + 1) (acc ++ (es.drop 0).map (k ds[i])) ex (by omega) (by simp; omega) m (by omega)).trans ?_
    rw [drp, List.flatMap_cons, List.append_assoc, List.drop_zero]
/-! ### worths with sizes -/
/-- a common bottom and a bound of the tops, and room for what is done with them -/
structure Sz (n L B : Nat) (a : W) : Prop where
  len : a.length ≤ n
  lat : ∀ p ∈ a, Lat L B p.2
  pos : 0 < L
theorem Sz.ok {n L B : Nat} {a : W} (h : Sz n L B a) (hL : L < 2 ^ 1900) (hB : B < 2 ^ 1900) {p : Int × Rat} (hp : p ∈ a) : Ok p.2 := by
  obtain ⟨h1, h2⟩ := (h.lat p hp).num h.pos
  exact ⟨Nat.lt_of_le_of_lt h1 hB, Nat.lt_of_le_of_lt (by simpa using h2) hL⟩
theorem Lat.ok {L B : Nat} {q : Rat} (h : Lat L B q) (h0 : 0 < L) (hL : L < 2 ^ 1900) (hB : B < 2 ^ 1900) : Ok q := by
  obtain ⟨h1, h2⟩ := h.num h0
  exact ⟨Nat.lt_of_le_of_lt h1 hB, Nat.lt_of_le_of_lt (by simpa using h2) hL⟩
theorem Sz.cf {n L B : Nat} {a : W} (h : Sz n L B a) (j : Int) : Lat L (n * B) (cf a j) := (Lat.cf h.lat j).le (Nat.mul_le_mul_right _ h.len)
theorem Sz.take {n L B : Nat} {a : W} (h : Sz n L B a) (i : Nat) : Sz n L B (a.take i) := ⟨by have := h.len; simp; omega, fun p hp => h.lat p (List.mem_of_mem_take hp), h.pos⟩
theorem Sz.cross {n L B m M C : Nat} {a b : W} (h : Sz n L B a) (k : Sz m M C b) : Sz (n * m) (L * M) (B * C) (cross a b) := by
  refine ⟨by rw [len_cross]; exact Nat.mul_le_mul h.len k.len, fun p hp => ?_, Nat.mul_pos h.pos k.pos⟩
  obtain ⟨x, hx, y, hy, rfl⟩ := mem_cross hp
  exact (h.lat x hx).mul (k.lat y hy)
theorem Sz.up {n L B : Nat} {a : W} (h : Sz n L B a) {c : Nat} (hc : 0 < c) : Sz n (L * c) (B * c) a := ⟨h.len, fun p hp => (h.lat p hp).up c, Nat.mul_pos h.pos hc⟩
theorem Sz.app {n L B m C : Nat} {a b : W} (h : Sz n L B a) (k : Sz m L C b) : Sz (n + m) L (B + C) (a ++ b) := by
  refine ⟨by have := h.len; have := k.len; simp; omega, fun p hp => ?_, h.pos⟩
  rcases List.mem_append.mp hp with z | z
  · exact (h.lat p z).le (by omega)
  · exact (k.lat p z).le (by omega)
/-- what a sum of terms gives -/
abbrev tot (ts : W) : W := nz (srt (sums [] ts))
theorem nodup_tot (ts : W) : (keys (sums [] ts)).Nodup := nodup_sums ts (a := []) List.nodup_nil
theorem cf_tot (ts : W) (j : Int) : cf (tot ts) j = cf ts j := by
  rw [cf_nsrt (nodup_tot ts), cf_sums ts (a := []) List.nodup_nil]
  simp [cf, Rat.zero_add]
theorem good_tot (ts : W) : Good (tot ts) := good_srt (nodup_tot ts)
theorem mem_tot {ts : W} {p : Int × Rat} (h : p ∈ tot ts) : p.2 = cf ts p.1 ∧ p.1 ∈ keys ts := by
  refine ⟨by rw [← cf_tot, cf_mem (good_tot ts).nodup h], ?_⟩
  have h1 : p.1 ∈ keys (srt (sums [] ts)) := List.mem_map_of_mem (List.mem_filter.mp h).1
  rw [keys_srt, (ups_perm _).mem_iff] at h1
  rcases keys_sums ts [] h1 with z | z
  · cases z
  · exact z
theorem len_tot (ts : W) : (tot ts).length ≤ ts.length := by
  have h1 : (tot ts).length ≤ (srt (sums [] ts)).length := List.length_filter_le _ _
  have h2 : (srt (sums [] ts)).length = (sums [] ts).length := by unfold srt; rw [List.length_map, (ups_perm _).length_eq, List.length_map]
  have h3 := len_sums ts []
  simp only [List.length_nil, Nat.zero_add] at h3
  omega
theorem Sz.tot {n L B : Nat} {ts : W} (h : Sz n L B ts) : Sz n L (n * B) (tot ts) := ⟨Nat.le_trans (len_tot ts) h.len, fun p hp => by
  rw [(mem_tot hp).1]; exact h.cf p.1, h.pos⟩
/-! ### product_of -/
def raw (a b : W) : List Raw := a.flatMap fun p => b.map fun r => (p.1 + r.1, p.2.num * r.2.num, (p.2.den : Int) * (r.2.den : Int))
theorem raw_rq (a b : W) : (raw a b).map rq = cross a b := by
  unfold raw cross
  rw [List.map_flatMap]
  congr 1
  funext p
  rw [List.map_map]
  refine List.map_congr_left fun r _ => ?_
  simp only [Function.comp, rq, mul_parts]
theorem mem_raw {a b : W} {r : Raw} (h : r ∈ raw a b) : ∃ x ∈ a, ∃ y ∈ b, r = (x.1 + y.1, x.2.num * y.2.num, (x.2.den : Int) * (y.2.den : Int)) := by
  obtain ⟨x, hx, h1⟩ := List.mem_flatMap.mp h
  obtain ⟨y, hy, rfl⟩ := List.mem_map.mp h1
  exact ⟨x, hx, y, hy, rfl⟩
theorem len_raw (a b : W) : (raw a b).length = a.length * b.length := by rw [← len_cross, ← raw_rq, List.length_map]
/-- the rooms that one product wants -/
structure Room2 (n L B m M C : Nat) : Prop where
  l : L < 2 ^ 1900
  b : B < 2 ^ 1900
  m' : M < 2 ^ 1900
  c : C < 2 ^ 1900
  lm : L * M < 2 ^ 1900
  bc : n * m * (B * C) < 2 ^ 1900
  ln : n < 1000
  mn : m < 1000
theorem szl : 16777216 ≤ sizeLine := by decide
def kr : D → D → D
  | .tup _ [.int k, .int t, .int b], .tup _ [.int j, .int u, .int c] => .tup false [.int (k + j), .int (t * u), .int (b * c)]
  | d, _ => d
theorem product_of {n L B m M C : Nat} {a b : W} (ha : Sz n L B a) (hb : Sz m M C b) (R : Room2 n L B m M C) (S : Store) : ∃ ex, g_product_of [tms a, tms b] S = .ok (tms (tot (cross a b))) (S ++ ex) := by
  have hoa : ∀ p ∈ a, Ok p.2 := fun p hp => ha.ok R.l R.b hp
  have hob : ∀ p ∈ b, Ok p.2 := fun p hp => hb.ok R.m' R.c hp
  have hla := ha.len
  have hlb := hb.len
  have hln := R.ln
  have hmn := R.mn
  have hs := szl
  have hab : a.length * b.length < 1000 * 1000 := Nat.lt_of_le_of_lt (Nat.mul_le_mul hla hlb) (Nat.mul_lt_mul_of_lt_of_lt hln hmn)
  have q := lcOut_run (tg := tgT 3 (tgsCons (tgN 2) (tgsCons (tgN 3) (tgsCons (tgN 4) tgsNil)))) (env := [some (tms a), some (tms b), none, none, none, none, none, none]) (src1 := evSrc (evVar 1)) (tg1 := tgT 3 (tgsCons (tgN 5) (tgsCons (tgN 6) (tgsCons (tgN 7) tgsNil)))) (vs1 := [5, 6, 7])
    (te := evL mkTup (evCons (ev2 addD (evVar 2) (evVar 5)) (evCons (ev2 mulD (evVar 3) (evVar 6)) (evCons (ev2 mulD (evVar 4) (evVar 7)) evNil)))) S (a.map tm) (b.map tm) kr (by simp; omega) (fun d hd => by
      obtain ⟨x, hx, rfl⟩ := List.mem_map.mp hd
      refine ⟨[some (tms a), some (tms b), some (.int x.1), some (.int x.2.num), some (.int x.2.den), none, none, none], rfl, fun s => rfl, fun e he => ?_⟩
      obtain ⟨y, hy, rfl⟩ := List.mem_map.mp he
      have o1 := hoa x hx
      have o2 := hob y hy
      refine ⟨[some (tms a), some (tms b), some (.int x.1), some (.int x.2.num), some (.int x.2.den), some (.int y.1), some (.int y.2.num), some (.int y.2.den)], rfl, fun s => ?_⟩
      unfold evL evCons evNil ev2
      simp only [evVar, Res.bind, List.getElem?_cons_succ, List.getElem?_cons_zero, Res.ofOpt, addD_ii, mulD_ii o1.k1 o2.k1, mulD_ii o1.k2 o2.k2, mkTup, List.length_cons, List.length_nil, three_le, if_true, Nat.zero_add, Nat.reduceAdd, kr]) (a.map tm).length 0 [] [] (by omega) (by simp; omega) fuelF (by
        unfold fuelF; simp; omega)
  have eraw : ((a.map tm).drop 0).flatMap (fun d => (b.map tm).map (kr d)) = (raw a b).map rt := by
    rw [List.drop_zero]
    unfold raw
    rw [List.flatMap_map, List.map_flatMap]
    congr 1
    funext p
    rw [List.map_map, List.map_map]
    rfl
  rw [eraw, List.nil_append] at q
  have sc := ha.cross hb
  obtain ⟨ex, h⟩ := summed (rs := raw a b) (v := .ref S.length) (S := S ++ [(false, .lst ((raw a b).map rt))]) (.inr ⟨_, _, rfl, at_end _ _ _⟩) (by rw [len_raw]; omega) (fun r hr => by
    have hm : rq r ∈ cross a b := by rw [← raw_rq]; exact List.mem_map_of_mem hr
    have hk := Lat.ok (sc.lat _ hm) sc.pos R.lm (by
      have := R.bc
      have h0 : 0 < n * m := by
        obtain ⟨x, hx, y, hy, _⟩ := mem_cross hm
        have := List.length_pos_of_mem hx
        have := List.length_pos_of_mem hy
        exact Nat.mul_pos (by omega) (by omega)
      exact Nat.lt_of_le_of_lt (Nat.le_mul_of_pos_left _ h0) this)
    obtain ⟨x, hx, y, hy, rfl⟩ := mem_raw hr
    exact ⟨den_mul_ne _ _, den_mul_bs (hoa x hx) (hob y hy), hk⟩) (fun i j => by
    rw [raw_rq]
    exact Lat.ok ((sc.take i).cf j) sc.pos R.lm R.bc)
  rw [raw_rq] at h
  refine ⟨[(false, .lst ((raw a b).map rt))] ++ ex, ?_⟩
  rw [← List.append_assoc]
  unfold g_product_of b_product_of runS startD evLc2
  have es : ∀ s, evSrc (evVar 0) [some (tms a), some (tms b), none, none, none, none, none, none] s = .ok (srcS (a.map tm)) s := fun s => rfl
  have ew : wipeD [some (tms a), some (tms b), none, none, none, none, none, none] [2, 3, 4, 5, 6, 7] = [some (tms a), some (tms b), none, none, none, none, none, none] := rfl
  simp only [List.map_cons, List.map_nil, List.length_cons, List.length_nil, Nat.zero_add, Nat.reduceAdd, Nat.reduceSub, List.replicate_succ, List.replicate_zero, List.cons_append, List.nil_append, sRet, ofE, evCall, evCons, evNil, Res.bind, es, ew, q, h]
/-! ### sum_of, negative -/
theorem tm_rt (a : W) : a.map tm = (a.map fun p => ((p.1, p.2.num, (p.2.den : Int)) : Raw)).map rt := by rw [List.map_map]; rfl
theorem tm_rq (a : W) : (a.map fun p => ((p.1, p.2.num, (p.2.den : Int)) : Raw)).map rq = a := by
  rw [List.map_map]
  have : (rq ∘ fun p : Int × Rat => ((p.1, p.2.num, (p.2.den : Int)) : Raw)) = id := by
    funext p
    simp only [Function.comp, rq, Rat.num_divInt_den, id]
  rw [this, List.map_id]
theorem sum_of {n L B : Nat} {a b : W} (h : Sz n L B (a ++ b)) (hL : L < 2 ^ 1900) (hB : B < 2 ^ 1900) (hn : n * B < 2 ^ 1900) (hn2 : n < 1000000) (S : Store) : ∃ ex, g_sum_of [tms a, tms b] S = .ok (tms (tot (a ++ b))) (S ++ ex) := by
  have hs := szl
  have hlen := h.len
  obtain ⟨ex, q⟩ := summed (rs := (a ++ b).map fun p => ((p.1, p.2.num, (p.2.den : Int)) : Raw)) (v := tms (a ++ b)) (S := S) (.inl (by rw [← tm_rt])) (by rw [List.length_map]; omega) (fun r hr => by
    obtain ⟨p, hp, rfl⟩ := List.mem_map.mp hr
    have o := h.ok hL hB hp
    refine ⟨den_ne _, o.k2, ?_⟩
    have : (rq (p.1, p.2.num, (p.2.den : Int))).2 = p.2 := Rat.num_divInt_den _
    rw [this]; exact o) (fun i j => by
    rw [tm_rq]
    exact Lat.ok ((h.take i).cf j) h.pos hL hn)
  rw [tm_rq] at q
  refine ⟨ex, ?_⟩
  have hl : (a.map tm).length + (b.map tm).length ≤ sizeLine := by simp at hlen ⊢; omega
  have e : D.tup false (a.map tm ++ b.map tm) = tms (a ++ b) := by rw [← List.map_append]
  unfold g_sum_of b_sum_of runS startD
  simp only [List.map_cons, List.map_nil, List.length_cons, List.length_nil, Nat.zero_add, Nat.reduceAdd, Nat.reduceSub, List.replicate_zero, List.append_nil, sRet, ofE, evCall, evCons, evNil, Res.bind, ev2, evVar, List.getElem?_cons_succ, List.getElem?_cons_zero, addD, hl, if_true, Bool.or_self, Res.ofOpt, e, q]
def kn : D → D
  | .tup _ [.int k, .int t, .int b] => .tup false [.int k, .int (-t), .int b]
  | d => d
theorem negative (a : W) (hz : a.length < sizeLine) (S : Store) : ∃ ex, g_negative [tms a] S = .ok (tms (a.map fun p => (p.1, -p.2))) (S ++ ex) := by
  obtain ⟨ex, q⟩ := (pr_lcL (op := tupleD) (src := evSrc (evVar 0)) (tg := tgT 3 (tgsCons (tgN 1) (tgsCons (tgN 2) (tgsCons (tgN 3) tgsNil)))) (vs := [1, 2, 3]) (tt := tyes) (te := evL mkTup (evCons (evVar 1) (evCons (ev1 negD (evVar 2)) (evCons (evVar 3) evNil)))) (env := [some (tms a), none, none, none]) (st := S) (z := tms (a.map fun p => (p.1, -p.2)))
    (a.map tm) (fun _ => true) kn (by simpa using hz) (src_tup (pr_var rfl)) (fun d hd => by
      obtain ⟨x, hx, rfl⟩ := List.mem_map.mp hd
      refine ⟨[some (tms a), some (.int x.1), some (.int x.2.num), some (.int x.2.den)], rfl, Rpu.of_eq fun s _ => rfl, fun _ => Rpu.of_eq fun s _ => ?_⟩
      unfold evL evCons evNil ev1
      simp only [evVar, Res.bind, List.getElem?_cons_succ, List.getElem?_cons_zero, Res.ofOpt, negD, mkTup, List.length_cons, List.length_nil, three_le, if_true, Nat.zero_add, Nat.reduceAdd, kn]) (fun S l _ e => by
      have : ((a.map tm).filter fun _ => true).map kn = (a.map fun p => (p.1, -p.2)).map tm := by
        rw [List.filter_eq_self.mpr (fun _ _ => rfl), List.map_map, List.map_map]
        refine List.map_congr_left fun p _ => ?_
        show D.tup false [.int p.1, .int (-p.2.num), .int p.2.den] = D.tup false [.int p.1, .int (-p.2).num, .int ((-p.2).den : Nat)]
        rw [Rat.neg_num, Rat.neg_den]
      rw [this] at e
      unfold tupleD
      simp only [e])).here
  refine ⟨ex, ?_⟩
  unfold g_negative b_negative runS startD
  simp only [List.map_cons, List.map_nil, List.length_cons, List.length_nil, Nat.zero_add, Nat.reduceAdd, Nat.reduceSub, List.replicate_succ, List.replicate_zero, List.cons_append, List.nil_append, sRet, ofE, q]
end MD
set_option Elab.async false
set_option linter.all false
set_option maxRecDepth 100000
set_option maxHeartbeats 1000000
/-! ME: what is a worth, what is a quotient. -/
namespace ME
open PySem PySem.Spec PyProof.Rows L2 PP MA MB MC MD G24
theorem rps_ret {n : Nat} {e : Ev D} {ds : List D} {S : Store} {a : D} (h : Pr e (startD n ds) S a) : Rpu (runS n (sRet e) ds) S a := fun s x => by
  obtain ⟨ex, q⟩ := h s x
  exact ⟨ex, by unfold runS sRet ofE; simp only [q]⟩
theorem rps_if {n : Nat} {c : Ev Bool} {e1 e2 : Ev D} {ds : List D} {S : Store} {a : D} {b : Bool} (hc : Pr c (startD n ds) S b) (h1 : b = true → Pr e1 (startD n ds) S a) (h2 : b = false → Pr e2 (startD n ds) S a) : Rpu (runS n (sSeq (sIf c (sRet e1) sNext) (sRet e2)) ds) S a := fun s x => by
  obtain ⟨ex, q⟩ := hc s x
  cases b with
  | true =>
    obtain ⟨e2, q2⟩ := h1 rfl _ (x.app ex)
    exact ⟨ex ++ e2, by unfold runS sSeq sIf sRet ofE; simp only [q, if_true, q2, List.append_assoc]⟩
  | false =>
    obtain ⟨e2, q2⟩ := h2 rfl _ (x.app ex)
    exact ⟨ex ++ e2, by unfold runS sSeq sIf sRet sNext ofE; simp only [q, Bool.false_eq_true, if_false, q2, List.append_assoc]⟩
theorem pr_and_bl {f g : Ev D} {env : EnvD} {st : Store} {b b' : Bool} (h1 : Pr f env st (.bl b)) (h : b = true → Pr g env st (.bl b')) : Pr (evAnd f g) env st (.bl (b && b')) :=
  pr_and h1 (fun S _ => rfl) h (by cases b <;> rfl)
theorem pr_isi {f : Ev D} {env : EnvD} {st : Store} {d : D} {n : String} {b : Bool} (h : Pr f env st d) (e : ∀ s, Ext st s → isiD [d, .ty n] s = some (.bl b, s)) : Pr (evL isiD (evCons f (evCons (evC (.ty n)) evNil))) env st (.bl b) :=
  pr_L (pr_cons h (pr_cons pr_c pr_nil)) e
theorem po_bl (b : Bool) (st : Store) : Po (truD (.bl b)) st b := fun _ _ => rfl
/-! ### is_whole, is_count -/
theorem is_whole_i (i : Int) (S : Store) : Pg g_is_whole [.int i] S (.bl true) := rps_ret (pr_and_bl (b := true) (b' := true) (pr_isi (pr_var rfl) (fun _ _ => rfl)) (fun _ => pr_not (b := false) (pr_isi (pr_var rfl) (fun _ _ => rfl)) (po_bl _ _)))
theorem is_whole_b (i : Bool) (S : Store) : Pg g_is_whole [.bl i] S (.bl false) := rps_ret (pr_and_bl (b := true) (b' := false) (pr_isi (pr_var rfl) (fun _ _ => rfl)) (fun _ => pr_not (b := true) (pr_isi (pr_var rfl) (fun _ _ => rfl)) (po_bl _ _)))
theorem is_count_i (i : Int) (S : Store) : Pg g_is_count [.int i] S (.bl (!decide (i < 0))) := rps_ret (pr_and_bl (b := true) (pr_call (pr_cons (pr_var rfl) pr_nil) (is_whole_i i S)) (fun _ => pr_2 (pr_var rfl) pr_c (fun _ _ => geD_ii i 0 _)))
theorem is_count_b (i : Bool) (S : Store) : Pg g_is_count [.bl i] S (.bl false) := rps_ret (pr_and_bl (b := false) (b' := false) (pr_call (pr_cons (pr_var rfl) pr_nil) (is_whole_b i S)) (fun z => nomatch z))
/-! ### all(..) over a comprehension of truth values -/
theorem blsD_all {α : Type} (c : α → Bool) (l : List α) : blsD (l.map fun x => D.bl (c x)) = some (l.map c) := by
  have := blsD_map (l.map c)
  rw [List.map_map] at this
  exact this
theorem all_po {S : Store} {l : Nat} {bs : List Bool} (e : S[l]? = some (false, .lst (bs.map D.bl))) : allD [.ref l] S = some (.bl (bs.all id), S) := by
  unfold allD lstD
  simp only [e, Option.bind_some, blsD_map]
/-- all(c(d) for d in ds) where the source stands still -/
theorem pr_all {src : Ev Src} {tg : Tgt} {vs : List Nat} {te : Ev D} {env : EnvD} {st : Store} (ds : List D) (c : D → Bool) (hz : ds.length < sizeLine)
    (hs : ∀ S, Ext st S → ∃ g ex, src env S = .ok g (S ++ ex) ∧ ∀ S' i, Ext (S ++ ex) S' → g i S' = some ds[i]?)
    (hb : ∀ d ∈ ds, ∃ env1, tg d (wipeD env vs) = some env1 ∧ Pr te env1 st (.bl (c d))) : Pr (evL allD (evCons (evLc src tg vs tyes te) evNil)) env st (.bl (ds.all c)) := by
  refine pr_lcL ds (fun _ => true) (fun d => .bl (c d)) hz hs (fun d hd => ?_) (fun S l _ e => ?_)
  · obtain ⟨env1, h1, h2⟩ := hb d hd
    exact ⟨env1, h1, Rpu.ok, fun _ => h2⟩
  · have e1 : ((ds.filter fun _ => true).map fun d => D.bl (c d)) = (ds.map c).map D.bl := by rw [List.filter_eq_self.mpr (fun _ _ => rfl), List.map_map]; rfl
    rw [e1] at e
    rw [all_po e, List.all_map]
    rfl
/-! ### fractions and terms -/
theorem len_tup {b : Bool} {ds : List D} (S : Store) : lenD [.tup b ds] S = some (.int ds.length, S) := rfl
def isF (t b : Int) : Bool := !decide (b < 1) && decide (((Nat.gcd t.natAbs b.natAbs : Nat) : Int) = 1)
theorem is_fraction_ii (k : Bool) (t b : Int) (S : Store) : Pg g_is_fraction [.tup k [.int t, .int b]] S (.bl (isF t b)) := by
  refine rps_if (b := false) (pr_tor (b := false) (b' := false) (pr_tnot (b := true) (pr_T (pr_isi (b := true) (pr_var rfl) (fun _ _ => rfl)) (po_bl _ _))) (fun _ => pr_tor (b := false) (b' := false) (pr_TB (pr_2 (pr_L (pr_cons (pr_var rfl) pr_nil) (fun _ _ => rfl)) pr_c (fun _ _ => neX_ii _ _ _))) (fun _ => pr_tnot (b := true) (pr_T (pr_all (st := S) [.int t, .int b] (fun _ => true) (show 2 < sizeLine by decide) (src_tup (pr_var rfl)) (fun d hd => ?_)) (po_bl _ _))))) (fun z => nomatch z) (fun _ => ?_)
  · rcases List.mem_cons.mp hd with rfl | hd
    · exact ⟨_, rfl, pr_call (pr_cons (pr_var rfl) pr_nil) (is_whole_i t S)⟩
    · rw [List.mem_singleton.mp hd]
      exact ⟨_, rfl, pr_call (pr_cons (pr_var rfl) pr_nil) (is_whole_i b S)⟩
  · exact pr_and_bl (pr_2 (pr_2 (pr_var rfl) pr_c (fun _ _ => ix1 _ _ _ _ _)) pr_c (fun _ _ => geD_ii b 1 _)) (fun _ => pr_2 (pr_L (pr_cons (pr_2 (pr_var rfl) pr_c (fun _ _ => ix0 _ _ _ _)) (pr_cons (pr_2 (pr_var rfl) pr_c (fun _ _ => ix1 _ _ _ _ _)) pr_nil)) (fun _ _ => rfl)) pr_c (fun _ _ => eqX_ii _ _ _))
theorem isF_fr (q : Rat) : isF q.num q.den = true := by
  have h1 := q.den_pos
  have h2 : Nat.gcd q.num.natAbs q.den = 1 := q.reduced
  unfold isF
  rw [Bool.and_eq_true]
  refine ⟨by simp; omega, ?_⟩
  rw [Int.natAbs_natCast, h2]
  rfl
def isT (r : Raw) : Bool := !decide (r.1 < 0) && (isF r.2.1 r.2.2 && decide (r.2.1 ≠ 0))
theorem cut3 (x y z : D) : cutL [x, y, z] (some 1) none = [y, z] := rfl
theorem is_term_rt (r : Raw) (S : Store) : Pg g_is_term [rt r] S (.bl (isT r)) := by
  have hc := is_count_i r.1 S
  have hf := is_fraction_ii false r.2.1 r.2.2 S
  have c : Pr (tor (tnot (evT (evL isiD (evCons (evVar 0) (evCons (evC (.ty "tuple")) evNil))))) (tor (evTB (ev2 neX (evL lenD (evCons (evVar 0) evNil)) (evC (.int 3)))) (tnot (evT (evCall g_is_count (evCons (ev2 subscD (evVar 0) (evC (.int 0))) evNil)))))) (startD 1 [rt r]) S (!!decide (r.1 < 0)) :=
    pr_tor (b := false) (pr_tnot (b := true) (pr_T (pr_isi (b := true) (pr_var rfl) (fun _ _ => rfl)) (po_bl _ _))) (fun _ => pr_tor (b := false) (pr_TB (pr_2 (pr_L (pr_cons (pr_var rfl) pr_nil) (fun _ _ => rfl)) pr_c (fun _ _ => neX_ii _ _ _))) (fun _ => pr_tnot (pr_T (pr_call (pr_cons (pr_2 (pr_var rfl) pr_c (fun _ _ => ix0 _ _ _ _)) pr_nil) hc) (po_bl _ _))))
  refine rps_if c (fun z => ?_) (fun z => ?_)
  · have e : isT r = false := by unfold isT; simp only [Bool.not_not] at z; rw [z]; rfl
    rw [e]; exact pr_c
  · have e : isT r = (isF r.2.1 r.2.2 && decide (r.2.1 ≠ 0)) := by unfold isT; simp only [Bool.not_not] at z; rw [z]; rfl
    rw [e]
    exact pr_and_bl (pr_call (pr_cons (pr_sl (pr_var rfl) (pr_part1 pr_c) pr_part0 (fun _ _ => rfl)) pr_nil) hf) (fun _ => pr_2 (pr_2 (pr_var rfl) pr_c (fun _ _ => ix1 _ _ _ _ _)) pr_c (fun _ _ => neX_ii _ _ _))
theorem is_term_b (x : Bool) (t b : Int) (S : Store) : Pg g_is_term [.tup false [.bl x, .int t, .int b]] S (.bl false) :=
  rps_if (b := true) (pr_tor (b := false) (pr_tnot (b := true) (pr_T (pr_isi (b := true) (pr_var rfl) (fun _ _ => rfl)) (po_bl _ _))) (fun _ => pr_tor (b := false) (b' := true) (pr_TB (pr_2 (pr_L (pr_cons (pr_var rfl) pr_nil) (fun _ _ => rfl)) pr_c (fun _ _ => neX_ii _ _ _))) (fun _ => pr_tnot (b := false) (pr_T (pr_call (pr_cons (pr_2 (pr_var rfl) pr_c (fun _ _ => ix0 _ _ _ _)) pr_nil) (is_count_b x S)) (po_bl _ _))))) (fun _ => pr_c) (fun z => nomatch z)
/-! ### worths -/
theorem cut_one (ds : List D) : cutL ds (some 1) none = ds.tail := by
  cases ds with
  | nil => rfl
  | cons d r =>
    have e1 : HT.sIx (r.length + 1) 0 (some 1) = 1 := by
      unfold HT.sIx
      simp only
      rw [if_neg (by omega)]
      show min 1 (r.length + 1) = 1
      omega
    have e2 : HT.sIx (r.length + 1) (r.length + 1) none = r.length + 1 := rfl
    unfold cutL
    rw [List.length_cons, e1, e2]
    simp
def lt1 : D → D → Bool
  | .tup _ (.int a :: _), .tup _ (.int b :: _) => decide (a < b)
  | _, _ => false
def ltp : D → Bool
  | .tup _ [d, e] => lt1 d e
  | _ => false
/-- the orders rise -/
def inc (rs : List Raw) : Bool := (List.zipWith (fun x y : Raw => decide (x.1 < y.1)) rs rs.tail).all id
theorem is_worth_rt (rs : List Raw) (hz : rs.length < sizeLine) (S : Store) : Pg g_is_worth [.tup false (rs.map rt)] S (.bl (rs.all isT && inc rs)) := by
  have h1 : Pr (evL allD (evCons (evLc (evSrc (evVar 0)) (tgN 3) [3] tyes (evCall g_is_term (evCons (evVar 3) evNil))) evNil)) (startD 4 [.tup false (rs.map rt)]) S (.bl (rs.all isT)) := by
    have h := pr_all (st := S) (src := evSrc (evVar 0)) (tg := tgN 3) (vs := [3]) (te := evCall g_is_term (evCons (evVar 3) evNil)) (env := startD 4 [.tup false (rs.map rt)]) (rs.map rt) (fun d => match d with | .tup _ [.int k, .int t, .int b] => isT (k, t, b) | _ => false) (by simpa using hz) (src_tup (pr_var rfl)) (fun d hd => by
      obtain ⟨r, _, rfl⟩ := List.mem_map.mp hd
      exact ⟨_, rfl, pr_call (pr_cons (pr_var rfl) pr_nil) (is_term_rt r S)⟩)
    rw [List.all_map] at h
    exact h
  refine rps_if (pr_tor (b := false) (pr_tnot (b := true) (pr_T (pr_isi (b := true) (pr_var rfl) (fun _ _ => rfl)) (po_bl _ _))) (fun _ => pr_tnot (pr_T h1 (po_bl _ _)))) (fun z => ?_) (fun z => ?_)
  · have e : rs.all isT = false := by simpa using z
    rw [e]; exact pr_c
  · have e : rs.all isT = true := by simpa using z
    rw [e, Bool.true_and]
    have h := pr_all (st := S) (src := evZp (evCons (evVar 0) (evCons (evSl sliceD (evVar 0) (some (evC (.int 1))) none) evNil))) (tg := tgT 2 (tgsCons (tgN 1) (tgsCons (tgN 2) tgsNil))) (vs := [1, 2]) (te := ev2 ltD (ev2 subscD (evVar 1) (evC (.int 0))) (ev2 subscD (evVar 2) (evC (.int 0)))) (env := startD 4 [.tup false (rs.map rt)])
      (List.zipWith (fun d e => D.tup false [d, e]) (rs.map rt) (rs.map rt).tail) ltp (by
        rw [List.length_zipWith, List.length_map]; omega) (fun S' x => by
        refine src_zip (b := false) (c := false) (pr_var rfl) (pr_sl (l := some 1) (h := none) (pr_var rfl) (pr_part1 pr_c) pr_part0 (fun _ _ => ?_)) S' x
        unfold sliceD
        rw [← cut_one]) (fun d hd => by
        rw [← List.map_tail, List.zipWith_map] at hd
        obtain ⟨i, hi, rfl⟩ := List.mem_iff_getElem.mp hd
        rw [List.getElem_zipWith]
        exact ⟨_, rfl, pr_2 (pr_2 (pr_var rfl) pr_c (fun _ _ => ix0 _ _ _ _)) (pr_2 (pr_var rfl) pr_c (fun _ _ => ix0 _ _ _ _)) (fun _ _ => ltD_ii _ _ _)⟩)
    have e2 : (List.zipWith (fun d e => D.tup false [d, e]) (rs.map rt) (rs.map rt).tail).all ltp = inc rs := by
      unfold inc
      rw [← List.map_tail, List.zipWith_map]
      have hh : ∀ (a b : List Raw), (List.zipWith (fun x y : Raw => D.tup false [rt x, rt y]) a b).all ltp = (List.zipWith (fun x y : Raw => decide (x.1 < y.1)) a b).all id := by
        intro a
        induction a with
        | nil => intro b; rfl
        | cons x a ih =>
          intro b
          cases b with
          | nil => rfl
          | cons y b =>
            rw [List.zipWith_cons_cons, List.zipWith_cons_cons, List.all_cons, List.all_cons, ih b]
            rfl
      exact hh rs rs.tail
    rw [e2] at h
    exact h
abbrev rws (a : W) : List Raw := a.map fun p => ((p.1, p.2.num, (p.2.den : Int)) : Raw)
theorem inc_good : ∀ {a : W}, (keys a).Pairwise (· < ·) → inc (rws a) = true
  | [], _ => rfl
  | [p], _ => rfl
  | p :: q :: a, h => by
    have ih := inc_good (a := q :: a) (List.pairwise_cons.mp h).2
    have h1 : p.1 < q.1 := (List.pairwise_cons.mp h).1 q.1 (by simp)
    unfold inc rws at ih ⊢
    rw [List.map_cons, List.tail_cons, List.map_cons] at *
    rw [List.zipWith_cons_cons, List.all_cons, ih]
    simp [h1]
theorem all_good {a : W} (h : Good a) (k : ∀ p ∈ a, 0 ≤ p.1) : (rws a).all isT = true := by
  rw [List.all_eq_true]
  intro r hr
  obtain ⟨p, hp, rfl⟩ := List.mem_map.mp hr
  have h1 := k p hp
  have h2 : p.2.num ≠ 0 := fun z => h.nz p hp (Rat.num_eq_zero.mp z)
  unfold isT
  rw [isF_fr]
  simp [h1, h2]
theorem is_worth_good {a : W} (h : Good a) (k : ∀ p ∈ a, 0 ≤ p.1) (hz : a.length < sizeLine) (S : Store) : Pg g_is_worth [tms a] S (.bl true) := by
  have := is_worth_rt (rws a) (by simpa using hz) S
  rw [← tm_rt, all_good h k, inc_good h.up] at this
  exact this
theorem is_worth_no {d : D} {S : Store} (h : ∀ s, Ext S s → isiD [d, .ty "tuple"] s = some (.bl false, s)) : Pg g_is_worth [d] S (.bl false) :=
  rps_if (b := true) (pr_tor (b := true) (b' := true) (pr_tnot (b := false) (pr_T (pr_isi (b := false) (pr_var rfl) h) (po_bl _ _))) (fun z => nomatch z)) (fun _ => pr_c) (fun z => nomatch z)
theorem is_worth_b (x : Bool) (t b : Int) (S : Store) : Pg g_is_worth [.tup false [.tup false [.bl x, .int t, .int b]]] S (.bl false) := by
  have h := pr_all (st := S) (src := evSrc (evVar 0)) (tg := tgN 3) (vs := [3]) (te := evCall g_is_term (evCons (evVar 3) evNil)) (env := startD 4 [.tup false [.tup false [.bl x, .int t, .int b]]]) [.tup false [.bl x, .int t, .int b]] (fun _ => false) (show 1 < sizeLine by decide) (src_tup (pr_var rfl)) (fun d hd => by
    rw [List.mem_singleton.mp hd]
    exact ⟨_, rfl, pr_call (pr_cons (pr_var rfl) pr_nil) (is_term_b x t b S)⟩)
  exact rps_if (b := true) (pr_tor (b := false) (b' := true) (pr_tnot (b := true) (pr_T (pr_isi (b := true) (pr_var rfl) (fun _ _ => rfl)) (po_bl _ _))) (fun _ => pr_tnot (b := false) (pr_T h (po_bl _ _)))) (fun _ => pr_c) (fun z => nomatch z)
/-! ### the sign -/
abbrev rP (r : Raw) : PyData := .tuple [.int r.1, .int r.2.1, .int r.2.2]
theorem rd_rts (S : Store) (b : Bool) (rs : List Raw) : rdP S (.tup b (rs.map rt)) = some (.tuple (rs.map rP)) := by
  show (optAll ((rs.map rt).map (toP S 29))).map PyData.tuple = _
  have : (rs.map rt).map (toP S 29) = rs.map fun r => some (rP r) := by rw [List.map_map]; rfl
  rw [this, optAll_some rP]
  rfl
theorem eq_empty (S : Store) (b : Bool) (rs : List Raw) : eqX (.tup b (rs.map rt)) (.tup false []) S = some (.bl rs.isEmpty, S) := by
  unfold eqX eqD
  have e : rdP S (.tup false []) = some (.tuple []) := rfl
  rw [show empD S (.tup b (rs.map rt)) (.tup false []) = none from rfl, rd_rts, e]
  cases rs <;> simp [PyData.eqv, PyData.eqvAll]
theorem ne_empty (S : Store) (b : Bool) (rs : List Raw) : neX (.tup b (rs.map rt)) (.tup false []) S = some (.bl (!rs.isEmpty), S) := by
  unfold neX neD
  have e : rdP S (.tup false []) = some (.tuple []) := rfl
  rw [show empD S (.tup b (rs.map rt)) (.tup false []) = none from rfl, rd_rts, e]
  cases rs <;> simp [PyData.eqv, PyData.eqvAll]
def sgr : List Raw → Int
  | [] => 0
  | r :: _ => if 0 < r.2.1 then 1 else -1
theorem pr_mkT0 {env : EnvD} {st : Store} : Pr (evL mkTup evNil) env st (.tup false []) := pr_L pr_nil (fun _ _ => rfl)
theorem sign_of (rs : List Raw) (S : Store) : Pg g_sign_of [.tup false (rs.map rt)] S (.int (sgr rs)) := by
  refine rps_if (pr_TB (pr_2 (pr_var rfl) pr_mkT0 (fun _ _ => eq_empty _ _ _))) (fun z => ?_) (fun z => ?_)
  · cases rs with
    | nil => exact pr_c
    | cons r rs => cases z
  · cases rs with
    | nil => cases z
    | cons r rs =>
      refine pr_if (pr_TB (pr_2 (pr_2 (pr_2 (pr_var rfl) pr_c (fun _ _ => ix0 _ _ _ _)) pr_c (fun _ _ => ix1 _ _ _ _ _)) pr_c (fun _ _ => gtD_ii _ _ _))) ?_
      by_cases c : 0 < r.2.1
      · rw [if_pos (decide_eq_true c)]
        have : sgr (r :: rs) = 1 := if_pos c
        rw [this]; exact pr_c
      · rw [if_neg (by simpa using c)]
        have : sgr (r :: rs) = -1 := if_neg c
        rw [this]
        exact pr_1 pr_c (fun _ _ => rfl)
theorem num_pos (q : Rat) : (0 < q.num) ↔ 0 < q := by
  have h := Rat.num_nonneg (q := q)
  have h2 := Rat.num_eq_zero (q := q)
  constructor
  · intro k
    have : 0 ≤ q := h.mp (by omega)
    have : q ≠ 0 := fun z => by rw [z] at k; exact absurd k (by decide)
    grind
  · intro k
    have a1 : 0 ≤ q.num := h.mpr (by grind)
    have a2 : q.num ≠ 0 := fun z => by have := h2.mp z; grind
    omega
theorem sgr_sgn (a : W) : sgr (rws a) = sgn a := by
  cases a with
  | nil => rfl
  | cons p a =>
    show (if 0 < p.2.num then (1 : Int) else -1) = if 0 < p.2 then 1 else -1
    simp only [num_pos]
theorem sign_of_tms (a : W) (S : Store) : Pg g_sign_of [tms a] S (.int (sgn a)) := by
  have := sign_of (rws a) S
  rw [← tm_rt, sgr_sgn] at this
  exact this
/-! ### quotients -/
theorem is_quotient_2 {A B : D} {S : Store} {x y : Bool} {s : Int} (hA : Pg g_is_worth [A] S (.bl x)) (hB : x = true → Pg g_is_worth [B] S (.bl y)) (hs : (x && y) = true → Pg g_sign_of [B] S (.int s)) : Pg g_is_quotient [.tup false [A, B]] S (.bl (x && y && decide (s = 1))) := by
  refine rps_if (b := !x || !y) (pr_tor (b := false) (pr_tnot (b := true) (pr_T (pr_isi (b := true) (pr_var rfl) (fun _ _ => rfl)) (po_bl _ _))) (fun _ => pr_tor (b := false) (pr_TB (pr_2 (pr_L (pr_cons (pr_var rfl) pr_nil) (fun _ _ => rfl)) pr_c (fun _ _ => neX_ii _ _ _))) (fun _ => pr_tor (pr_tnot (pr_T (pr_call (pr_cons (pr_2 (pr_var rfl) pr_c (fun _ _ => ix0 _ _ _ _)) pr_nil) hA) (po_bl _ _))) (fun z => pr_tnot (pr_T (pr_call (pr_cons (pr_2 (pr_var rfl) pr_c (fun _ _ => ix1 _ _ _ _ _)) pr_nil) (hB (by simpa using z))) (po_bl _ _)))))) (fun z => ?_) (fun z => ?_)
  · have : (x && y) = false := by cases x <;> cases y <;> first | rfl | cases z
    rw [this]; exact pr_c
  · have : (x && y) = true := by cases x <;> cases y <;> first | rfl | cases z
    rw [this, Bool.true_and]
    exact pr_2 (pr_call (pr_cons (pr_2 (pr_var rfl) pr_c (fun _ _ => ix1 _ _ _ _ _)) pr_nil) (hs this)) pr_c (fun _ _ => eqX_ii _ _ _)
theorem is_quotient_no {d : D} {S : Store} (h : ∀ s, Ext S s → isiD [d, .ty "tuple"] s = some (.bl false, s)) : Pg g_is_quotient [d] S (.bl false) :=
  rps_if (b := true) (pr_tor (b := true) (b' := true) (pr_tnot (b := false) (pr_T (pr_isi (b := false) (pr_var rfl) h) (po_bl _ _))) (fun z => nomatch z)) (fun _ => pr_c) (fun z => nomatch z)
theorem is_quotient_len {ds : List D} {S : Store} (h : ds.length ≠ 2) : Pg g_is_quotient [.tup false ds] S (.bl false) := by
  have h' : ((ds.length : Nat) : Int) ≠ 2 := by omega
  exact rps_if (b := true) (pr_tor (b := false) (pr_tnot (b := true) (pr_T (pr_isi (b := true) (pr_var rfl) (fun _ _ => rfl)) (po_bl _ _))) (fun _ => pr_tor (b := true) (b' := true) (pr_TB (pr_2 (pr_L (pr_cons (pr_var rfl) pr_nil) (fun _ _ => rfl)) pr_c (fun _ _ => by rw [neX_ii]; simp [h']))) (fun z => nomatch z))) (fun _ => pr_c) (fun z => nomatch z)
/-- a top that is a worth, a bottom that is one above nought -/
structure GQ (a b : W) : Prop where
  ga : Good a
  gb : Good b
  pa : ∀ p ∈ a, 0 ≤ p.1
  pb : ∀ p ∈ b, 0 ≤ p.1
  s : sgn b = 1
  la : a.length < sizeLine
  lb : b.length < sizeLine
abbrev quo (a b : W) : D := .tup false [tms a, tms b]
theorem is_quotient_good {a b : W} (h : GQ a b) (S : Store) : Pg g_is_quotient [quo a b] S (.bl true) := by
  have := is_quotient_2 (is_worth_good h.ga h.pa h.la S) (fun _ => is_worth_good h.gb h.pb h.lb S) (fun _ => sign_of_tms b S)
  rw [h.s] at this
  exact this
end ME
set_option Elab.async false
set_option linter.all false
set_option maxRecDepth 100000
set_option maxHeartbeats 1000000
/-! MF: quotients compared. -/
namespace MF
open PySem PySem.Spec PyProof.Rows L2 PP MA MB MC MD ME G24
/-- an exception is let out, things are only laid -/
def Rer {α : Type} (r : Store → Res α) (st : Store) (c : Str) (fs : List (Str × D)) : Prop := ∀ S, Ext st S → ∃ ex, r S = .err c fs (S ++ ex)
theorem Rer.mono {α : Type} {r : Store → Res α} {st st' : Store} {c : Str} {fs : List (Str × D)} (h : Rer r st c fs) (e : Ext st st') : Rer r st' c fs := fun S x => h S (e.trans x)
theorem rer_bind {α β : Type} {r : Store → Res α} {k : α → Store → Res β} {st : Store} {c : Str} {fs : List (Str × D)} (h : Rer r st c fs) : Rer (fun S => (r S).bind k) st c fs := fun S x => by
  obtain ⟨ex, e⟩ := h S x
  exact ⟨ex, by show (r S).bind k = _; rw [e]; rfl⟩
theorem rer_bind2 {α β : Type} {r : Store → Res α} {k : α → Store → Res β} {st : Store} {a : α} {c : Str} {fs : List (Str × D)} (h : Rpu r st a) (h2 : Rer (k a) st c fs) : Rer (fun S => (r S).bind k) st c fs := fun S x => by
  obtain ⟨ex, e⟩ := h S x
  obtain ⟨ex2, e2⟩ := h2 (S ++ ex) (x.app ex)
  exact ⟨ex ++ ex2, by show (r S).bind k = _; rw [e]; show k a (S ++ ex) = _; rw [e2, List.append_assoc]⟩
abbrev bad (d : D) : List (Str × D) := [("worth", d)]
theorem need_ok {d : D} {S : Store} (h : Pg g_is_quotient [d] S (.bl true)) : Pg g_need_quotient [d] S .non := fun s x => by
  obtain ⟨ex, q⟩ := h s x
  refine ⟨ex, ?_⟩
  unfold g_need_quotient b_need_quotient runS startD sIf ofE tnot evT evCall evCons evNil
  simp only [evVar, Res.bind, List.map_cons, List.map_nil, List.length_cons, List.length_nil, Nat.zero_add, Nat.sub_self, List.replicate_zero, List.append_nil, List.getElem?_cons_zero, q, truD, Res.ofOpt, Bool.not_true, Bool.false_eq_true, if_false, sNext]
theorem need_bad {d : D} {S : Store} (h : Pg g_is_quotient [d] S (.bl false)) : Rer (g_need_quotient [d]) S "BadWorth" (bad d) := fun s x => by
  obtain ⟨ex, q⟩ := h s x
  refine ⟨ex, ?_⟩
  unfold g_need_quotient b_need_quotient runS startD sIf ofE tnot evT evCall evCons evNil
  simp only [evVar, Res.bind, List.map_cons, List.map_nil, List.length_cons, List.length_nil, Nat.zero_add, Nat.sub_self, List.replicate_zero, List.append_nil, List.getElem?_cons_zero, q, truD, Res.ofOpt, Bool.not_false, if_true, sRaise, ofE, fldsOf]
/-! ### two expression statements, then a result -/
theorem rps_2 {n : Nat} {e1 e2 e3 : Ev D} {ds : List D} {S : Store} {x y a : D} (h1 : Pr e1 (startD n ds) S x) (h2 : Pr e2 (startD n ds) S y) (h3 : Pr e3 (startD n ds) S a) : Rpu (runS n (sSeq (sExpr e1) (sSeq (sExpr e2) (sRet e3))) ds) S a := fun s z => by
  obtain ⟨x1, q1⟩ := h1 s z
  obtain ⟨x2, q2⟩ := h2 _ (z.app x1)
  obtain ⟨x3, q3⟩ := h3 _ ((z.app x1).app x2)
  exact ⟨x1 ++ (x2 ++ x3), by unfold runS sSeq sExpr sRet ofE; simp only [q1, q2, q3]; simp only [List.append_assoc]⟩
theorem rer_21 {n : Nat} {e1 : Ev D} {f : Ss} {ds : List D} {S : Store} {c : Str} {fs : List (Str × D)} (h1 : Rer (e1 (startD n ds)) S c fs) : Rer (runS n (sSeq (sExpr e1) f) ds) S c fs := fun s z => by
  obtain ⟨x1, q1⟩ := h1 s z
  exact ⟨x1, by unfold runS sSeq sExpr ofE; simp only [q1]⟩
theorem rer_22 {n : Nat} {e1 e2 : Ev D} {f : Ss} {ds : List D} {S : Store} {x : D} {c : Str} {fs : List (Str × D)} (h1 : Pr e1 (startD n ds) S x) (h2 : Rer (e2 (startD n ds)) S c fs) : Rer (runS n (sSeq (sExpr e1) (sSeq (sExpr e2) f)) ds) S c fs := fun s z => by
  obtain ⟨x1, q1⟩ := h1 s z
  obtain ⟨x2, q2⟩ := h2 _ (z.app x1)
  exact ⟨x1 ++ x2, by unfold runS sSeq sExpr ofE; simp only [q1, q2]; simp only [List.append_assoc]⟩
theorem rer_ret {n : Nat} {e1 : Ev D} {ds : List D} {S : Store} {c : Str} {fs : List (Str × D)} (h1 : Rer (e1 (startD n ds)) S c fs) : Rer (runS n (sRet e1) ds) S c fs := fun s z => by
  obtain ⟨x1, q1⟩ := h1 s z
  exact ⟨x1, by unfold runS sRet ofE; simp only [q1]⟩
theorem rer_call {g : Fn} {fl : Ev (List D)} {env : EnvD} {st : Store} {ds : List D} {c : Str} {fs : List (Str × D)} (h1 : Pr fl env st ds) (h : Rer (g ds) st c fs) : Rer (evCall g fl env) st c fs := rer_bind2 h1 h
theorem rer_2 {op : Op2} {f g : Ev D} {env : EnvD} {st : Store} {c : Str} {fs : List (Str × D)} (h1 : Rer (f env) st c fs) : Rer (ev2 op f g env) st c fs := rer_bind h1
theorem rer_cons {f : Ev D} {fl : Ev (List D)} {env : EnvD} {st : Store} {c : Str} {fs : List (Str × D)} (h1 : Rer (f env) st c fs) : Rer (evCons f fl env) st c fs := rer_bind h1
theorem rer_call1 {g : Fn} {fl : Ev (List D)} {env : EnvD} {st : Store} {c : Str} {fs : List (Str × D)} (h1 : Rer (fl env) st c fs) : Rer (evCall g fl env) st c fs := rer_bind h1
/-! ### crossed -/
structure Room3 (n L B m M C : Nat) : Prop where
  l : L < 2 ^ 1900
  b : B < 2 ^ 1900
  m' : M < 2 ^ 1900
  c : C < 2 ^ 1900
  lm : L * M < 2 ^ 1900
  bc : (n * m + n * m) * (n * m * (B * C) + n * m * (B * C)) < 2 ^ 1900
  ln : n < 500
  mn : m < 500
  n0 : 0 < n
  m0 : 0 < m
theorem Room3.symm {n L B m M C : Nat} (R : Room3 n L B m M C) : Room3 m M C n L B :=
  ⟨R.m', R.c, R.l, R.b, by rw [Nat.mul_comm]; exact R.lm, by rw [Nat.mul_comm m n, Nat.mul_comm C B]; exact R.bc, R.mn, R.ln, R.m0, R.n0⟩
theorem Room3.one {n L B m M C : Nat} (R : Room3 n L B m M C) : n * m * (B * C) + n * m * (B * C) < 2 ^ 1900 := by
  have h := R.bc
  have h0 : 0 < n * m := Nat.mul_pos R.n0 R.m0
  exact Nat.lt_of_le_of_lt (Nat.le_mul_of_pos_left _ (by omega)) h
theorem Room3.two {n L B m M C : Nat} (R : Room3 n L B m M C) : Room2 n L B m M C :=
  ⟨R.l, R.b, R.m', R.c, R.lm, by have := R.one; omega, by have := R.ln; omega, by have := R.mn; omega⟩
abbrev neg (a : W) : W := a.map fun p => (p.1, -p.2)
theorem szneg {n L B : Nat} {a : W} (h : Sz n L B a) : Sz n L B (neg a) := ⟨by simpa using h.len, fun p hp => by
  obtain ⟨x, hx, rfl⟩ := List.mem_map.mp hp
  exact (h.lat x hx).neg, h.pos⟩
/-- the first's top by the second's bottom, less the other way round -/
abbrev crs (a0 a1 b0 b1 : W) : W := tot (tot (cross a0 b1) ++ neg (tot (cross b0 a1)))
theorem cf_crs (a0 a1 b0 b1 : W) (j : Int) : cf (crs a0 a1 b0 b1) j = cf (cross a0 b1) j - cf (cross b0 a1) j := by
  rw [cf_tot, cf_app, cf_tot, cf_neg, cf_tot, Rat.sub_eq_add_neg]
theorem crossed {n L B m M C : Nat} {a0 a1 b0 b1 : W} (q1 : GQ a0 a1) (q2 : GQ b0 b1) (h0 : Sz n L B a0) (h1 : Sz n L B a1) (k0 : Sz m M C b0) (k1 : Sz m M C b1) (R : Room3 n L B m M C) (S : Store) : Pg g_crossed [quo a0 a1, quo b0 b1] S (tms (crs a0 a1 b0 b1)) := by
  have s1 := (h0.cross k1).tot
  have s2 := szneg (k0.cross h1).tot
  have e2 : Sz (n * m) (L * M) (n * m * (B * C)) (neg (tot (cross b0 a1))) := by
    rw [Nat.mul_comm n m, Nat.mul_comm L M, Nat.mul_comm B C]; exact s2
  have s3 := s1.app e2
  have hs := szl
  have hnm : n * m < 500 * 500 := Nat.mul_lt_mul_of_lt_of_lt R.ln R.mn
  have hl : (tot (cross b0 a1)).length < sizeLine := by
    have := e2.len
    simp only [neg, List.length_map] at this
    omega
  exact rps_2 (pr_call (pr_cons (pr_var rfl) pr_nil) (need_ok (is_quotient_good q1 S))) (pr_call (pr_cons (pr_var rfl) pr_nil) (need_ok (is_quotient_good q2 S)))
    (pr_call (pr_cons (pr_call (pr_cons (pr_2 (pr_var rfl) pr_c (fun _ _ => ix0 _ _ _ _)) (pr_cons (pr_2 (pr_var rfl) pr_c (fun _ _ => ix1 _ _ _ _ _)) pr_nil)) (fun s _ => product_of h0 k1 R.two s))
      (pr_cons (pr_call (pr_cons (pr_call (pr_cons (pr_2 (pr_var rfl) pr_c (fun _ _ => ix0 _ _ _ _)) (pr_cons (pr_2 (pr_var rfl) pr_c (fun _ _ => ix1 _ _ _ _ _)) pr_nil)) (fun s _ => product_of k0 h1 R.symm.two s)) pr_nil) (fun s _ => negative _ hl s)) pr_nil))
      (fun s _ => sum_of s3 R.lm R.one R.bc (by omega) s))
theorem crossed_bad1 {d e : D} {S : Store} (h : Pg g_is_quotient [d] S (.bl false)) : Rer (g_crossed [d, e]) S "BadWorth" (bad d) :=
  rer_21 (rer_call (pr_cons (pr_var rfl) pr_nil) (need_bad h))
theorem crossed_bad2 {d e : D} {S : Store} (h : Pg g_is_quotient [d] S (.bl true)) (h2 : Pg g_is_quotient [e] S (.bl false)) : Rer (g_crossed [d, e]) S "BadWorth" (bad e) :=
  rer_22 (pr_call (pr_cons (pr_var rfl) pr_nil) (need_ok h)) (rer_call (pr_cons (pr_var rfl) pr_nil) (need_bad h2))
theorem eq_tms (S : Store) (a : W) : eqX (tms a) (.tup false []) S = some (.bl a.isEmpty, S) := by
  have := eq_empty S false (rws a)
  rw [← tm_rt] at this
  rw [this]
  cases a <;> rfl
theorem ne_tms (S : Store) (a : W) : neX (tms a) (.tup false []) S = some (.bl (!a.isEmpty), S) := by
  have := ne_empty S false (rws a)
  rw [← tm_rt] at this
  rw [this]
  cases a <;> rfl
section
variable {n L B m M C : Nat} {a0 a1 b0 b1 : W} (q1 : GQ a0 a1) (q2 : GQ b0 b1) (h0 : Sz n L B a0) (h1 : Sz n L B a1) (k0 : Sz m M C b0) (k1 : Sz m M C b1) (R : Room3 n L B m M C) (S : Store)
include q1 q2 h0 h1 k0 k1 R
theorem are_alike : Pg g_are_alike [quo a0 a1, quo b0 b1] S (.bl (crs a0 a1 b0 b1).isEmpty) :=
  rps_ret (pr_2 (pr_call (pr_cons (pr_var rfl) (pr_cons (pr_var rfl) pr_nil)) (crossed q1 q2 h0 h1 k0 k1 R S)) pr_mkT0 (fun _ _ => eq_tms _ _))
theorem quotient_above : Pg g_quotient_above [quo a0 a1, quo b0 b1] S (.bl (decide (sgn (crs a0 a1 b0 b1) = 1))) :=
  rps_ret (pr_2 (pr_call (pr_cons (pr_call (pr_cons (pr_var rfl) (pr_cons (pr_var rfl) pr_nil)) (crossed q1 q2 h0 h1 k0 k1 R S)) pr_nil) (sign_of_tms _ _)) pr_c (fun _ _ => eqX_ii _ _ _))
end
theorem are_alike_bad {d e z : D} {S : Store} (h : Rer (g_crossed [d, e]) S "BadWorth" (bad z)) : Rer (g_are_alike [d, e]) S "BadWorth" (bad z) :=
  rer_ret (rer_2 (rer_call (pr_cons (pr_var rfl) (pr_cons (pr_var rfl) pr_nil)) h))
theorem quotient_above_bad {d e z : D} {S : Store} (h : Rer (g_crossed [d, e]) S "BadWorth" (bad z)) : Rer (g_quotient_above [d, e]) S "BadWorth" (bad z) :=
  rer_ret (rer_2 (rer_call1 (rer_cons (rer_call (pr_cons (pr_var rfl) (pr_cons (pr_var rfl) pr_nil)) h))))
theorem quotient_term_bad {d : D} {S : Store} (h : Pg g_is_quotient [d] S (.bl false)) : Rer (g_quotient_term [d]) S "BadWorth" (bad d) :=
  rer_21 (rer_call (pr_cons (pr_var rfl) pr_nil) (need_bad h))
/-- the term of the lowest orders -/
def qterm : W → W → D
  | [], _ => .non
  | p :: _, r :: _ => tm (p.1 - r.1, p.2 / r.2)
  | _, _ => .non
theorem sl_tm (p : Int × Rat) (S : Store) : sliceD (tm p) (some 1) none S = some (fr p.2, S) := rfl
theorem add_tm (k : Int) (q : Rat) (S : Store) : addD (.tup false [.int k]) (fr q) S = some (tm (k, q), S) := by
  unfold addD
  have : 3 ≤ sizeLine := by decide
  simp [this]
theorem ix0t (p : Int × Rat) (a : W) (S : Store) : subscD (tms (p :: a)) (.int 0) S = some (tm p, S) := ix0 _ _ _ _
theorem quotient_term {a b : W} (q : GQ a b) (ha : ∀ p ∈ a, Ok p.2) (hb : ∀ p ∈ b, Ok p.2) (S : Store) : Pg g_quotient_term [quo a b] S (qterm a b) := fun s x => by
  obtain ⟨x1, e1⟩ := (pr_call (pr_cons (pr_var rfl) pr_nil) (need_ok (is_quotient_good q S)) : Pr (evCall g_need_quotient (evCons (evVar 0) evNil)) (startD 3 [quo a b]) S .non) s x
  refine ⟨x1, ?_⟩
  have hn := ne_tms
  unfold g_quotient_term b_quotient_term runS
  unfold sSeq sExpr ofE
  rw [e1]
  simp only
  cases a with
  | nil =>
    have he := eq_tms (s ++ x1) []
    unfold sIf ofE evTB ev2 evL evC evNil startD
    simp only [evVar, Res.bind, List.map_cons, List.map_nil, List.length_cons, List.length_nil, Nat.zero_add, Nat.reduceSub, List.replicate_succ, List.replicate_zero, List.cons_append, List.nil_append, List.getElem?_cons_zero, ix0, Res.ofOpt, mkTup, Nat.zero_le, if_true]
    simp only [he, asB, Option.map_some, List.isEmpty_nil, if_true, sRet, ofE, qterm]
  | cons p a =>
    cases b with
    | nil => exact absurd q.s (by decide)
    | cons r b =>
      have he := eq_tms (s ++ x1) (p :: a)
      have hp := ha p List.mem_cons_self
      have hr := hb r List.mem_cons_self
      have hd := divided hp hr (q.gb.nz r List.mem_cons_self) (s ++ x1)
      unfold sIf ofE evTB ev2 evL evC evNil startD
      simp only [evVar, Res.bind, List.map_cons, List.map_nil, List.length_cons, List.length_nil, Nat.zero_add, Nat.reduceSub, List.replicate_succ, List.replicate_zero, List.cons_append, List.nil_append, List.getElem?_cons_zero, ix0, Res.ofOpt, mkTup, Nat.zero_le, if_true]
      simp only [he, ix0t, asB, Option.map_some, List.isEmpty_cons, Bool.false_eq_true, if_false, sNext, sSeq, sPar, ofE, evCons, evNil, ev2, evC, evVar, Res.bind, List.getElem?_cons_zero, List.getElem?_cons_succ, ix0, ix1, Res.ofOpt, List.set_cons_succ, List.set_cons_zero, sRet, evL, mkTup, subD_ii, List.length_cons, List.length_nil, one_le, Nat.zero_add, Nat.reduceAdd, if_true, evCall, evSl, evPart, sl_tm, hd, add_tm, qterm]
end MF
set_option Elab.async false
set_option linter.all false
set_option maxRecDepth 100000
set_option maxHeartbeats 1000000
/-! MG: the law's own worths: dicts. -/
namespace MG
open PySem PySem.Spec PyProof.Rows L2 PP MA MB MC MD ME MF G24
/-! ### locks -/
abbrev lk (S : Store) (l : Nat) (a : W) : Store := S.set l (true, .dct (kv a))
section
variable {S : Store} {l k : Nat} {a : W}
theorem lt_of_at {c : Bool × Cell} (e : S[l]? = some c) : l < S.length := (List.getElem?_eq_some_iff.mp e).1
theorem lk_len : (lk S l a).length = S.length := List.length_set
theorem lk_at {c : Bool × Cell} (e : S[l]? = some c) : (lk S l a)[l]? = some (true, .dct (kv a)) := by
  rw [List.getElem?_set, if_pos rfl, if_pos (lt_of_at e)]
theorem lk_ne (h : k ≠ l) : (lk S l a)[k]? = S[k]? := by
  rw [List.getElem?_set, if_neg (fun z => h z.symm)]
theorem lk_app (e : l < S.length) (r : Store) : (S ++ r).set l (true, .dct (kv a)) = lk S l a ++ r := List.set_append_left _ _ e
theorem unlk (e : S[l]? = some (false, .dct (kv a))) (r : Store) : (lk S l a ++ r).set l (false, .dct (kv a)) = S ++ r := by
  rw [List.set_append_left _ _ (by rw [lk_len]; exact lt_of_at e), List.set_set]
  congr 1
  obtain ⟨h1, h2⟩ := List.getElem?_eq_some_iff.mp e
  rw [← h2]
  exact List.set_getElem_self h1
theorem app_at {c : Bool × Cell} (e : S[l]? = some c) (r : Store) : (S ++ r)[l]? = some c := by
  rw [List.getElem?_append_left (lt_of_at e)]; exact e
theorem sLock_run {i : Nat} {env : EnvD} {f : Ss} {r r' : Store} {fl : Flw} (h : env[i]? = some (some (.ref l))) (e : S[l]? = some (false, .dct (kv a))) (q : f env (lk S l a ++ r) = .fl fl (lk S l a ++ r')) : sLock i f env (S ++ r) = .fl fl (S ++ r') := by
  unfold sLock lockAt
  simp only [h, app_at e r]
  rw [lk_app (lt_of_at e), q]
  simp only [unlockD, app_at (lk_at e) r', unlk e]
theorem evLock_run {i : Nat} {env : EnvD} {f : Ev D} {r r' : Store} {d : D} (h : env[i]? = some (some (.ref l))) (e : S[l]? = some (false, .dct (kv a))) (q : f env (lk S l a ++ r) = .ok d (lk S l a ++ r')) : evLock i f env (S ++ r) = .ok d (S ++ r') := by
  unfold evLock lockAt
  simp only [h, app_at e r]
  rw [lk_app (lt_of_at e), q]
  simp only [unlockD, app_at (lk_at e) r', unlk e]
end
/-! ### dict(..) of pairs -/
theorem pairs_kv : ∀ x : W, pairsD (x.map fun p => D.tup false [.int p.1, fr p.2]) = some (kv x)
  | [] => rfl
  | p :: x => by
    show (if isK (.int p.1) = true then (pairsD (x.map fun p => D.tup false [.int p.1, fr p.2])).map ((D.int p.1, fr p.2) :: ·) else none) = _
    rw [pairs_kv x]; rfl
theorem putAll_kv : ∀ (x y : W), (keys (y ++ x)).Nodup → PP.putAll (kv y) (kv x) = kv (y ++ x)
  | [], y, _ => by rw [List.append_nil]; rfl
  | p :: x, y, h => by
    have hk : p.1 ∉ keys y := fun z => by
      rw [keys, List.map_append] at h
      exact (List.nodup_append.mp h).2.2 _ z p.1 List.mem_cons_self rfl
    have e : put y p.1 p.2 = y ++ [p] := by
      unfold put
      rw [if_neg]
      intro z
      obtain ⟨q, hq, e⟩ := List.any_eq_true.mp z
      exact hk (List.mem_map.mpr ⟨q, hq, by simpa using e⟩)
    show PP.putAll (dput (kv y) (.int p.1) (fr p.2)) (kv x) = _
    rw [dput_kv, e, putAll_kv x (y ++ [p]) (by rw [List.append_assoc]; exact h), List.append_assoc]
    rfl
theorem dictD_pairs {S : Store} {l : Nat} {x : W} (e : S[l]? = some (false, .lst (x.map fun p => D.tup false [.int p.1, fr p.2]))) (nd : (keys x).Nodup) : dictD [.ref l] S = some (.ref S.length, S ++ [(false, .dct (kv x))]) := by
  unfold dictD
  simp only [e, pairs_kv]
  have := putAll_kv x [] nd
  simp only [kv, List.map_nil, List.nil_append] at this
  simp only [kv, this, newDc]
theorem dictD_copy {S : Store} {l : Nat} {x : W} (e : S[l]? = some (false, .dct (kv x))) : dictD [.ref l] S = some (.ref S.length, S ++ [(false, .dct (kv x))]) := by
  unfold dictD
  simp only [e, dctK_kv e, newDc]
theorem srcD_lk {S : Store} {l : Nat} {a : W} (e : S[l]? = some (true, .dct (kv a))) : srcD S (.ref l) = some (srcS ((keys a).map D.int)) := by
  unfold srcD
  simp only [e, kv_keys]
def pk (f : Int → Bool) : D → Bool
  | .int k => f k
  | _ => false
def kk (f : Int → D) : D → D
  | .int k => f k
  | d => d
theorem pk_map {β : Type} (g : D → β) (f : Int → Bool) (ks : List Int) : ((ks.map D.int).filter (pk f)).map g = (ks.filter f).map fun k => g (.int k) := by
  rw [List.filter_map, List.map_map]; rfl
/-- a comprehension that walks over a dict -/
theorem lc_dict_in {env : EnvD} {i j l : Nat} {a : W} {keep : Int → Bool} {val : Int → D} {tt : Ev Bool} {te : Ev D} {S : Store} (hi : env[i]? = some (some (.ref l))) (hij : i ≠ j) (e : S[l]? = some (false, .dct (kv a))) (hz : a.length < sizeLine)
    (hb : ∀ k ∈ keys a, Pr tt (env.set j (some (.int k))) (lk S l a) (keep k) ∧ Pr te (env.set j (some (.int k))) (lk S l a) (val k)) :
    ∃ ex, evLc (evSrc (evVar i)) (tgN j) [j] tt te env (lk S l a) = .ok (.ref S.length) (lk S l a ++ (false, .lst (((keys a).filter keep).map val)) :: ex) := by
  obtain ⟨ex, q⟩ := lc_run (src := evSrc (evVar i)) (tg := tgN j) (vs := [j]) (tt := tt) (te := te) (env := env) (st := lk S l a) (st1 := lk S l a) (g := srcS ((keys a).map D.int)) ((keys a).map D.int) (pk keep) (kk val) (by simpa using hz)
    (by
      unfold evSrc
      rw [var_ok hi]
      simp only [Res.bind]
      rw [srcD_lk (lk_at e)]
      rfl) (fun _ _ _ => rfl) (fun d hd => by
      obtain ⟨k, hk, rfl⟩ := List.mem_map.mp hd
      obtain ⟨h1, h2⟩ := hb k hk
      refine ⟨env.set j (some (.int k)), ?_, h1, fun _ => h2⟩
      show some ((env.set j none).set j (some (.int k))) = _
      rw [List.set_set])
  rw [pk_map, lk_len] at q
  exact ⟨ex, q⟩
theorem lc_dict {env : EnvD} {i j l : Nat} {a : W} {keep : Int → Bool} {val : Int → D} {tt : Ev Bool} {te : Ev D} {S : Store} (hi : env[i]? = some (some (.ref l))) (hij : i ≠ j) (e : S[l]? = some (false, .dct (kv a))) (hz : a.length < sizeLine)
    (hb : ∀ k ∈ keys a, Pr tt (env.set j (some (.int k))) (lk S l a) (keep k) ∧ Pr te (env.set j (some (.int k))) (lk S l a) (val k)) :
    ∃ ex, evLock i (evLc (evSrc (evVar i)) (tgN j) [j] tt te) env S = .ok (.ref S.length) (S ++ (false, .lst (((keys a).filter keep).map val)) :: ex) := by
  obtain ⟨ex, q⟩ := lc_dict_in hi hij e hz hb
  refine ⟨ex, ?_⟩
  have := evLock_run (r := []) (r' := (false, .lst (((keys a).filter keep).map val)) :: ex) hi e (f := evLc (evSrc (evVar i)) (tgN j) [j] tt te) (d := .ref S.length) (by rw [List.append_nil]; exact q)
  rw [List.append_nil] at this
  exact this
/-- dict(..) of such pairs -/
theorem dict_out {env : EnvD} {i j l : Nat} {a : W} {keep : Int → Bool} {val : Int → Rat} {tt : Ev Bool} {te : Ev D} {S : Store} (hi : env[i]? = some (some (.ref l))) (hij : i ≠ j) (e : S[l]? = some (false, .dct (kv a))) (nd : (keys a).Nodup) (hz : a.length < sizeLine)
    (hb : ∀ k ∈ keys a, Pr tt (env.set j (some (.int k))) (lk S l a) (keep k) ∧ Pr te (env.set j (some (.int k))) (lk S l a) (.tup false [.int k, fr (val k)])) :
    ∃ n ex, evL dictD (evCons (evLock i (evLc (evSrc (evVar i)) (tgN j) [j] tt te)) evNil) env S = .ok (.ref n) (S ++ ex) ∧ (S ++ ex)[n]? = some (false, .dct (kv (((keys a).filter keep).map fun k => (k, val k)))) ∧ S.length ≤ n := by
  obtain ⟨ex, q⟩ := lc_dict (val := fun k => .tup false [.int k, fr (val k)]) hi hij e hz hb
  have e1 : (((keys a).filter keep).map fun k => D.tup false [.int k, fr (val k)]) = (((keys a).filter keep).map fun k => (k, val k)).map fun p => D.tup false [.int p.1, fr p.2] := by rw [List.map_map]; rfl
  rw [e1] at q
  have nd2 : (keys (((keys a).filter keep).map fun k => (k, val k))).Nodup := by
    have : keys (((keys a).filter keep).map fun k => (k, val k)) = (keys a).filter keep := by
      unfold keys
      rw [List.map_map]
      exact List.map_id _
    rw [this]
    exact nd.sublist List.filter_sublist
  generalize (((keys a).filter keep).map fun k => (k, val k)) = x at q nd2 ⊢
  have d := dictD_pairs (at_end S ex _) nd2
  refine ⟨(S ++ (false, Cell.lst (x.map fun p => D.tup false [.int p.1, fr p.2])) :: ex).length, ((false, Cell.lst (x.map fun p => D.tup false [.int p.1, fr p.2])) :: ex) ++ [(false, .dct (kv x))], ?_, ?_, ?_⟩
  · unfold evL evCons evNil
    rw [q]
    simp only [Res.bind, d, Res.ofOpt, List.append_assoc]
  · rw [← List.append_assoc]; exact at_end _ _ _
  · simp
/-- what stays of a dict where noughts are left out -/
theorem nz_keys {a : W} (h : (keys a).Nodup) : nz a = ((keys a).filter fun k => decide (cf a k ≠ 0)).map fun k => (k, cf a k) := by
  have e := as_keys h
  unfold nz
  conv => lhs; rw [e]
  rw [List.filter_map]
  rfl
theorem sums_snoc (ts : W) (t : Int × Rat) : sums [] (ts ++ [t]) = put (sums [] ts) t.1 (cf (sums [] ts) t.1 + t.2) := by rw [sums_app]; rfl
/-! ### the product -/
theorem law_product {n L B m M C : Nat} {a b : W} {S : Store} {l1 l2 : Nat} (hl : l1 ≠ l2) (e1 : S[l1]? = some (false, .dct (kv a))) (e2 : S[l2]? = some (false, .dct (kv b))) (na : (keys a).Nodup) (nb : (keys b).Nodup) (ha : Sz n L B a) (hb : Sz m M C b) (R : Room2 n L B m M C) :
    ∃ r ex, g__law_product [.ref l1, .ref l2] S = .ok (.ref r) (S ++ ex) ∧ (S ++ ex)[r]? = some (false, .dct (kv (nz (sums [] (cross a b))))) ∧ S.length ≤ r := by
  have hoa : ∀ p ∈ a, Ok p.2 := fun p hp => ha.ok R.l R.b hp
  have hob : ∀ p ∈ b, Ok p.2 := fun p hp => hb.ok R.m' R.c hp
  have hla := ha.len
  have hlb := hb.len
  have hln := R.ln
  have hmn := R.mn
  have hs := szl
  have sc := ha.cross hb
  have okp : ∀ x ∈ a, ∀ y ∈ b, Ok (x.2 * y.2) := fun x hx y hy => Lat.ok ((ha.lat x hx).mul (hb.lat y hy)) (Nat.mul_pos ha.pos hb.pos) R.lm (by
    have h0 : 0 < n * m := Nat.mul_pos (by have := List.length_pos_of_mem hx; omega) (by have := List.length_pos_of_mem hy; omega)
    exact Nat.lt_of_le_of_lt (Nat.le_mul_of_pos_left _ h0) R.bc)
  -- the sums on the way
  have oks : ∀ (t : Nat) j, Ok (cf ((cross a b).take t) j) := fun t j => Lat.ok ((sc.take t).cf j) sc.pos R.lm R.bc
  have part : ∀ (i j : Nat) (p : Int × Rat), a[i]? = some p → cross (a.take i) b ++ (b.take j).map (fun r => (p.1 + r.1, p.2 * r.2)) = (cross a b).take ((cross (a.take i) b).length + ((b.take j).map (fun r => (p.1 + r.1, p.2 * r.2))).length) := fun i j p hp => by
    obtain ⟨hi, ep⟩ := List.getElem?_eq_some_iff.mp hp
    have e : a = a.take i ++ p :: a.drop (i + 1) := by
      rw [← ep, ← List.drop_eq_getElem_cons hi, List.take_append_drop]
    have ec : cross a b = cross (a.take i) b ++ (b.map (fun r => (p.1 + r.1, p.2 * r.2)) ++ cross (a.drop (i + 1)) b) := by
      conv => lhs; rw [e]
      unfold cross
      rw [List.flatMap_append, List.flatMap_cons]
    rw [ec, List.take_length_add_append]
    congr 1
    rw [List.map_take, List.length_take, List.take_append_of_le_length (Nat.min_le_right _ _), List.take_eq_take_min, List.length_map]
  have lenp : ∀ t, (sums [] ((cross a b).take t)).length < sizeLine := fun t => by
    have h1 := len_sums ((cross a b).take t) []
    have h2 : ((cross a b).take t).length ≤ (cross a b).length := by rw [List.length_take]; omega
    rw [len_cross] at h2
    have h3 : a.length * b.length < 1000 * 1000 := Nat.lt_of_le_of_lt (Nat.mul_le_mul hla hlb) (Nat.mul_lt_mul_of_lt_of_lt hln hmn)
    simp only [List.length_nil] at h1
    omega
  have nds : ∀ ts : W, (keys (sums [] ts)).Nodup := fun ts => nodup_sums ts (a := []) List.nodup_nil
  have cfs : ∀ (ts : W) j, cf (sums [] ts) j = cf ts j := fun ts j => by rw [cf_sums ts (a := []) List.nodup_nil]; simp [cf, Rat.zero_add]
  -- one turn of the inner loop
  have turn : ∀ (i j : Nat) (p r : Int × Rat) (ex : Store), a[i]? = some p → b[j]? = some r →
      (sSub putD (evVar 2) (ev2 addD (evVar 3) (evVar 4)) (evCall g__law_add (evCons (evGet2 (evVar 2) (ev2 addD (evVar 3) (evVar 4)) (evL mkTup (evCons (evC (.int 0)) (evCons (evC (.int 1)) evNil)))) (evCons (evCall g__law_by (evCons (ev2 subscD (evVar 0) (evVar 3)) (evCons (ev2 subscD (evVar 1) (evVar 4)) evNil))) evNil)))) [some (.ref l1), some (.ref l2), some (.ref S.length), some (.int p.1), some (.int r.1)] (lk (lk S l1 a) l2 b ++ (false, .dct (kv (sums [] (cross (a.take i) b ++ (b.take j).map (fun r => (p.1 + r.1, p.2 * r.2)))))) :: ex)
      = .fl (.nx [some (.ref l1), some (.ref l2), some (.ref S.length), some (.int p.1), some (.int r.1)]) (lk (lk S l1 a) l2 b ++ (false, .dct (kv (sums [] (cross (a.take i) b ++ (b.take (j + 1)).map (fun r => (p.1 + r.1, p.2 * r.2)))))) :: ex) := fun i j p r ex hp hr => by
    have hpm := List.mem_of_getElem? hp
    have hrm := List.mem_of_getElem? hr
    have fin : cross (a.take i) b ++ (b.take (j + 1)).map (fun r => (p.1 + r.1, p.2 * r.2)) = cross (a.take i) b ++ (b.take j).map (fun r => (p.1 + r.1, p.2 * r.2)) ++ [(p.1 + r.1, p.2 * r.2)] := by
      rw [take_snoc b j hr, List.map_append, List.append_assoc]
      rfl
    have okc := oks ((cross (a.take i) b).length + ((b.take j).map (fun r => (p.1 + r.1, p.2 * r.2))).length) (p.1 + r.1)
    have hlen := lenp ((cross (a.take i) b).length + ((b.take j).map (fun r => (p.1 + r.1, p.2 * r.2))).length)
    rw [← part i j p hp] at okc hlen
    rw [fin, sums_snoc]
    simp only
    generalize hts : cross (a.take i) b ++ (b.take j).map (fun r => (p.1 + r.1, p.2 * r.2)) = ts at okc hlen
    have nn := nds ts
    rw [← cfs] at okc
    generalize sums [] ts = F at okc hlen nn ⊢
    have len2 : (lk (lk S l1 a) l2 b).length = S.length := by rw [lk_len, lk_len]
    have fe : (lk (lk S l1 a) l2 b ++ (false, Cell.dct (kv F)) :: ex)[S.length]? = some (false, .dct (kv F)) := by
      have := at_end (lk (lk S l1 a) l2 b) ex (false, .dct (kv F))
      rw [len2] at this; exact this
    have st : (lk (lk S l1 a) l2 b ++ (false, Cell.dct (kv F)) :: ex).set S.length (false, .dct (kv (put F (p.1 + r.1) (cf F (p.1 + r.1) + p.2 * r.2)))) = lk (lk S l1 a) l2 b ++ (false, Cell.dct (kv (put F (p.1 + r.1) (cf F (p.1 + r.1) + p.2 * r.2)))) :: ex := by
      have := set_end (lk (lk S l1 a) l2 b) ex (false, .dct (kv F)) (false, .dct (kv (put F (p.1 + r.1) (cf F (p.1 + r.1) + p.2 * r.2))))
      rw [len2] at this; exact this
    have b1 : (lk (lk S l1 a) l2 b ++ (false, Cell.dct (kv F)) :: ex)[l1]? = some (true, .dct (kv a)) := app_at (by rw [lk_ne hl]; exact lk_at e1) _
    have b2 : (lk (lk S l1 a) l2 b ++ (false, Cell.dct (kv F)) :: ex)[l2]? = some (true, .dct (kv b)) := app_at (lk_at (by rw [lk_ne (fun z => hl z.symm)]; exact e2)) _
    have g1 := get_kv b1 na (List.mem_map_of_mem hpm)
    have g2 := get_kv b2 nb (List.mem_map_of_mem hrm)
    rw [cf_mem na hpm] at g1
    rw [cf_mem nb hrm] at g2
    have lok := look_kv fe (fun _ => rfl) nn (p.1 + r.1)
    have isd : isDct (.ref S.length) (lk (lk S l1 a) l2 b ++ (false, Cell.dct (kv F)) :: ex) = true := by unfold isDct; simp only [fe]
    have e0 : (if p.1 + r.1 ∈ keys F then some (fr (cf F (p.1 + r.1))) else none).getD (D.tup false [.int 0, .int 1]) = fr (cf F (p.1 + r.1)) := cf_or _ _
    have by' := MB.law_by (hoa p hpm) (hob r hrm) (lk (lk S l1 a) l2 b ++ (false, Cell.dct (kv F)) :: ex)
    have ad := MB.law_add okc (okp p hpm r hrm) (lk (lk S l1 a) l2 b ++ (false, Cell.dct (kv F)) :: ex)
    have pk := put_kv fe (p.1 + r.1) (cf F (p.1 + r.1) + p.2 * r.2) hlen
    unfold sSub evCall evGet2 evL evCons evNil evC ev2
    simp only [evVar, Res.bind, ofE, List.getElem?_cons_succ, List.getElem?_cons_zero, isd, if_true, mkTup, List.length_cons, List.length_nil, two_le, Nat.zero_add, Nat.reduceAdd, Res.ofOpt, addD_ii, lok, e0, g1, g2, by', ad, pk, st]
  have T2 : (lk S l1 a)[l2]? = some (false, .dct (kv b)) := by rw [lk_ne (fun z => hl z.symm)]; exact e2
  -- the inner loop
  have inner : ∀ (i : Nat) (p : Int × Rat) (e4 : Option D) (ex : Store), a[i]? = some p → ∃ e4',
      sLock 1 (sFor (evSrc (evVar 1)) (tgN 4) (sSub putD (evVar 2) (ev2 addD (evVar 3) (evVar 4)) (evCall g__law_add (evCons (evGet2 (evVar 2) (ev2 addD (evVar 3) (evVar 4)) (evL mkTup (evCons (evC (.int 0)) (evCons (evC (.int 1)) evNil)))) (evCons (evCall g__law_by (evCons (ev2 subscD (evVar 0) (evVar 3)) (evCons (ev2 subscD (evVar 1) (evVar 4)) evNil))) evNil))))) [some (.ref l1), some (.ref l2), some (.ref S.length), some (.int p.1), e4] (lk S l1 a ++ (false, .dct (kv (sums [] (cross (a.take i) b)))) :: ex)
      = .fl (.nx [some (.ref l1), some (.ref l2), some (.ref S.length), some (.int p.1), e4']) (lk S l1 a ++ (false, .dct (kv (sums [] (cross (a.take (i + 1)) b)))) :: ex) := fun i p e4 ex hp => by
    have sl : srcD (lk (lk S l1 a) l2 b ++ (false, Cell.dct (kv (sums [] (cross (a.take i) b)))) :: ex) (.ref l2) = some (srcS ((keys b).map D.int)) := srcD_lk (app_at (lk_at T2) _)
    obtain ⟨e, s, q, e4', rfl, rfl⟩ := sFor_inv (src := evSrc (evVar 1)) (tg := tgN 4) (body := (sSub putD (evVar 2) (ev2 addD (evVar 3) (evVar 4)) (evCall g__law_add (evCons (evGet2 (evVar 2) (ev2 addD (evVar 3) (evVar 4)) (evL mkTup (evCons (evC (.int 0)) (evCons (evC (.int 1)) evNil)))) (evCons (evCall g__law_by (evCons (ev2 subscD (evVar 0) (evVar 3)) (evCons (ev2 subscD (evVar 1) (evVar 4)) evNil))) evNil)))))
      (env := [some (.ref l1), some (.ref l2), some (.ref S.length), some (.int p.1), e4]) (st := lk (lk S l1 a) l2 b ++ (false, .dct (kv (sums [] (cross (a.take i) b)))) :: ex) (st1 := lk (lk S l1 a) l2 b ++ (false, .dct (kv (sums [] (cross (a.take i) b)))) :: ex) (g := srcS ((keys b).map D.int)) ((keys b).map D.int)
      (fun j env st => ∃ e4', env = [some (.ref l1), some (.ref l2), some (.ref S.length), some (.int p.1), e4'] ∧ st = lk (lk S l1 a) l2 b ++ (false, .dct (kv (sums [] (cross (a.take i) b ++ (b.take j).map (fun r => (p.1 + r.1, p.2 * r.2)))))) :: ex) (by simp; omega)
      (by
        unfold evSrc
        simp only [evVar, Res.bind, List.getElem?_cons_succ, List.getElem?_cons_zero]
        rw [sl]; rfl) ⟨e4, rfl, by simp⟩ (fun _ _ _ _ => rfl) (fun j d env st hd h => by
        obtain ⟨e4', rfl, rfl⟩ := h
        rw [List.getElem?_map, List.getElem?_map] at hd
        obtain ⟨k, hk, rfl⟩ := Option.map_eq_some_iff.mp hd
        obtain ⟨r, hr, rfl⟩ := Option.map_eq_some_iff.mp hk
        exact ⟨_, rfl, _, _, .inl (turn i j p r ex hp hr), some (.int r.1), rfl, rfl⟩)
    refine ⟨e4', sLock_run (S := lk S l1 a) (l := l2) (a := b) rfl T2 (q.trans ?_)⟩
    have : cross (a.take (i + 1)) b = cross (a.take i) b ++ (b.take ((keys b).map D.int).length).map (fun r => (p.1 + r.1, p.2 * r.2)) := by
      rw [List.length_map, List.length_map, List.take_length, take_snoc a i hp]
      unfold cross
      rw [List.flatMap_append, List.flatMap_cons, List.flatMap_nil, List.append_nil]
    rw [this]
  -- the outer loop
  have outer : ∃ e3 e4 ex, sLock 0 (sFor (evSrc (evVar 0)) (tgN 3) (sLock 1 (sFor (evSrc (evVar 1)) (tgN 4) (sSub putD (evVar 2) (ev2 addD (evVar 3) (evVar 4)) (evCall g__law_add (evCons (evGet2 (evVar 2) (ev2 addD (evVar 3) (evVar 4)) (evL mkTup (evCons (evC (.int 0)) (evCons (evC (.int 1)) evNil)))) (evCons (evCall g__law_by (evCons (ev2 subscD (evVar 0) (evVar 3)) (evCons (ev2 subscD (evVar 1) (evVar 4)) evNil))) evNil))))))) [some (.ref l1), some (.ref l2), some (.ref S.length), none, none] (S ++ [(false, .dct [])])
      = .fl (.nx [some (.ref l1), some (.ref l2), some (.ref S.length), e3, e4]) (S ++ (false, .dct (kv (sums [] (cross a b)))) :: ex) := by
    have sl : srcD (lk S l1 a ++ [(false, Cell.dct [])]) (.ref l1) = some (srcS ((keys a).map D.int)) := srcD_lk (app_at (lk_at e1) _)
    obtain ⟨e, s, q, e3, e4, rfl, rfl⟩ := sFor_inv (src := evSrc (evVar 0)) (tg := tgN 3) (body := (sLock 1 (sFor (evSrc (evVar 1)) (tgN 4) (sSub putD (evVar 2) (ev2 addD (evVar 3) (evVar 4)) (evCall g__law_add (evCons (evGet2 (evVar 2) (ev2 addD (evVar 3) (evVar 4)) (evL mkTup (evCons (evC (.int 0)) (evCons (evC (.int 1)) evNil)))) (evCons (evCall g__law_by (evCons (ev2 subscD (evVar 0) (evVar 3)) (evCons (ev2 subscD (evVar 1) (evVar 4)) evNil))) evNil)))))))
      (env := [some (.ref l1), some (.ref l2), some (.ref S.length), none, none]) (st := lk S l1 a ++ [(false, .dct [])]) (st1 := lk S l1 a ++ [(false, .dct [])]) (g := srcS ((keys a).map D.int)) ((keys a).map D.int)
      (fun i env st => ∃ e3 e4, env = [some (.ref l1), some (.ref l2), some (.ref S.length), e3, e4] ∧ st = lk S l1 a ++ (false, .dct (kv (sums [] (cross (a.take i) b)))) :: []) (by simp; omega)
      (by
        unfold evSrc
        simp only [evVar, Res.bind, List.getElem?_cons_succ, List.getElem?_cons_zero]
        rw [sl]; rfl) ⟨none, none, rfl, rfl⟩ (fun _ _ _ _ => rfl) (fun i d env st hd h => by
        obtain ⟨e3, e4, rfl, rfl⟩ := h
        rw [List.getElem?_map, List.getElem?_map] at hd
        obtain ⟨k, hk, rfl⟩ := Option.map_eq_some_iff.mp hd
        obtain ⟨p, hp, rfl⟩ := Option.map_eq_some_iff.mp hk
        obtain ⟨e4', h'⟩ := inner i p e4 [] hp
        exact ⟨_, rfl, _, _, .inl h', some (.int p.1), e4', rfl, rfl⟩)
    refine ⟨e3, e4, [], sLock_run (S := S) (l := l1) (a := a) rfl e1 (q.trans ?_)⟩
    rw [List.length_map, List.length_map, List.take_length]
  obtain ⟨e3, e4, ex, q⟩ := outer
  have nn := nds (cross a b)
  have hlen := lenp (cross a b).length
  rw [List.take_length] at hlen
  have fe := at_end S ex (false, .dct (kv (sums [] (cross a b))))
  obtain ⟨r, ex2, q2, h2, h3⟩ := dict_out (env := [some (.ref l1), some (.ref l2), some (.ref S.length), e3, e4]) (i := 2) (j := 3) (keep := fun k => decide (cf (sums [] (cross a b)) k ≠ 0)) (val := fun k => cf (sums [] (cross a b)) k) (tt := evTB (ev2 neX (ev2 subscD (ev2 subscD (evVar 2) (evVar 3)) (evC (.int 0))) (evC (.int 0)))) (te := evL mkTup (evCons (evVar 3) (evCons (ev2 subscD (evVar 2) (evVar 3)) evNil))) rfl (by omega) fe nn hlen (fun k hk => by
    have gk : ∀ s, Ext (lk (S ++ (false, .dct (kv (sums [] (cross a b)))) :: ex) S.length (sums [] (cross a b))) s → subscD (.ref S.length) (.int k) s = some (fr (cf (sums [] (cross a b)) k), s) := fun s x => get_kv (x.get (lk_at fe)) nn hk
    constructor
    · have h : Pr (evTB (ev2 neX (ev2 subscD (ev2 subscD (evVar 2) (evVar 3)) (evC (.int 0))) (evC (.int 0)))) [some (.ref l1), some (.ref l2), some (.ref S.length), some (.int k), e4] (lk (S ++ (false, .dct (kv (sums [] (cross a b)))) :: ex) S.length (sums [] (cross a b))) (decide ((cf (sums [] (cross a b)) k).num ≠ 0)) :=
        pr_TB (pr_2 (pr_2 (pr_2 (pr_var rfl) (pr_var rfl) gk) pr_c (fun _ _ => ix0 _ _ _ _)) pr_c (fun _ _ => neX_ii _ _ _))
      rw [num_dec] at h
      exact h
    · exact pr_L (pr_cons (pr_var rfl) (pr_cons (pr_2 (pr_var rfl) (pr_var rfl) gk) pr_nil)) (fun _ _ => rfl))
  rw [← nz_keys nn] at h2
  refine ⟨r, (false, .dct (kv (sums [] (cross a b)))) :: ex ++ ex2, ?_, ?_, ?_⟩
  · unfold g__law_product b__law_product runS startD
    simp only [sSeq, sSet, mkDct, ofE, List.map_cons, List.map_nil, List.length_cons, List.length_nil, Nat.zero_add, Nat.reduceAdd, Nat.reduceSub, List.replicate_succ, List.replicate_zero, List.cons_append, List.nil_append, List.set_cons_succ, List.set_cons_zero]
    rw [q]
    simp only [sRet, ofE]
    rw [q2]
    simp only [List.append_assoc, List.cons_append]
  · rw [← List.append_assoc]; exact h2
  · simp at h3; omega
end MG
set_option Elab.async false
set_option linter.all false
set_option maxRecDepth 100000
set_option maxHeartbeats 1000000
/-! MH: the law's own worths: as tuples, above nought, the sign of a difference. -/
namespace MH
open PySem PySem.Spec PyProof.Rows L2 PP MA MB MC MD ME MF MG G24
theorem law_as {S : Store} {l : Nat} {a : W} (e : S[l]? = some (false, .dct (kv a))) (nd : (keys a).Nodup) (hz : a.length < sizeLine) : Pg g__law_as [.ref l] S (tms (srt a)) := by
  refine rps_ret (pr_lcL ((ups (keys a)).map D.int) (fun _ => true) (kz a) ?hz (fun S' x => ?hs) (fun d hd => ?hb) (fun S' l' x e' => ?ho))
  case hz =>
    rw [List.length_map, (ups_perm _).length_eq, List.length_map]
    exact hz
  case hs =>
    refine ⟨srcL S'.length, [(false, .lst ((ups (keys a)).map D.int))], ?_, fun S2 i x' => ?_⟩
    · unfold evSrc evL evCons evNil startD
      simp only [evVar, Res.bind, List.map_cons, List.map_nil, List.length_cons, List.length_nil, Nat.zero_add, Nat.reduceSub, List.replicate_succ, List.replicate_zero, List.cons_append, List.nil_append, List.getElem?_cons_zero, sortedD_kv (x.get e), Res.ofOpt, srcD, at_end]
      rfl
    · unfold srcL
      rw [x'.get (at_end S' [] _)]
  case hb =>
    obtain ⟨k, hk, rfl⟩ := List.mem_map.mp hd
    have hk' : k ∈ keys a := (ups_perm _).mem_iff.mp hk
    exact ⟨_, rfl, Rpu.ok, fun _ => pr_2 (pr_L (pr_cons (pr_var rfl) pr_nil) (fun _ _ => rfl)) (pr_2 (pr_var rfl) (pr_var rfl) (fun s x => get_kv (x.get e) nd hk')) (fun _ _ => add_tm _ _ _)⟩
  case ho =>
    have : (((ups (keys a)).map D.int).filter fun _ => true).map (kz a) = (srt a).map tm := by
      rw [List.filter_eq_self.mpr (fun _ _ => rfl)]
      unfold srt
      rw [List.map_map, List.map_map]
      rfl
    rw [this] at e'
    unfold tupleD
    simp only [e']
theorem srt_nz {a : W} (nd : (keys a).Nodup) (h : ∀ p ∈ a, p.2 ≠ 0) : Good (srt a) := by
  have : nz (srt a) = srt a := List.filter_eq_self.mpr fun p hp => by simpa using h p ((srt_perm nd).mem_iff.mp hp)
  rw [← this]
  exact good_srt nd
theorem law_is (b c : Bool) (S : Store) : Pg g__law_is [.bl b, .bl c] S (.bl (b == c)) := by
  have e : ∀ s, eqX (.bl b) (.bl c) s = some (.bl (b == c), s) := fun s => by
    unfold eqX eqD
    rw [show empD s (.bl b) (.bl c) = none from rfl]
    have : rdP s (.bl b) = some (.bool b) := rfl
    have k : rdP s (.bl c) = some (.bool c) := rfl
    simp only [this, k, PyData.eqv]
  exact rps_ret (pr_and_bl (b := true) (b' := (b == c)) (pr_isi (pr_var rfl) (fun _ _ => rfl)) (fun _ => pr_2 (pr_var rfl) (pr_var rfl) (fun _ _ => e _)))
theorem least_of {ks : List Int} (h : ks ≠ []) : ∃ m, leastI ks = some m ∧ m ∈ ks ∧ ∀ y ∈ ks, m ≤ y := by
  cases ks with
  | nil => exact absurd rfl h
  | cons n ns => exact ⟨_, rfl, (least_fold ns n).1, (least_fold ns n).2⟩
theorem keysI_kv {S : Store} {l : Nat} {a : W} (e : S[l]? = some (false, .dct (kv a))) (h : a ≠ []) : keysI S (.ref l) = some (keys a) := by
  cases a with
  | nil => exact absurd rfl h
  | cons p a =>
    unfold keysI
    simp only [e, kv, List.map_cons]
    have := intsD_map (keys (p :: a))
    rw [← kv_keys] at this
    exact this
theorem min_kv {S : Store} {l : Nat} {a : W} (e : S[l]? = some (false, .dct (kv a))) (h : a ≠ []) : ∃ m, minD' [.ref l] S = some (.int m, S) ∧ m ∈ keys a ∧ ∀ y ∈ keys a, m ≤ y := by
  obtain ⟨m, e1, e2, e3⟩ := least_of (ks := keys a) (fun z => h (List.map_eq_nil_iff.mp z))
  refine ⟨m, ?_, e2, e3⟩
  unfold minD'
  have : lstD S (.ref l) = none := by unfold lstD; simp only [e]
  simp only [this, Option.bind_none, keysI_kv e h, e1, Option.map_some]
theorem num_neg (q : Rat) : (q.num < 0) ↔ q < 0 := by
  have h := num_pos (-q)
  rw [Rat.neg_num] at h
  constructor
  · intro k
    have := h.mp (by omega)
    grind
  · intro k
    have := h.mpr (by grind)
    omega
theorem neX_emp {S : Store} {l : Nat} {a : W} (e : S[l]? = some (false, .dct (kv a))) : neX (.ref l) (.ref S.length) (S ++ [(false, .dct [])]) = some (.bl (!a.isEmpty), S ++ [(false, .dct [])]) := by
  have hl := lt_of_at e
  unfold neX empD
  have : ¬ l = S.length := by omega
  simp only [at_end, if_neg this, dctK_kv (app_at e _), Option.map_some]
  cases a <;> rfl
theorem keys_neg (a : W) : keys (neg a) = keys a := by
  unfold keys neg
  rw [List.map_map]; rfl
theorem neg_keys {a : W} (h : (keys a).Nodup) : neg a = ((keys a).filter fun _ => true).map fun k => (k, - cf a k) := by
  rw [List.filter_eq_self.mpr (fun _ _ => rfl)]
  have e := as_keys h
  conv => lhs; rw [e]
  unfold neg
  rw [List.map_map]; rfl
/-- the sign of a dict's worth, by its least order -/
theorem sg_least {a : W} {m : Int} (nd : (keys a).Nodup) (hn : cf a m ≠ 0) (hm : ∀ y ∈ keys a, cf a y ≠ 0 → m ≤ y) : Sg (cf a) (sgv (cf a m)) := .inr ⟨m, hn, fun j hj => by
  by_cases hk : j ∈ keys a
  · by_cases z : cf a j = 0
    · exact z
    · have := hm j hk z; omega
  · exact cf_notin hk, rfl⟩
theorem above_nought {S : Store} {l : Nat} {a : W} (e : S[l]? = some (false, .dct (kv a))) (nd : (keys a).Nodup) (hz : a.length < sizeLine) (hn : ∀ p ∈ a, p.2 ≠ 0) (h0 : a ≠ []) :
    ∃ r ex b, g__law_above_nought [.ref l] S = .ok (.ref r) (S ++ ex) ∧ (S ++ ex)[r]? = some (false, .dct (kv b)) ∧ (b = a ∨ b = neg a) ∧ Sg (cf b) 1 ∧ (r = l ∨ S.length ≤ r) := by
  obtain ⟨m, e1, e2, e3⟩ := min_kv (app_at e [(false, .dct [])]) h0
  have hg := get_kv (app_at e [(false, .dct [])]) nd e2
  have ne := neX_emp e
  have hem : a.isEmpty = false := by cases a with | nil => exact absurd rfl h0 | cons p a => rfl
  rw [hem] at ne
  have cm : cf a m ≠ 0 := by
    obtain ⟨p, hp, rfl⟩ := List.mem_map.mp e2
    rw [cf_mem nd hp]; exact hn p hp
  have sg := sg_least nd cm (fun y hy _ => e3 y hy)
  have cond : tand (evTB (ev2 neX (evVar 0) mkDct)) (evTB (ev2 ltD (ev2 subscD (ev2 subscD (evVar 0) (evL minD' (evCons (evVar 0) evNil))) (evC (.int 0))) (evC (.int 0)))) [some (.ref l), none] S = .ok (decide ((cf a m).num < 0)) (S ++ [(false, .dct [])]) := by
    unfold tand evTB ev2 evL evCons evNil evC mkDct
    simp only [evVar, Res.bind, List.getElem?_cons_zero, Res.ofOpt, ne, asB, Option.map_some, Bool.not_false, if_true, e1, hg, ix0, ltD_ii]
  unfold g__law_above_nought b__law_above_nought runS startD
  simp only [List.map_cons, List.map_nil, List.length_cons, List.length_nil, Nat.zero_add, Nat.reduceSub, List.replicate_succ, List.replicate_zero, List.cons_append, List.nil_append]
  unfold sSeq sIf ofE
  rw [cond]
  by_cases c : (cf a m).num < 0
  · have c' := (num_neg _).mp c
    obtain ⟨r, ex, q, h1, h2⟩ := dict_out (env := [some (.ref l), none]) (i := 0) (j := 1) (keep := fun _ => true) (val := fun k => - cf a k) (tt := tyes) (te := (evL mkTup (evCons (evVar 1) (evCons (evL mkTup (evCons (ev1 negD (ev2 subscD (ev2 subscD (evVar 0) (evVar 1)) (evC (.int 0)))) (evCons (ev2 subscD (ev2 subscD (evVar 0) (evVar 1)) (evC (.int 1))) evNil))) evNil)))) rfl (by omega) (app_at e [(false, .dct [])]) nd hz (fun k hk => by
      refine ⟨Rpu.ok, ?_⟩
      have gk : ∀ s, Ext (lk (S ++ [(false, .dct [])]) l a) s → subscD (.ref l) (.int k) s = some (fr (cf a k), s) := fun s x => get_kv (x.get (lk_at (app_at e [(false, .dct [])]))) nd hk
      refine pr_L (pr_cons (pr_var rfl) (pr_cons (pr_L (pr_cons (pr_1 (pr_2 (pr_2 (pr_var rfl) (pr_var rfl) gk) pr_c (fun _ _ => ix0 _ _ _ _)) (fun _ _ => rfl)) (pr_cons (pr_2 (pr_2 (pr_var rfl) (pr_var rfl) gk) pr_c (fun _ _ => ix1 _ _ _ _ _)) pr_nil)) (fun _ _ => rfl)) pr_nil)) (fun s _ => ?_)
      show some (D.tup false [.int k, .tup false [.int (-(cf a k).num), .int (cf a k).den]], s) = some (D.tup false [.int k, .tup false [.int (-(cf a k)).num, .int ((-(cf a k)).den : Nat)]], s)
      rw [Rat.neg_num, Rat.neg_den])
    rw [← neg_keys nd] at h1
    refine ⟨r, [(false, .dct [])] ++ ex, neg a, ?_, ?_, .inr rfl, ?_, .inr (by simp at h2; omega)⟩
    · rw [decide_eq_true c]
      simp only [if_true, sRet, ofE]
      rw [q]
      simp only [List.append_assoc, List.cons_append, List.nil_append]
    · rw [← List.append_assoc]; exact h1
    · have := sg.neg (g := cf (neg a)) (fun k => cf_neg a k)
      have e : -sgv (cf a m) = 1 := by unfold sgv; rw [if_neg (by grind)]; rfl
      rw [e] at this
      exact this
  · have c' : 0 < cf a m := by
      have : ¬ cf a m < 0 := fun z => c ((num_neg _).mpr z)
      grind
    refine ⟨l, [(false, .dct [])], a, ?_, app_at e _, .inl rfl, ?_, .inl rfl⟩
    · rw [decide_eq_false c]
      simp [sNext, sRet, ofE, evVar]
    · have e : sgv (cf a m) = 1 := if_pos c'
      rw [e] at sg
      exact sg
/-! ### the sign of one quotient less another -/
theorem rd_ints (S : Store) (l : Nat) (b : Bool) (ks : List Int) (e : S[l]? = some (b, .lst (ks.map D.int))) : rdP S (.ref l) = some (.list (ks.map PyData.int)) := by
  show (match S[l]? with | some (_, .lst ds) => (optAll (ds.map (toP S 29))).map PyData.list | _ => none) = _
  rw [e]
  have : (ks.map D.int).map (toP S 29) = ks.map fun k => some (PyData.int k) := by rw [List.map_map]; rfl
  simp only [this, optAll_some PyData.int, Option.map_some]
theorem eq_emptyL {S : Store} {l : Nat} {ks : List Int} (e : S[l]? = some (false, .lst (ks.map D.int))) : eqX (.ref l) (.ref S.length) (S ++ [(false, .lst [])]) = some (.bl ks.isEmpty, S ++ [(false, .lst [])]) := by
  unfold eqX eqD
  have h1 := rd_ints (S ++ [(false, .lst [])]) l false ks (app_at e _)
  have h2 := rd_ints (S ++ [(false, .lst [])]) S.length false [] (at_end _ _ _)
  have h3 : empD (S ++ [(false, .lst [])]) (.ref l) (.ref S.length) = none := by
    unfold empD
    simp only [at_end]
  rw [h3, h1, h2]
  cases ks <;> simp [PyData.eqv, PyData.eqvAll]
theorem min_list {S : Store} {l : Nat} {ks : List Int} (e : S[l]? = some (false, .lst (ks.map D.int))) (h : ks ≠ []) : ∃ m, minD' [.ref l] S = some (.int m, S) ∧ m ∈ ks ∧ ∀ y ∈ ks, m ≤ y := by
  obtain ⟨m, e1, e2, e3⟩ := least_of h
  refine ⟨m, ?_, e2, e3⟩
  unfold minD'
  have : lstD S (.ref l) = some (ks.map D.int) := by unfold lstD; simp only [e]
  simp only [this, Option.bind_some, intsD_map, e1, Option.map_some]
theorem sg_none {a : W} (nd : (keys a).Nodup) (h : ∀ y ∈ keys a, cf a y = 0) : Sg (cf a) 0 := .inl ⟨rfl, fun k => by
  by_cases hk : k ∈ keys a
  · exact h k hk
  · exact cf_notin hk⟩
theorem sz_nzs {n L B : Nat} {ts : W} (h : Sz n L B ts) : Sz n L (n * B) (nz (sums [] ts)) := by
  have nd := nodup_tot ts
  refine ⟨?_, fun p hp => ?_, h.pos⟩
  · have h1 : (nz (sums [] ts)).length ≤ (sums [] ts).length := List.length_filter_le _ _
    have h2 := len_sums ts []
    have := h.len
    simp only [List.length_nil] at h2
    omega
  · have hp' := (List.mem_filter.mp hp).1
    rw [← cf_mem nd hp', cf_sums ts (a := []) List.nodup_nil]
    have := h.cf p.1
    simpa [cf, Rat.zero_add] using this
theorem law_sign {n L B m M C : Nat} {a0 a1 b0 b1 : W} {S : Store} {la0 la1 lb0 lb1 : Nat} (d1 : la0 ≠ lb1) (d2 : lb0 ≠ la1)
    (ea0 : S[la0]? = some (false, .dct (kv a0))) (ea1 : S[la1]? = some (false, .dct (kv a1))) (eb0 : S[lb0]? = some (false, .dct (kv b0))) (eb1 : S[lb1]? = some (false, .dct (kv b1)))
    (na0 : (keys a0).Nodup) (na1 : (keys a1).Nodup) (nb0 : (keys b0).Nodup) (nb1 : (keys b1).Nodup) (h0 : Sz n L B a0) (h1 : Sz n L B a1) (k0 : Sz m M C b0) (k1 : Sz m M C b1) (R : Room3 n L B m M C) :
    ∃ s ex, g__law_sign [.tup false [.ref la0, .ref la1], .tup false [.ref lb0, .ref lb1]] S = .ok (.int s) (S ++ ex) ∧ Sg (fun j => cf (cross a0 b1) j - cf (cross b0 a1) j) s := by
  obtain ⟨r1, x1, q1, f1, l1⟩ := law_product d1 ea0 eb1 na0 nb1 h0 k1 R.two
  obtain ⟨r2, x2, q2, f2, l2⟩ := law_product d2 (app_at eb0 x1) (app_at ea1 x1) nb0 na1 k0 h1 R.symm.two
  have c1 := h0.cross k1
  have c2 := k0.cross h1
  have z1 := sz_nzs c1
  have z2 := sz_nzs c2
  rw [Nat.mul_comm m n, Nat.mul_comm M L, Nat.mul_comm C B] at z2
  have nF := keys_nz (nodup_tot (cross a0 b1))
  have nG := keys_nz (nodup_tot (cross b0 a1))
  have cF : ∀ j, cf (nz (sums [] (cross a0 b1))) j = cf (cross a0 b1) j := fun j => by
    rw [cf_nz, cf_sums _ (a := []) List.nodup_nil]; simp [cf, Rat.zero_add]
  have cG : ∀ j, cf (nz (sums [] (cross b0 a1))) j = cf (cross b0 a1) j := fun j => by
    rw [cf_nz, cf_sums _ (a := []) List.nodup_nil]; simp [cf, Rat.zero_add]
  generalize nz (sums [] (cross a0 b1)) = F at *
  generalize nz (sums [] (cross b0 a1)) = G at *
  have hs := szl
  have hnm : n * m < 500 * 500 := Nat.mul_lt_mul_of_lt_of_lt R.ln R.mn
  have f1' := app_at f1 x2
  generalize hT : S ++ x1 ++ x2 = T at *
  have e0 : ∃ x0, T = S ++ x0 := ⟨x1 ++ x2, by rw [← hT, List.append_assoc]⟩
  have szA := z1.app (szneg z2)
  have ok1 : ∀ i j, Ok (cf (sums F ((neg G).take i)) j) := fun i j => by
    rw [cf_sums _ nF, ← cf_app]
    have sz : Sz (n * m + n * m) (L * M) (n * m * (B * C) + n * m * (B * C)) (F ++ (neg G).take i) := z1.app ((szneg z2).take i)
    exact Lat.ok (sz.cf j) sz.pos R.lm R.bc
  have okG : ∀ p ∈ neg G, Ok p.2 := fun p hp => Lat.ok (((szneg z2).lat p hp).le (by omega : n * m * (B * C) ≤ n * m * (B * C) + n * m * (B * C))) z2.pos R.lm R.one
  have lenI : ∀ i, (sums F ((neg G).take i)).length < sizeLine := fun i => by
    have a1 := len_sums ((neg G).take i) F
    have a2 := z1.len
    have a3 := z2.len
    have a4 : ((neg G).take i).length ≤ G.length := by rw [List.length_take, List.length_map]; omega
    omega
  have nI : ∀ i, (keys (sums F ((neg G).take i))).Nodup := fun i => nodup_sums _ nF
  -- one turn
  have turn : ∀ (i : Nat) (p : Int × Rat) (v0 v1 v4 v5 : Option D), G[i]? = some p →
      (sSub putD (evVar 2) (evVar 3) (evCall g__law_add (evCons (evGet2 (evVar 2) (evVar 3) (evL mkTup (evCons (evC (.int 0)) (evCons (evC (.int 1)) evNil)))) (evCons (evL mkTup (evCons (ev1 negD (ev2 subscD (ev2 subscD (evVar 6) (evVar 3)) (evC (.int 0)))) (evCons (ev2 subscD (ev2 subscD (evVar 6) (evVar 3)) (evC (.int 1))) evNil))) evNil)))) [v0, v1, some (.ref T.length), some (.int p.1), v4, v5, some (.ref r2)] (lk T r2 G ++ (false, .dct (kv (sums F ((neg G).take i)))) :: [])
      = .fl (.nx [v0, v1, some (.ref T.length), some (.int p.1), v4, v5, some (.ref r2)]) (lk T r2 G ++ (false, .dct (kv (sums F ((neg G).take (i + 1))))) :: []) := fun i p v0 v1 v4 v5 hp => by
    have hpm := List.mem_of_getElem? hp
    have hp' : (neg G)[i]? = some (p.1, -p.2) := by rw [List.getElem?_map, hp]; rfl
    have fin : sums F ((neg G).take (i + 1)) = put (sums F ((neg G).take i)) p.1 (cf (sums F ((neg G).take i)) p.1 + -p.2) := by
      rw [take_snoc _ _ hp', sums_app]; rfl
    have o1 := ok1 i p.1
    have o2 : Ok (-p.2) := okG (p.1, -p.2) (List.mem_of_getElem? hp')
    have hlen := lenI i
    have nn := nI i
    rw [fin]
    generalize sums F ((neg G).take i) = Q at o1 hlen nn ⊢
    have fe : (lk T r2 G ++ (false, Cell.dct (kv Q)) :: [])[T.length]? = some (false, .dct (kv Q)) := by
      have := at_end (lk T r2 G) [] (false, .dct (kv Q))
      rw [lk_len] at this; exact this
    have st : (lk T r2 G ++ (false, Cell.dct (kv Q)) :: []).set T.length (false, .dct (kv (put Q p.1 (cf Q p.1 + -p.2)))) = lk T r2 G ++ (false, Cell.dct (kv (put Q p.1 (cf Q p.1 + -p.2)))) :: [] := by
      have := set_end (lk T r2 G) [] (false, .dct (kv Q)) (false, .dct (kv (put Q p.1 (cf Q p.1 + -p.2))))
      rw [lk_len] at this; exact this
    have b1 : (lk T r2 G ++ (false, Cell.dct (kv Q)) :: [])[r2]? = some (true, .dct (kv G)) := app_at (lk_at f2) _
    have g1 := get_kv b1 nG (List.mem_map_of_mem hpm)
    rw [cf_mem nG hpm] at g1
    have lok := look_kv fe (fun _ => rfl) nn p.1
    have isd : isDct (.ref T.length) (lk T r2 G ++ (false, Cell.dct (kv Q)) :: []) = true := by unfold isDct; simp only [fe]
    have e0 : (if p.1 ∈ keys Q then some (fr (cf Q p.1)) else none).getD (D.tup false [.int 0, .int 1]) = fr (cf Q p.1) := cf_or _ _
    have ng : D.tup false [.int (-p.2.num), .int p.2.den] = fr (-p.2) := by
      show _ = D.tup false [.int (-p.2).num, .int ((-p.2).den : Nat)]
      rw [Rat.neg_num, Rat.neg_den]
    have ad := MB.law_add o1 o2 (lk T r2 G ++ (false, Cell.dct (kv Q)) :: [])
    have pk := put_kv fe p.1 (cf Q p.1 + -p.2) hlen
    unfold sSub evCall evGet2 evL evCons evNil evC ev2 ev1
    simp only [evVar, Res.bind, ofE, List.getElem?_cons_succ, List.getElem?_cons_zero, isd, if_true, mkTup, List.length_cons, List.length_nil, two_le, Nat.zero_add, Nat.reduceAdd, Res.ofOpt, lok, e0, g1, ix0, ix1, negD, ng, ad, pk, st]
  have loop : ∀ (v0 v1 v4 v5 : Option D), ∃ e3, sLock 6 (sFor (evSrc (evVar 6)) (tgN 3) (sSub putD (evVar 2) (evVar 3) (evCall g__law_add (evCons (evGet2 (evVar 2) (evVar 3) (evL mkTup (evCons (evC (.int 0)) (evCons (evC (.int 1)) evNil)))) (evCons (evL mkTup (evCons (ev1 negD (ev2 subscD (ev2 subscD (evVar 6) (evVar 3)) (evC (.int 0)))) (evCons (ev2 subscD (ev2 subscD (evVar 6) (evVar 3)) (evC (.int 1))) evNil))) evNil))))) [v0, v1, some (.ref T.length), none, v4, v5, some (.ref r2)] (T ++ [(false, .dct (kv F))])
      = .fl (.nx [v0, v1, some (.ref T.length), e3, v4, v5, some (.ref r2)]) (T ++ [(false, .dct (kv (sums F (neg G))))]) := fun v0 v1 v4 v5 => by
    have sl : srcD (lk T r2 G ++ [(false, Cell.dct (kv F))]) (.ref r2) = some (srcS ((keys G).map D.int)) := srcD_lk (app_at (lk_at f2) _)
    obtain ⟨e, s, q, e3, rfl, rfl⟩ := sFor_inv (src := evSrc (evVar 6)) (tg := tgN 3) (body := (sSub putD (evVar 2) (evVar 3) (evCall g__law_add (evCons (evGet2 (evVar 2) (evVar 3) (evL mkTup (evCons (evC (.int 0)) (evCons (evC (.int 1)) evNil)))) (evCons (evL mkTup (evCons (ev1 negD (ev2 subscD (ev2 subscD (evVar 6) (evVar 3)) (evC (.int 0)))) (evCons (ev2 subscD (ev2 subscD (evVar 6) (evVar 3)) (evC (.int 1))) evNil))) evNil)))))
      (env := [v0, v1, some (.ref T.length), none, v4, v5, some (.ref r2)]) (st := lk T r2 G ++ [(false, .dct (kv F))]) (st1 := lk T r2 G ++ [(false, .dct (kv F))]) (g := srcS ((keys G).map D.int)) ((keys G).map D.int)
      (fun i env st => ∃ e3, env = [v0, v1, some (.ref T.length), e3, v4, v5, some (.ref r2)] ∧ st = lk T r2 G ++ (false, .dct (kv (sums F ((neg G).take i)))) :: []) (by
        have := z2.len
        simp; omega)
      (by
        unfold evSrc
        simp only [evVar, Res.bind, List.getElem?_cons_succ, List.getElem?_cons_zero]
        rw [sl]; rfl) ⟨none, rfl, rfl⟩ (fun _ _ _ _ => rfl) (fun i d env st hd h => by
        obtain ⟨e3, rfl, rfl⟩ := h
        rw [List.getElem?_map, List.getElem?_map] at hd
        obtain ⟨k, hk, rfl⟩ := Option.map_eq_some_iff.mp hd
        obtain ⟨p, hp, rfl⟩ := Option.map_eq_some_iff.mp hk
        exact ⟨_, rfl, _, _, .inl (turn i p v0 v1 v4 v5 hp), some (.int p.1), rfl, rfl⟩)
    refine ⟨e3, sLock_run (S := T) (l := r2) (a := G) rfl f2 (q.trans ?_)⟩
    have : (neg G).take ((keys G).map D.int).length = neg G := List.take_of_length_le (by simp)
    rw [this]
  have nH : (keys (sums F (neg G))).Nodup := nodup_sums _ nF
  have lenH : (sums F (neg G)).length < sizeLine := by
    have := lenI (neg G).length
    rw [List.take_length] at this
    exact this
  have cH : ∀ j, cf (sums F (neg G)) j = cf (cross a0 b1) j - cf (cross b0 a1) j := fun j => by
    rw [cf_sums _ nF, cf_neg, cF, cG, Rat.sub_eq_add_neg]
  generalize sums F (neg G) = H at *
  have fH : (T ++ [(false, Cell.dct (kv H))])[T.length]? = some (false, .dct (kv H)) := at_end _ _ _
  obtain ⟨e3, ql⟩ := loop (some (.tup false [.ref la0, .ref la1])) (some (.tup false [.ref lb0, .ref lb1])) none (some (.ref r1))
  obtain ⟨x4, qr⟩ := lc_dict_in (env := [some (.tup false [.ref la0, .ref la1]), some (.tup false [.ref lb0, .ref lb1]), some (.ref T.length), e3, none, some (.ref r1), some (.ref r2)]) (i := 2) (j := 3) (keep := fun k => decide (cf H k ≠ 0)) (val := D.int) (tt := evTB (ev2 neX (ev2 subscD (ev2 subscD (evVar 2) (evVar 3)) (evC (.int 0))) (evC (.int 0)))) (te := evVar 3) rfl (by omega) fH lenH (fun k hk => by
    have gk : ∀ s, Ext (lk (T ++ [(false, Cell.dct (kv H))]) T.length H) s → subscD (.ref T.length) (.int k) s = some (fr (cf H k), s) := fun s x => get_kv (x.get (lk_at fH)) nH hk
    constructor
    · have h := pr_TB (pr_2 (pr_2 (pr_2 (f := evVar 2) (g := evVar 3) (env := [some (.tup false [.ref la0, .ref la1]), some (.tup false [.ref lb0, .ref lb1]), some (.ref T.length), some (.int k), none, some (.ref r1), some (.ref r2)]) (pr_var rfl) (pr_var rfl) gk) pr_c (fun _ _ => ix0 _ _ _ _)) (pr_c (x := .int 0)) (fun _ _ => neX_ii _ _ _))
      rw [num_dec] at h
      exact h
    · exact pr_var rfl)
  have sd : sLock 2 (sSet 4 (evLc (evSrc (evVar 2)) (tgN 3) [3] (evTB (ev2 neX (ev2 subscD (ev2 subscD (evVar 2) (evVar 3)) (evC (.int 0))) (evC (.int 0)))) (evVar 3))) [some (.tup false [.ref la0, .ref la1]), some (.tup false [.ref lb0, .ref lb1]), some (.ref T.length), e3, none, some (.ref r1), some (.ref r2)] (T ++ [(false, .dct (kv H))]) = .fl (.nx [some (.tup false [.ref la0, .ref la1]), some (.tup false [.ref lb0, .ref lb1]), some (.ref T.length), e3, some (.ref (T ++ [(false, Cell.dct (kv H))]).length), some (.ref r1), some (.ref r2)]) (T ++ [(false, .dct (kv H))] ++ (false, .lst (((keys H).filter fun k => decide (cf H k ≠ 0)).map D.int)) :: x4) := by
    have := sLock_run (S := T ++ [(false, Cell.dct (kv H))]) (l := T.length) (a := H) (i := 2) (r := []) (r' := (false, .lst (((keys H).filter fun k => decide (cf H k ≠ 0)).map D.int)) :: x4) (env := [some (.tup false [.ref la0, .ref la1]), some (.tup false [.ref lb0, .ref lb1]), some (.ref T.length), e3, none, some (.ref r1), some (.ref r2)]) (f := sSet 4 (evLc (evSrc (evVar 2)) (tgN 3) [3] (evTB (ev2 neX (ev2 subscD (ev2 subscD (evVar 2) (evVar 3)) (evC (.int 0))) (evC (.int 0)))) (evVar 3))) rfl fH (by
      rw [List.append_nil]
      unfold sSet ofE
      rw [qr])
    rw [List.append_nil] at this
    exact this
  have start : (sSeq (sPar 5 6 (evCons (evCall g__law_product (evCons (ev2 subscD (evVar 0) (evC (.int 0))) (evCons (ev2 subscD (evVar 1) (evC (.int 1))) evNil))) (evCons (evCall g__law_product (evCons (ev2 subscD (evVar 1) (evC (.int 0))) (evCons (ev2 subscD (evVar 0) (evC (.int 1))) evNil))) evNil))) (sSet 2 (evL dictD (evCons (evVar 5) evNil)))) [some (.tup false [.ref la0, .ref la1]), some (.tup false [.ref lb0, .ref lb1]), none, none, none, none, none] S
      = .fl (.nx [some (.tup false [.ref la0, .ref la1]), some (.tup false [.ref lb0, .ref lb1]), some (.ref T.length), none, none, some (.ref r1), some (.ref r2)]) (T ++ [(false, .dct (kv F))]) := by
    have cp := dictD_copy f1'
    unfold sSeq sPar sSet ofE evCall evCons evNil ev2 evL evC
    simp only [evVar, Res.bind, List.getElem?_cons_succ, List.getElem?_cons_zero, ix0, ix1, Res.ofOpt, q1, q2, hT, List.set_cons_succ, List.set_cons_zero, cp]
  generalize hks : (keys H).filter (fun k => decide (cf H k ≠ 0)) = ks at sd
  generalize hU : T ++ [(false, Cell.dct (kv H))] ++ (false, Cell.lst (ks.map D.int)) :: x4 = U at sd
  have fU : U[T.length]? = some (false, .dct (kv H)) := by rw [← hU]; exact app_at fH _
  have fL : U[(T ++ [(false, Cell.dct (kv H))]).length]? = some (false, .lst (ks.map D.int)) := by rw [← hU]; exact at_end _ _ _
  have eq0 := eq_emptyL fL
  have fin : ∃ s ex, sRet (evIf (evTB (ev2 eqX (evVar 4) (evL mkLst evNil))) (evC (.int 0)) (evIf (evTB (ev2 gtD (ev2 subscD (ev2 subscD (evVar 2) (evL minD' (evCons (evVar 4) evNil))) (evC (.int 0))) (evC (.int 0)))) (evC (.int 1)) (ev1 negD (evC (.int 1))))) [some (.tup false [.ref la0, .ref la1]), some (.tup false [.ref lb0, .ref lb1]), some (.ref T.length), e3, some (.ref (T ++ [(false, Cell.dct (kv H))]).length), some (.ref r1), some (.ref r2)] U = .fl (.rt (.int s)) (U ++ ex) ∧ Sg (cf H) s := by
    by_cases hk : ks = []
    · refine ⟨0, [(false, .lst [])], ?_, sg_none nH fun y hy => ?_⟩
      · subst hk
        unfold sRet ofE evIf evTB ev2 evL evNil evC
        simp only [evVar, Res.bind, List.getElem?_cons_succ, List.getElem?_cons_zero, mkLst, List.length_nil, Nat.zero_le, if_true, newL, Res.ofOpt, eq0, asB, Option.map_some, List.isEmpty_nil]
      · have : y ∉ (keys H).filter (fun k => decide (cf H k ≠ 0)) := by rw [hks, hk]; simp
        by_cases z : cf H y = 0
        · exact z
        · exact absurd (List.mem_filter.mpr ⟨hy, by simpa using z⟩) this
    · obtain ⟨m0, mn, m1, m2⟩ := min_list (app_at fL [(false, .lst [])]) hk
      rw [← hks] at m1
      obtain ⟨m3, m4⟩ := List.mem_filter.mp m1
      have m5 : cf H m0 ≠ 0 := by simpa using m4
      have gk := get_kv (app_at fU [(false, .lst [])]) nH m3
      have em : ks.isEmpty = false := by cases ks with | nil => exact absurd rfl hk | cons x y => rfl
      refine ⟨sgv (cf H m0), [(false, .lst [])], ?_, sg_least nH m5 fun y hy hz => m2 y (by rw [← hks]; exact List.mem_filter.mpr ⟨hy, by simpa using hz⟩)⟩
      have np := num_pos (cf H m0)
      unfold sRet ofE evIf evTB ev2 ev1 evL evCons evNil evC
      simp only [evVar, Res.bind, List.getElem?_cons_succ, List.getElem?_cons_zero, mkLst, List.length_nil, Nat.zero_le, if_true, newL, Res.ofOpt, eq0, asB, Option.map_some, em, Bool.false_eq_true, if_false, mn, gk, ix0, gtD_ii, negD]
      unfold sgv
      by_cases c : 0 < cf H m0
      · simp only [if_pos c, decide_eq_true (np.mpr c), if_true]
      · simp only [if_neg c, decide_eq_false (fun z => c (np.mp z)), Bool.false_eq_true, if_false]
  obtain ⟨s, x5, qf, hsg⟩ := fin
  obtain ⟨x0, hx0⟩ := e0
  refine ⟨s, x0 ++ [(false, Cell.dct (kv H))] ++ (false, Cell.lst (ks.map D.int)) :: x4 ++ x5, ?_, hsg.congr fun k => (cH k).symm⟩
  unfold g__law_sign b__law_sign runS startD
  simp only [List.map_cons, List.map_nil, List.length_cons, List.length_nil, Nat.zero_add, Nat.reduceAdd, Nat.reduceSub, List.replicate_succ, List.replicate_zero, List.cons_append, List.nil_append]
  have assoc : ∀ (f g h : Ss) (env : EnvD) (st : Store), sSeq f (sSeq g h) env st = sSeq (sSeq f g) h env st := fun f g h env st => by
    unfold sSeq
    cases f env st with
    | fl fl s => cases fl <;> rfl
    | er c fs e s => rfl
    | stuck => rfl
  rw [assoc]
  unfold sSeq at start ⊢
  rw [start]
  simp only [ql, sd, qf]
  rw [← hU, hx0]
  simp only [List.append_assoc, List.cons_append, List.nil_append]
end MH
set_option Elab.async false
set_option linter.all false
set_option maxRecDepth 100000
set_option maxHeartbeats 1000000
/-! MI: the pen: draws. -/
namespace MI
open PySem PySem.Spec PyProof.Rows L2 PP MA MB MC MD ME MF MG MH G24
abbrev pkv (lc : Nat) (a d c f : Int) : List (D × D) := [(.str "cells", .ref lc), (.str "at", .int a), (.str "digits", .int d), (.str "count", .int c), (.str "fold", .int f)]
abbrev pn (S : Store) (lp lc : Nat) (a d c f : Int) : Store := S.set lp (false, .dct (pkv lc a d c f))
section
variable {S : Store} {lp lc : Nat} {a d c f : Int}
theorem pn_at (h : lp < S.length) : (pn S lp lc a d c f)[lp]? = some (false, .dct (pkv lc a d c f)) := by
  rw [List.getElem?_set, if_pos rfl, if_pos h]
theorem pn_ne {l : Nat} (h : l ≠ lp) : (pn S lp lc a d c f)[l]? = S[l]? := by
  rw [List.getElem?_set, if_neg (fun z => h z.symm)]
theorem pn_rd (h : lp < S.length) (k : Str) (v : D) (e : dget (pkv lc a d c f) (.str k) = some v) : subscD (.ref lp) (.str k) (pn S lp lc a d c f) = some (v, pn S lp lc a d c f) := by
  unfold subscD
  rw [ixD_dct (pn_at h)]
  simp only [dgetD, lookD, pn_at h]
  rw [show (isK (D.str "cells") && isK (D.str k)) = true from rfl]
  simp only [true_or, if_true, e]
theorem rd_cells (h : lp < S.length) : subscD (.ref lp) (.str "cells") (pn S lp lc a d c f) = some (.ref lc, pn S lp lc a d c f) := pn_rd h _ _ rfl
theorem rd_at (h : lp < S.length) : subscD (.ref lp) (.str "at") (pn S lp lc a d c f) = some (.int a, pn S lp lc a d c f) := pn_rd h _ _ rfl
theorem rd_digits (h : lp < S.length) : subscD (.ref lp) (.str "digits") (pn S lp lc a d c f) = some (.int d, pn S lp lc a d c f) := pn_rd h _ _ rfl
theorem rd_count (h : lp < S.length) : subscD (.ref lp) (.str "count") (pn S lp lc a d c f) = some (.int c, pn S lp lc a d c f) := pn_rd h _ _ rfl
theorem rd_fold (h : lp < S.length) : subscD (.ref lp) (.str "fold") (pn S lp lc a d c f) = some (.int f, pn S lp lc a d c f) := pn_rd h _ _ rfl
theorem pn_wr (h : lp < S.length) (k : Str) (v : D) (kvs : List (D × D)) (e : dput (pkv lc a d c f) (.str k) v = kvs) : putD (.ref lp) (.str k) v (pn S lp lc a d c f) = some (S.set lp (false, .dct kvs)) := by
  have h1 : lputD (.ref lp) (.str k) v (pn S lp lc a d c f) = none := by unfold lputD; rfl
  unfold putD
  rw [h1]
  simp only [dputD, pn_at h]
  rw [show (isK (D.str "cells") && isK (D.str k)) = true from rfl]
  have : (pkv lc a d c f).length < sizeLine := (show 5 < sizeLine by decide)
  simp only [true_or, true_and, this, if_true, e]
  rw [List.set_set]
theorem wr_at (h : lp < S.length) (x : Int) : putD (.ref lp) (.str "at") (.int x) (pn S lp lc a d c f) = some (pn S lp lc x d c f) := pn_wr h _ _ _ rfl
theorem wr_digits (h : lp < S.length) (x : Int) : putD (.ref lp) (.str "digits") (.int x) (pn S lp lc a d c f) = some (pn S lp lc a x c f) := pn_wr h _ _ _ rfl
theorem wr_count (h : lp < S.length) (x : Int) : putD (.ref lp) (.str "count") (.int x) (pn S lp lc a d c f) = some (pn S lp lc a d x f) := pn_wr h _ _ _ rfl
theorem wr_fold (h : lp < S.length) (x : Int) : putD (.ref lp) (.str "fold") (.int x) (pn S lp lc a d c f) = some (pn S lp lc a d c x) := pn_wr h _ _ _ rfl
end
/-- the pen stands, and that many draws are left -/
def Pen (n : Nat) (S : Store) (lp : Nat) : Prop := ∃ (lc : Nat) (cells : List Int) (a d c f : Int), S[lp]? = some (false, .dct (pkv lc a d c f)) ∧ S[lc]? = some (false, .lst (cells.map D.int)) ∧ lc ≠ lp ∧ 0 ≤ a ∧ 0 ≤ d ∧ 0 ≤ c ∧ c + n ≤ 1000000 ∧ 0 ≤ f ∧ f < 2147483549
/-- all but the pen stays -/
structure Kp (lp : Nat) (S S' : Store) : Prop where
  len : S.length ≤ S'.length
  at_ : ∀ l, l < S.length → l ≠ lp → S'[l]? = S[l]?
theorem Kp.refl (lp : Nat) (S : Store) : Kp lp S S := ⟨Nat.le_refl _, fun _ _ _ => rfl⟩
theorem Kp.trans {lp : Nat} {A B C : Store} (h : Kp lp A B) (k : Kp lp B C) : Kp lp A C := ⟨Nat.le_trans h.len k.len, fun l hl hn => by rw [k.at_ l (Nat.lt_of_lt_of_le hl h.len) hn, h.at_ l hl hn]⟩
theorem Kp.app (lp : Nat) (S ex : Store) : Kp lp S (S ++ ex) := ⟨by simp, fun l hl _ => List.getElem?_append_left hl⟩
theorem Kp.get {lp : Nat} {S S' : Store} (h : Kp lp S S') {l : Nat} {c : Bool × Cell} (e : S[l]? = some c) (hn : l ≠ lp) : S'[l]? = some c := by rw [h.at_ l (lt_of_at e) hn]; exact e
theorem Pen.lt {n : Nat} {S : Store} {lp : Nat} (h : Pen n S lp) : lp < S.length := by
  obtain ⟨lc, cells, a, d, c, f, h1, _⟩ := h
  exact lt_of_at h1
theorem Pen.app {n : Nat} {S : Store} {lp : Nat} (h : Pen n S lp) (ex : Store) : Pen n (S ++ ex) lp := by
  obtain ⟨lc, cells, a, d, c, f, h1, h2, r⟩ := h
  exact ⟨lc, cells, a, d, c, f, app_at h1 ex, app_at h2 ex, r⟩
theorem Pen.mono {n m : Nat} {S : Store} {lp : Nat} (h : Pen n S lp) (k : m ≤ n) : Pen m S lp := by
  obtain ⟨lc, cells, a, d, c, f, h1, h2, h3, h4, h5, h6, h7, r⟩ := h
  exact ⟨lc, cells, a, d, c, f, h1, h2, h3, h4, h5, h6, by omega, r⟩
theorem fmod_lt (x : Int) {m : Int} (h : 0 < m) : 0 ≤ x.fmod m ∧ x.fmod m < m := ⟨Int.fmod_nonneg_of_pos x h, Int.fmod_lt_of_pos x h⟩
theorem bs_of {i : Int} (h0 : 0 ≤ i) (h : i < 2 ^ 64) : Bs 9000 i := by
  have : Bs 64 i := by unfold Bs; omega
  exact this.mono (by omega)
theorem pow18 (st : Store) : powD (.int 10) (.int 18) st = some (.int 1000000000000000000, st) := rfl
/-- a next cell is taken, or not -/
theorem draw_cell {S : Store} {lp lc : Nat} {cells : List Int} {a d c f : Int} (hl : lp < S.length) (hc : S[lc]? = some (false, .lst (cells.map D.int))) (hn : lc ≠ lp) (a0 : 0 ≤ a) (d0 : 0 ≤ d) (f0 : 0 ≤ f) (f1 : f < 2147483549) (v1 v2 v3 v4 : Option D) :
    ∃ v3' a' d' f', 0 ≤ a' ∧ 0 ≤ d' ∧ 0 ≤ f' ∧ f' < 2147483549 ∧
    (sIf (tand (evTB (ev2 eqX (ev2 subscD (evVar 0) (evC (.str "digits"))) (evC (.int 0)))) (evTB (ev2 ltD (ev2 subscD (evVar 0) (evC (.str "at"))) (evL lenD (evCons (ev2 subscD (evVar 0) (evC (.str "cells"))) evNil)))))
     (sSeq (sSet 3 (ev2 subscD (ev2 subscD (evVar 0) (evC (.str "cells"))) (ev2 subscD (evVar 0) (evC (.str "at")))))
     (sSeq (sSub putD (evVar 0) (evC (.str "at")) (ev2 addD (ev2 subscD (evVar 0) (evC (.str "at"))) (evC (.int 1))))
     (sIf (evTB (ev2 geD (evVar 3) (ev2 powD (evC (.int 10)) (evC (.int 18)))))
     (sSub putD (evVar 0) (evC (.str "digits")) (ev2 subD (evVar 3) (ev2 powD (evC (.int 10)) (evC (.int 18)))))
     (sSub putD (evVar 0) (evC (.str "fold")) (ev2 modD (evL intD (evCons (ev2 addD (ev2 mulD (ev2 subscD (evVar 0) (evC (.str "fold"))) (evC (.int 80021))) (evVar 3)) evNil)) (evC (.int 2147483549)))))))
     sNext) [some (.ref lp), v1, v2, v3, v4] (pn S lp lc a d c f) = .fl (.nx [some (.ref lp), v1, v2, v3', v4]) (pn S lp lc a' d' c f') := by
  have hcp : ∀ a d c f, (pn S lp lc a d c f)[lc]? = some (false, .lst (cells.map D.int)) := fun a d c f => by rw [pn_ne hn]; exact hc
  have hlen : lenD [.ref lc] (pn S lp lc a d c f) = some (.int cells.length, pn S lp lc a d c f) := by
    unfold lenD seqD
    simp only [hcp, List.length_map]
  have cond : tand (evTB (ev2 eqX (ev2 subscD (evVar 0) (evC (.str "digits"))) (evC (.int 0)))) (evTB (ev2 ltD (ev2 subscD (evVar 0) (evC (.str "at"))) (evL lenD (evCons (ev2 subscD (evVar 0) (evC (.str "cells"))) evNil)))) [some (.ref lp), v1, v2, v3, v4] (pn S lp lc a d c f) = .ok (decide (d = 0) && decide (a < (cells.length : Int))) (pn S lp lc a d c f) := by
    unfold tand evTB ev2 evL evCons evNil evC
    simp only [evVar, Res.bind, List.getElem?_cons_zero, rd_digits hl, Res.ofOpt, eqX_ii, asB, Option.map_some, rd_at hl, rd_cells hl, hlen, ltD_ii]
    by_cases z : d = 0 <;> simp [z]
  unfold sIf ofE
  rw [cond]
  by_cases z : d = 0 ∧ a < (cells.length : Int)
  · obtain ⟨z1, z2⟩ := z
    rw [decide_eq_true z1, decide_eq_true z2]
    simp only [Bool.and_self, if_true]
    obtain ⟨k, rfl⟩ := Int.eq_ofNat_of_zero_le a0
    have hk : k < cells.length := by omega
    have ga : subscD (.ref lc) (.int (k : Int)) (pn S lp lc k d c f) = some (.int cells[k], pn S lp lc k d c f) := by
      unfold subscD ixD
      simp only [hcp, L2.atI, L2.ixN, List.length_map]
      rw [if_pos a0, if_pos (by omega)]
      simp only [Option.bind_some, Int.toNat_natCast, List.getElem?_map, List.getElem?_eq_getElem hk, Option.map_some]
    by_cases y : cells[k] < 1000000000000000000
    · refine ⟨some (.int cells[k]), k + 1, d, (f * 80021 + cells[k]).fmod 2147483549, by omega, d0, (fmod_lt _ (by omega)).1, (fmod_lt _ (by omega)).2, ?_⟩
      have m1 := mulD_ii (a := f) (b := 80021) (bs_of f0 (by omega)) (bs_of (by omega) (by omega)) (pn S lp lc (k + 1) d c f)
      have m2 := modD_ii (a := f * 80021 + cells[k]) (b := 2147483549) (by omega) (pn S lp lc (k + 1) d c f)
      unfold sSeq sSet sSub ofE evTB ev2 evL evCons evNil evC
      simp only [evVar, Res.bind, List.getElem?_cons_zero, List.getElem?_cons_succ, rd_cells hl, rd_at hl, ga, Res.ofOpt, List.set_cons_succ, List.set_cons_zero, addD_ii, wr_at hl, pow18, geD_ii, decide_eq_true y, Bool.not_true, asB, Option.map_some, Bool.false_eq_true, if_false, rd_fold hl, m1, PP.intD, m2, wr_fold hl, sSeq, sSet, sSub, ofE, sIf, evTB]
    · refine ⟨some (.int cells[k]), k + 1, cells[k] - 1000000000000000000, f, by omega, by omega, f0, f1, ?_⟩
      unfold sSeq sSet sSub ofE evTB ev2 evL evCons evNil evC
      simp only [evVar, Res.bind, List.getElem?_cons_zero, List.getElem?_cons_succ, rd_cells hl, rd_at hl, ga, Res.ofOpt, List.set_cons_succ, List.set_cons_zero, addD_ii, wr_at hl, pow18, geD_ii, decide_eq_false y, Bool.not_false, asB, Option.map_some, if_true, subD_ii, wr_digits hl, sSeq, sSet, sSub, ofE, sIf, evTB]
  · have : (decide (d = 0) && decide (a < (cells.length : Int))) = false := by
      by_cases y : d = 0
      · have : ¬ a < (cells.length : Int) := fun x => z ⟨y, x⟩
        simp [this]
      · simp [y]
    rw [this]
    exact ⟨v3, a, d, f, a0, d0, f0, f1, rfl⟩
theorem draw {n : Nat} {S : Store} {lp : Nat} {many : Int} (h : Pen (n + 1) S lp) (m0 : 0 < many) (m1 : many < 2 ^ 64) : ∃ d S', g__law_draw [.ref lp, .int many] S = .ok (.int d) S' ∧ 0 ≤ d ∧ d < many ∧ Pen n S' lp ∧ Kp lp S S' := by
  obtain ⟨lc, cells, a, d, c, f, h1, h2, h3, a0, d0, c0, c1, f0, f1⟩ := h
  have hl := lt_of_at h1
  have hS : S = pn S lp lc a d c f := by
    obtain ⟨g1, g2⟩ := List.getElem?_eq_some_iff.mp h1
    unfold pn
    rw [← g2]
    exact (List.set_getElem_self g1).symm
  obtain ⟨v3, a', d', f', a0', d0', f0', f1', q⟩ := draw_cell (c := c + 1) hl h2 h3 a0 d0 f0 f1 (some (.int many)) none none none
  have kp : ∀ a d c f, Kp lp S (pn S lp lc a d c f) := fun a d c f => ⟨by simp, fun l _ hn => pn_ne hn⟩
  have pen : ∀ a d f : Int, 0 ≤ a → 0 ≤ d → 0 ≤ f → f < 2147483549 → Pen n (pn S lp lc a d (c + 1) f) lp := fun a d f x y z w =>
    ⟨lc, cells, a, d, c + 1, f, pn_at hl, by rw [pn_ne h3]; exact h2, h3, x, y, by omega, by omega, z, w⟩
  have st1 : sSub putD (evVar 0) (evC (.str "count")) (ev2 addD (ev2 subscD (evVar 0) (evC (.str "count"))) (evC (.int 1))) [some (.ref lp), some (.int many), none, none, none] (pn S lp lc a d c f) = .fl (.nx [some (.ref lp), some (.int many), none, none, none]) (pn S lp lc a d (c + 1) f) := by
    unfold sSub ofE ev2 evC
    simp only [evVar, Res.bind, List.getElem?_cons_zero, rd_count hl, Res.ofOpt, addD_ii, wr_count hl]
  have hm : many ≠ 0 := by omega
  have bm : Bs 9000 many := bs_of (by omega) m1
  by_cases z : 0 < d'
  · refine ⟨d'.fmod many, pn S lp lc a' (d'.fdiv many) (c + 1) f', ?_, (fmod_lt _ m0).1, (fmod_lt _ m0).2, pen _ _ _ a0' (Int.fdiv_nonneg d0' (by omega)) f0' f1', kp _ _ _ _⟩
    conv => lhs; rw [hS]
    have md := modD_ii (a := d') hm (pn S lp lc a' d' (c + 1) f')
    have fd := floorD_ii (a := d') hm bm (pn S lp lc a' d' (c + 1) f')
    unfold g__law_draw b__law_draw runS startD
    simp only [List.map_cons, List.map_nil, List.length_cons, List.length_nil, Nat.zero_add, Nat.reduceAdd, Nat.reduceSub, List.replicate_succ, List.replicate_zero, List.cons_append, List.nil_append]
    rw [show ∀ (f g : Ss) (env : EnvD) (st : Store), sSeq f g env st = match f env st with | .fl (.nx e) s => g e s | r => r from fun _ _ _ _ => rfl, st1]
    simp only
    rw [show ∀ (f g : Ss) (env : EnvD) (st : Store), sSeq f g env st = match f env st with | .fl (.nx e) s => g e s | r => r from fun _ _ _ _ => rfl, q]
    unfold sSeq sIf ofE evTB sSet sRet sSub ev2 evL evCons evNil evC
    simp only [evVar, Res.bind, List.getElem?_cons_zero, List.getElem?_cons_succ, rd_digits hl, Res.ofOpt, gtD_ii, decide_eq_true z, asB, Option.map_some, if_true, PP.intD, md, List.set_cons_succ, List.set_cons_zero, fd, wr_digits hl, sSeq, sSub, sRet, ofE, evTB, sIf]
  · have b0 : 0 ≤ f' + (c + 1) * 9001 + 97 := by omega
    have b1 : f' + (c + 1) * 9001 + 97 < 2 ^ 60 := by omega
    refine ⟨((((f' + (c + 1) * 9001 + 97) ^ 17).fmod 2305843009213693951).fdiv 512).fmod many, pn S lp lc a' d' (c + 1) f', ?_, (fmod_lt _ m0).1, (fmod_lt _ m0).2, pen _ _ _ a0' d0' f0' f1', kp _ _ _ _⟩
    conv => lhs; rw [hS]
    have mu := mulD_ii (a := c + 1) (b := 9001) (bs_of (by omega) (by omega)) (bs_of (by omega) (by omega)) (pn S lp lc a' d' (c + 1) f')
    have pw : powD (.int (f' + (c + 1) * 9001 + 97)) (.int 17) (pn S lp lc a' d' (c + 1) f') = some (.int ((f' + (c + 1) * 9001 + 97) ^ 17), pn S lp lc a' d' (c + 1) f') := by
      unfold powD
      simp only
      rw [if_pos ⟨by omega, by omega, by omega⟩]
      rfl
    have md := modD_ii (a := (f' + (c + 1) * 9001 + 97) ^ 17) (b := 2305843009213693951) (by omega) (pn S lp lc a' d' (c + 1) f')
    have fd := floorD_ii (a := ((f' + (c + 1) * 9001 + 97) ^ 17).fmod 2305843009213693951) (b := 512) (by omega) (bs_of (by omega) (by omega)) (pn S lp lc a' d' (c + 1) f')
    have md2 := modD_ii (a := (((f' + (c + 1) * 9001 + 97) ^ 17).fmod 2305843009213693951).fdiv 512) hm (pn S lp lc a' d' (c + 1) f')
    unfold g__law_draw b__law_draw runS startD
    simp only [List.map_cons, List.map_nil, List.length_cons, List.length_nil, Nat.zero_add, Nat.reduceAdd, Nat.reduceSub, List.replicate_succ, List.replicate_zero, List.cons_append, List.nil_append]
    rw [show ∀ (f g : Ss) (env : EnvD) (st : Store), sSeq f g env st = match f env st with | .fl (.nx e) s => g e s | r => r from fun _ _ _ _ => rfl, st1]
    simp only
    rw [show ∀ (f g : Ss) (env : EnvD) (st : Store), sSeq f g env st = match f env st with | .fl (.nx e) s => g e s | r => r from fun _ _ _ _ => rfl, q]
    unfold sSeq sIf ofE evTB sSet sRet sSub ev2 evL evCons evNil evC
    simp only [evVar, Res.bind, List.getElem?_cons_zero, List.getElem?_cons_succ, rd_digits hl, rd_fold hl, rd_count hl, Res.ofOpt, gtD_ii, decide_eq_false z, asB, Option.map_some, Bool.false_eq_true, if_false, sNext, addD_ii, mu, List.set_cons_succ, List.set_cons_zero, pw, md, PP.intD, fd, md2, sSet, sSeq, sRet, ofE]
theorem law_pick {n : Nat} {S : Store} {lp l : Nat} {ds : List D} (h : Pen (n + 1) S lp) (e : S[l]? = some (false, .lst ds)) (hl : l ≠ lp) (h0 : ds ≠ []) (h1 : ds.length < 2 ^ 64) : ∃ d S', g__law_pick [.ref lp, .ref l] S = .ok d S' ∧ d ∈ ds ∧ Pen n S' lp ∧ Kp lp S S' := by
  have hpos : 0 < ds.length := List.length_pos_iff.mpr h0
  obtain ⟨k, S', q, k0, k1, p, kp⟩ := draw (many := ds.length) h (by omega) (by omega)
  obtain ⟨k, rfl⟩ := Int.eq_ofNat_of_zero_le k0
  have hk : k < ds.length := by omega
  refine ⟨ds[k], S', ?_, List.getElem_mem hk, p, kp⟩
  have hlen : lenD [.ref l] S = some (.int ds.length, S) := by
    unfold lenD seqD
    simp only [e]
  have ga : subscD (.ref l) (.int (k : Int)) S' = some (ds[k], S') := by
    unfold subscD ixD
    simp only [kp.get e hl, L2.atI, L2.ixN]
    rw [if_pos k0, if_pos (by omega)]
    simp only [Option.bind_some, Int.toNat_natCast, List.getElem?_eq_getElem hk, Option.map_some]
  unfold g__law_pick b__law_pick runS startD sRet ofE evCall ev2 evL evCons evNil
  simp only [List.map_cons, List.map_nil, List.length_cons, List.length_nil, Nat.zero_add, Nat.sub_self, List.replicate_zero, List.append_nil, evVar, Res.bind, List.getElem?_cons_zero, List.getElem?_cons_succ, hlen, Res.ofOpt, q, ga]
end MI
set_option Elab.async false
set_option linter.all false
set_option maxRecDepth 100000
set_option maxHeartbeats 1000000
/-! MJ: the pen is made; worths are drawn. -/
namespace MJ
open PySem PySem.Spec PyProof.Rows L2 PP MA MB MC MD ME MF MG MH MI G24
theorem seq_eq (f g : Ss) (env : EnvD) (st : Store) : sSeq f g env st = match f env st with | .fl (.nx e) s => g e s | r => r := rfl
theorem law_pen (ns : List Int) (hn : ns.length ≤ 63) : ∃ lp S', g__law_pen [.ref 0] [(true, .lst (ns.map D.int))] = .ok (.ref lp) S' ∧ Pen 1000000 S' lp := by
  obtain ⟨e, s, q, f, e2, rfl, rfl, f0, f1⟩ := sFor_inv (src := evSrc (evVar 0)) (tg := tgN 2) (body := (sSet 1 (ev2 modD (evL PP.intD (evCons (ev2 addD (ev2 mulD (evVar 1) (evC (.int 67))) (evVar 2)) evNil)) (evC (.int 1000000123)))))
    (env := [some (.ref 0), some (.int 31), none]) (st := [(true, .lst (ns.map D.int))]) (st1 := [(true, .lst (ns.map D.int))]) (g := srcL 0) (ns.map D.int)
    (fun i env st => ∃ f e2, env = [some (.ref 0), some (.int f), e2] ∧ st = [(true, .lst (ns.map D.int))] ∧ 0 ≤ f ∧ f < 2147483549) (by
      have := szl
      simp; omega) rfl ⟨31, none, rfl, rfl, by omega, by omega⟩ (fun i env st h => by
      obtain ⟨f, e2, _, rfl, _⟩ := h
      rfl) (fun i d env st hd h => by
      obtain ⟨f, e2, rfl, rfl, f0, f1⟩ := h
      rw [List.getElem?_map] at hd
      obtain ⟨k, hk, rfl⟩ := Option.map_eq_some_iff.mp hd
      refine ⟨_, rfl, _, _, .inl (?_ : _ = ResS.fl (.nx [some (.ref 0), some (.int ((f * 67 + k).fmod 1000000123)), some (.int k)]) [(true, .lst (ns.map D.int))]), _, _, rfl, rfl, (fmod_lt _ (by omega)).1, by have := (fmod_lt (f * 67 + k) (m := 1000000123) (by omega)).2; omega⟩
      have m1 := mulD_ii (a := f) (b := 67) (bs_of f0 (by omega)) (bs_of (by omega) (by omega)) [(true, .lst (ns.map D.int))]
      have m2 := modD_ii (a := f * 67 + k) (b := 1000000123) (by omega) [(true, .lst (ns.map D.int))]
      unfold sSet ofE ev2 evL evCons evNil evC
      simp only [evVar, Res.bind, List.getElem?_cons_zero, List.getElem?_cons_succ, List.set_cons_succ, List.set_cons_zero, m1, Res.ofOpt, addD_ii, PP.intD, m2])
  refine ⟨1, [(true, .lst (ns.map D.int)), (false, .dct (pkv 2 0 0 0 f)), (false, .lst (ns.map D.int))], ?_, 2, ns, 0, 0, 0, f, rfl, rfl, by omega, by omega, by omega, by omega, by omega, f0, f1⟩
  unfold g__law_pen b__law_pen runS startD
  simp only [List.map_cons, List.map_nil, List.length_cons, List.length_nil, Nat.zero_add, Nat.reduceAdd, Nat.reduceSub, List.replicate_succ, List.replicate_zero, List.cons_append, List.nil_append]
  rw [seq_eq, show sSet 1 (evC (.int 31)) [some (.ref 0), none, none] [(true, .lst (ns.map D.int))] = .fl (.nx [some (.ref 0), some (.int 31), none]) [(true, .lst (ns.map D.int))] from rfl]
  simp only
  rw [seq_eq, q]
  rfl
theorem lat_div {t b : Int} (hb : 0 < b) : Lat b.toNat t.natAbs (Rat.divInt t b) := by
  refine ⟨t, ?_, Nat.le_refl _⟩
  have e : ((b.toNat : Nat) : Int) = b := by omega
  rw [e, Rat.divInt_eq_div]
  have := cast_ne (b := b) (by omega)
  grind
theorem div_ne {t b : Int} (hb : 0 < b) (ht : t ≠ 0) : Rat.divInt t b ≠ 0 := by
  rw [Rat.divInt_eq_div]
  have h1 := cast_ne (b := b) (by omega)
  have h2 := cast_ne ht
  intro z
  apply h2
  grind
/-- a drawn worth: its common bottom -/
structure Drawn (gr : Int) (m : Nat) (a : W) (L : Nat) : Prop where
  nd : (keys a).Nodup
  nz : ∀ p ∈ a, p.2 ≠ 0
  k0 : ∀ p ∈ a, 0 ≤ p.1
  k1 : ∀ p ∈ a, p.1 < 2000
  len : a.length ≤ m
  l0 : 0 < L
  l1 : L ≤ 1000000 ^ m
  lat : ∀ p ∈ a, Lat L (gr.toNat * L) p.2
theorem Drawn.put {gr : Int} {m : Nat} {a : W} {L : Nat} (h : Drawn gr m a L) {t b k : Int} (t0 : t ≠ 0) (t1 : t.natAbs ≤ gr.toNat) (b0 : 0 < b) (b1 : b ≤ 1000000) (k0 : 0 ≤ k) (k1 : k < 2000) : Drawn gr (m + 1) (MA.put a k (Rat.divInt t b)) (L * b.toNat) := by
  refine ⟨nodup_put _ _ h.nd, fun p hp => ?_, fun p hp => ?_, fun p hp => ?_, ?_, Nat.mul_pos h.l0 (by omega), ?_, fun p hp => ?_⟩
  · rcases mem_put hp with z | rfl
    · exact h.nz p z
    · exact div_ne b0 t0
  · rcases mem_put hp with z | rfl
    · exact h.k0 p z
    · exact k0
  · rcases mem_put hp with z | rfl
    · exact h.k1 p z
    · exact k1
  · have := len_put a k (Rat.divInt t b)
    have := h.len
    omega
  · rw [Nat.pow_succ]
    exact Nat.mul_le_mul h.l1 (by omega)
  · rcases mem_put hp with z | rfl
    · have := (h.lat p z).up b.toNat
      rw [Nat.mul_assoc] at this
      exact this
    · have := (lat_div (t := t) b0).up L
      rw [Nat.mul_comm b.toNat L] at this
      exact this.le (by
        have h1 : t.natAbs * L ≤ gr.toNat * L := Nat.mul_le_mul_right _ t1
        have h2 : gr.toNat * L * 1 ≤ gr.toNat * L * b.toNat := Nat.mul_le_mul_left _ (by omega)
        rw [← Nat.mul_assoc]
        omega)
theorem min2 (i j : Int) (S : Store) : minD' [.int i, .int j] S = some (.int (if j < i then j else i), S) := rfl
/-- one lap -/
theorem some_lap {n i : Nat} {S : Store} {lp r : Nat} {gr most : Int} {a : W} {L : Nat} {v1 v2 v4 v7 v8 : Option D} (hp : Pen (n + 5) S lp) (hr : S[r]? = some (false, .dct (kv a))) (hn : r ≠ lp) (hd : Drawn gr i a L) (hi : i < 1000) (g0 : 0 < gr) (g1 : gr < 1000000000) (m0 : 0 ≤ most) (m1 : most < 1000) :
    ∃ a' L' S' v7' v8', (sSeq (sSet 7 (ev2 addD (evC (.int 1)) (evCall g__law_draw (evCons (evVar 0) (evCons (evIf (evTB (ev2 eqX (evCall g__law_draw (evCons (evVar 0) (evCons (evC (.int 3)) evNil))) (evC (.int 0)))) (evVar 3) (evL minD' (evCons (evVar 3) (evCons (evC (.int 6)) evNil)))) evNil)))))
     (sSeq (sSet 8 (ev2 addD (evC (.int 1)) (evCall g__law_draw (evCons (evVar 0) (evCons (evL minD' (evCons (evVar 3) (evCons (evIf (evTB (ev2 ltD (evVar 3) (evC (.int 99)))) (evC (.int 3)) (ev2 powD (evC (.int 10)) (evC (.int 6)))) evNil))) evNil)))))
     (sSub putD (evVar 5) (evCall g__law_draw (evCons (evVar 0) (evCons (ev2 addD (evVar 6) (evC (.int 1))) evNil))) (evCall g__law_part (evCons (evIf (evTB (ev2 gtD (evCall g__law_draw (evCons (evVar 0) (evCons (evC (.int 3)) evNil))) (evC (.int 0)))) (evVar 7) (ev1 negD (evVar 7))) (evCons (evVar 8) evNil)))))) [some (.ref lp), v1, v2, some (.int gr), v4, some (.ref r), some (.int most), v7, v8] S
      = .fl (.nx [some (.ref lp), v1, v2, some (.int gr), v4, some (.ref r), some (.int most), v7', v8']) S' ∧ S'[r]? = some (false, .dct (kv a')) ∧ a' ≠ [] ∧ Drawn gr (i + 1) a' L' ∧ Pen n S' lp ∧ (S.length ≤ S'.length ∧ ∀ l, l < S.length → l ≠ lp → l ≠ r → S'[l]? = S[l]?) := by
  obtain ⟨x1, S1, q1, x10, x11, p1, k1⟩ := draw (many := 3) hp (by omega) (by omega)
  obtain ⟨x2, S2, q2, x20, x21, p2, k2⟩ := draw (many := if x1 = 0 then gr else if 6 < gr then 6 else gr) p1 (by split <;> (try split) <;> omega) (by split <;> (try split) <;> omega)
  have hx2 : x2 < gr := by
    split at x21
    · exact x21
    · split at x21 <;> omega
  obtain ⟨x3, S3, q3, x30, x31, p3, k3⟩ := draw (many := if (if gr < 99 then (3 : Int) else 1000000) < gr then (if gr < 99 then (3 : Int) else 1000000) else gr) p2 (by split <;> (try split) <;> omega) (by split <;> (try split) <;> omega)
  have hx3 : x3 < 1000000 := by
    by_cases g : gr < 99
    · simp only [if_pos g] at x31
      split at x31 <;> omega
    · simp only [if_neg g] at x31
      split at x31 <;> omega
  obtain ⟨x4, S4, q4, x40, x41, p4, k4⟩ := draw (many := 3) p3 (by omega) (by omega)
  obtain ⟨x5, S5, q5, x50, x51, p5, k5⟩ := draw (many := most + 1) p4 (by omega) (by omega)
  have kk := (((k1.trans k2).trans k3).trans k4).trans k5
  have hr5 := kk.get hr hn
  have tne : (if 0 < x4 then 1 + x2 else -(1 + x2)) ≠ 0 := by split <;> omega
  have tle : (if 0 < x4 then 1 + x2 else -(1 + x2)).natAbs ≤ gr.toNat := by split <;> omega
  have hd' := hd.put (t := if 0 < x4 then 1 + x2 else -(1 + x2)) (b := 1 + x3) (k := x5) tne tle (by omega) (by omega) x50 (by omega)
  have hlen : a.length < sizeLine := by
    have := hd.len
    have := szl
    omega
  have pt := MB.law_part (t := if 0 < x4 then 1 + x2 else -(1 + x2)) (b := 1 + x3) (by omega) (bs_of (by omega) (by omega)) S4
  have pk := put_kv hr5 x5 (Rat.divInt (if 0 < x4 then 1 + x2 else -(1 + x2)) (1 + x3)) hlen
  have hr5l := lt_of_at hr5
  refine ⟨_, _, S5.set r (false, .dct (kv (MA.put a x5 (Rat.divInt (if 0 < x4 then 1 + x2 else -(1 + x2)) (1 + x3))))), some (.int (1 + x2)), some (.int (1 + x3)), ?_, ?_, ?_, hd', ?_, ?_⟩
  · have e1 : ∀ (S : Store), (if x1 = 0 then Res.ok (D.int gr) S else Res.ok (D.int (if 6 < gr then 6 else gr)) S) = Res.ok (D.int (if x1 = 0 then gr else if 6 < gr then 6 else gr)) S := fun S => by split <;> rfl
    have e2 : ∀ (S : Store), (if gr < 99 then Res.ok (D.int 3) S else Res.ok (D.int 1000000) S) = Res.ok (D.int (if gr < 99 then (3 : Int) else 1000000)) S := fun S => by split <;> rfl
    have e3 : ∀ (S : Store), (if 0 < x4 then Res.ok (D.int (1 + x2)) S else Res.ok (D.int (-(1 + x2))) S) = Res.ok (D.int (if 0 < x4 then 1 + x2 else -(1 + x2))) S := fun S => by split <;> rfl
    have pw : ∀ st, powD (.int 10) (.int 6) st = some (.int 1000000, st) := fun _ => rfl
    unfold sSeq sSet sSub ofE evCall ev2 ev1 evL evCons evNil evIf evTB evC
    simp only [evVar, Res.bind, List.getElem?_cons_zero, List.getElem?_cons_succ, List.set_cons_succ, List.set_cons_zero, q1, Res.ofOpt, eqX_ii, asB, Option.map_some, decide_eq_true_eq, min2, e1, q2, addD_ii, ltD_ii, pw, e2, q3, sSeq, sSet, sSub, ofE, q4, gtD_ii, negD, e3, pt, q5, pk]
  · rw [List.getElem?_set, if_pos rfl, if_pos hr5l]
  · intro z
    have h1 := keys_put a x5 (Rat.divInt (if 0 < x4 then 1 + x2 else -(1 + x2)) (1 + x3))
    rw [z] at h1
    split at h1
    · rename_i y
      rw [← h1] at y
      cases y
    · have := congrArg List.length h1
      simp [keys] at this
  · obtain ⟨lc, cells, aa, d, c, f, h1, h2, h3, h4⟩ := p5
    have hlc : lc ≠ r := fun z => by rw [z, hr5] at h2; cases h2
    exact ⟨lc, cells, aa, d, c, f, by rw [List.getElem?_set, if_neg hn]; exact h1, by rw [List.getElem?_set, if_neg (fun z => hlc z.symm)]; exact h2, h3, h4⟩
  · refine ⟨by rw [List.length_set]; exact kk.len, fun l hl hlp hlr => ?_⟩
    rw [List.getElem?_set, if_neg (fun z => hlr z.symm)]
    exact kk.at_ l hl hlp
theorem small_lt {j : Int} (h0 : 0 ≤ j) (h : j < 1000) : small62 j = true := by
  unfold small62
  exact decide_eq_true ⟨by omega, by omega⟩
theorem rg1 {j : Int} (h : small62 j = true) {f : Ev (List D)} {env : EnvD} {st st1 : Store} (e : f env st = .ok [.int j] st1) : evRg1 f env st = .ok (srcS (rangeL 0 j.toNat)) st1 := by
  unfold evRg1
  rw [e]
  simp only [Res.bind, srcRg, h, if_true, Option.map_some, Res.ofOpt]
theorem law_some {n : Nat} {S : Store} {lp : Nat} {least many gr : Int} (hp : Pen (n + 60) S lp) (l0 : 0 ≤ least) (m0 : 0 < many) (hm : least + many ≤ 8) (g0 : 0 < gr) (g1 : gr < 1000000000) :
    ∃ r a L S', g__law_some [.ref lp, .int least, .int many, .int gr] S = .ok (.ref r) S' ∧ S'[r]? = some (false, .dct (kv a)) ∧ (0 < least → a ≠ []) ∧ Drawn gr (least + many - 1).toNat a L ∧ Pen n S' lp ∧ Kp lp S S' ∧ S.length ≤ r := by
  have hlt := hp.lt
  have hpk := (hp.app [(false, .dct [])]).app [(false, .lst [.int 3, .int 30])]
  obtain ⟨most, S1, q1, hm1, p1, k1⟩ := law_pick (n := n + 59) (ds := [.int 3, .int 30]) hpk (at_end (S ++ [(false, .dct [])]) [] _) (by simp; omega) (by simp) (by simp)
  obtain ⟨mo, rfl, mo0, mo1⟩ : ∃ mo : Int, most = .int mo ∧ 0 ≤ mo ∧ mo < 1000 := by
    rcases List.mem_cons.mp hm1 with rfl | z
    · exact ⟨3, rfl, by omega, by omega⟩
    · rw [List.mem_singleton.mp z]
      exact ⟨30, rfl, by omega, by omega⟩
  obtain ⟨lap, S2, q2, lap0, lap1, p2, k2⟩ := draw (many := many) p1 m0 (by omega)
  have kx : Kp lp S S2 := (((Kp.app lp S _).trans (Kp.app lp _ _)).trans k1).trans k2
  have hrne : S.length ≠ lp := by omega
  have hr2 : S2[S.length]? = some (false, .dct (kv [])) := k2.get (k1.get (app_at (at_end S [] _) _) hrne) hrne
  obtain ⟨N, hN⟩ : ∃ N, (least + lap).toNat = N := ⟨_, rfl⟩
  have hrg : evRg1 (evCons (ev2 addD (evVar 1) (evCall g__law_draw (evCons (evVar 0) (evCons (evVar 2) evNil)))) evNil) [some (.ref lp), some (.int least), some (.int many), some (.int gr), none, some (.ref S.length), some (.int mo), none, none] S1 = .ok (srcS (rangeL 0 N)) S2 := by
    rw [← hN]
    refine rg1 (small_lt (by omega) (by omega)) ?_
    unfold evCons evNil ev2 evCall
    simp only [evVar, Res.bind, List.getElem?_cons_zero, List.getElem?_cons_succ, evCons, evNil, q2, Res.ofOpt, addD_ii]
  have ds : (rangeL 0 N).length = N := by unfold rangeL; simp
  obtain ⟨e, s, q, a, L, e4, e7, e8, rfl, h1, h2, h3, h4, h5, h6⟩ := sFor_inv (src := evRg1 (evCons (ev2 addD (evVar 1) (evCall g__law_draw (evCons (evVar 0) (evCons (evVar 2) evNil)))) evNil)) (tg := tgN 4) (body := (sSeq (sSet 7 (ev2 addD (evC (.int 1)) (evCall g__law_draw (evCons (evVar 0) (evCons (evIf (evTB (ev2 eqX (evCall g__law_draw (evCons (evVar 0) (evCons (evC (.int 3)) evNil))) (evC (.int 0)))) (evVar 3) (evL minD' (evCons (evVar 3) (evCons (evC (.int 6)) evNil)))) evNil)))))
     (sSeq (sSet 8 (ev2 addD (evC (.int 1)) (evCall g__law_draw (evCons (evVar 0) (evCons (evL minD' (evCons (evVar 3) (evCons (evIf (evTB (ev2 ltD (evVar 3) (evC (.int 99)))) (evC (.int 3)) (ev2 powD (evC (.int 10)) (evC (.int 6)))) evNil))) evNil)))))
     (sSub putD (evVar 5) (evCall g__law_draw (evCons (evVar 0) (evCons (ev2 addD (evVar 6) (evC (.int 1))) evNil))) (evCall g__law_part (evCons (evIf (evTB (ev2 gtD (evCall g__law_draw (evCons (evVar 0) (evCons (evC (.int 3)) evNil))) (evC (.int 0)))) (evVar 7) (ev1 negD (evVar 7))) (evCons (evVar 8) evNil)))))))
    (env := [some (.ref lp), some (.int least), some (.int many), some (.int gr), none, some (.ref S.length), some (.int mo), none, none]) (st := S1) (st1 := S2) (g := srcS (rangeL 0 N)) (rangeL 0 N)
    (fun i env st => ∃ a L e4 e7 e8, env = [some (.ref lp), some (.int least), some (.int many), some (.int gr), e4, some (.ref S.length), some (.int mo), e7, e8] ∧ st[S.length]? = some (false, .dct (kv a)) ∧ (0 < i → a ≠ []) ∧ (i ≤ N → Drawn gr i a L) ∧ (i ≤ N → Pen (n + 5 * (N - i)) st lp) ∧ Kp lp S st ∧ S.length < st.length) (by
      rw [ds]
      have := szl
      omega)
    hrg
    ⟨[], 1, none, none, none, rfl, hr2, fun z => absurd z (by omega), fun _ => ⟨List.nodup_nil, fun p hp => (by cases hp), fun p hp => (by cases hp), fun p hp => (by cases hp), Nat.le_refl _, by omega, by simp, fun p hp => (by cases hp)⟩, fun _ => p2.mono (by omega), kx, lt_of_at hr2⟩ (fun _ _ _ _ => rfl) (fun i d env st hd h => by
      obtain ⟨a, L, e4, e7, e8, rfl, h1, h2, h3, h4, h5, h6⟩ := h
      have hi : i < N := by
        have := (List.getElem?_eq_some_iff.mp hd).1
        omega
      obtain ⟨a', L', S', v7, v8, c1, c2, c3, c4, c5, c6, c7⟩ := some_lap (n := n + 5 * (N - (i + 1))) (v1 := some (.int least)) (v2 := some (.int many)) (v4 := some d) (v7 := e7) (v8 := e8) ((h4 (by omega)).mono (by omega)) h1 hrne (h3 (by omega)) (by omega) g0 g1 mo0 mo1
      refine ⟨_, rfl, _, _, .inl c1, a', L', _, _, _, rfl, c2, fun _ => c3, fun _ => c4, fun _ => c5, ⟨Nat.le_trans h5.len c6, fun l hl hlp => ?_⟩, by omega⟩
      rw [c7 l (by omega) hlp (by omega)]
      exact h5.at_ l hl hlp)
  rw [ds] at h2 h3 h4
  refine ⟨S.length, a, L, s, ?_, h1, fun z => h2 (by omega), ?_, (h4 (Nat.le_refl _)).mono (by omega), h5, Nat.le_refl _⟩
  · skip
    unfold g__law_some b__law_some runS startD
    simp only [List.map_cons, List.map_nil, List.length_cons, List.length_nil, Nat.zero_add, Nat.reduceAdd, Nat.reduceSub, List.replicate_succ, List.replicate_zero, List.cons_append, List.nil_append]
    have hpar : sPar 5 6 (evCons mkDct (evCons (evCall g__law_pick (evCons (evVar 0) (evCons (evL mkLst (evCons (evC (.int 3)) (evCons (evC (.int 30)) evNil))) evNil))) evNil)) [some (.ref lp), some (.int least), some (.int many), some (.int gr), none, none, none, none, none] S = .fl (.nx [some (.ref lp), some (.int least), some (.int many), some (.int gr), none, some (.ref S.length), some (.int mo), none, none]) S1 := by
      unfold sPar ofE mkDct evCall evL evCons evNil evC
      simp only [evVar, Res.bind, List.getElem?_cons_zero, mkLst, List.length_cons, List.length_nil, two_le, Nat.zero_add, Nat.reduceAdd, if_true, newL, Res.ofOpt, q1, List.set_cons_succ, List.set_cons_zero]
    rw [show ∀ (f g : Ss) (env : EnvD) (st : Store), sSeq f g env st = match f env st with | .fl (.nx e) s => g e s | r => r from fun _ _ _ _ => rfl, hpar]
    simp only
    rw [show ∀ (f g : Ss) (env : EnvD) (st : Store), sSeq f g env st = match f env st with | .fl (.nx e) s => g e s | r => r from fun _ _ _ _ => rfl, q]
    simp only [sRet, ofE, evVar, List.getElem?_cons_zero, List.getElem?_cons_succ]
  · have hN' : N ≤ (least + many - 1).toNat := by omega
    obtain ⟨b1, b2, b3, b3', b4, b5, b6, b7⟩ := h3 (Nat.le_refl _)
    exact ⟨b1, b2, b3, b3', by omega, b5, Nat.le_trans b6 (Nat.pow_le_pow_right (by omega) hN'), b7⟩
end MJ
set_option Elab.async false
set_option linter.all false
set_option maxRecDepth 100000
set_option maxHeartbeats 1000000
/-! MK: what is shown of a value; values that are no quotient. -/
namespace MK
open PySem PySem.Spec PyProof.Rows L2 PP MA MB MC MD ME MF MG MH MI MJ G24
/-! ### shown -/
/-- every sign is one -/
def TOk (z : Str) : Prop := ∀ c ∈ z.cps.toList, c < 1114112
theorem TOk.str {z : Str} (h : TOk z) : PyData.strOk z = true := by
  unfold PyData.strOk
  rw [← Array.all_toList, List.all_eq_true]
  exact fun c hc => decide_eq_true (h c hc)
theorem tok_of (s : String) : TOk (Str.ofString s) := fun c hc => by
  rw [signs_ofString] at hc
  obtain ⟨x, _, rfl⟩ := List.mem_map.mp hc
  show x.val.toNat < 1114112
  rcases x.valid with h | ⟨_, h⟩
  · have : x.val.toNat < 55296 := h
    omega
  · exact h
theorem TOk.app {a b : Str} (h : TOk a) (k : TOk b) : TOk (a ++ b) := fun c hc => by
  have e : (a ++ b).cps = a.cps ++ b.cps := rfl
  rw [e, Array.toList_append] at hc
  rcases List.mem_append.mp hc with z | z
  · exact h c z
  · exact k c z
theorem tok_join {s : Str} (hs : TOk s) : ∀ {ts : List Str}, (∀ t ∈ ts, TOk t) → TOk (s.join ts)
  | [], _ => fun c hc => (by cases hc)
  | [x], h => h x List.mem_cons_self
  | x :: y :: r, h => by
    have ih := tok_join hs (ts := y :: r) (fun t ht => h t (List.mem_cons_of_mem _ ht))
    exact ((h x List.mem_cons_self).app hs).app ih
structure Sh (p : PyData) (N : Nat) : Prop where
  ok : p.showable = true
  len : p.shown.length ≤ N
  txt : TOk p.shown
theorem Sh.mono {p : PyData} {N M : Nat} (h : Sh p N) (k : N ≤ M) : Sh p M := ⟨h.ok, Nat.le_trans h.len k, h.txt⟩
theorem sh_int {i : Int} (h : Bs 1900 i) : Sh (.int i) 1921 := by
  have hl := h.log (by omega)
  refine ⟨by simp only [PyData.showable]; exact decide_eq_true (by omega), ?_, ?_⟩
  · simp only [PyData.shown]
    exact int_text_len_1921 (by omega)
  · simp only [PyData.shown]
    exact tok_of _
theorem sh_bool (b : Bool) : Sh (.bool b) 1921 := ⟨by simp only [PyData.showable], by
  simp only [PyData.shown]
  cases b <;> decide, by
  simp only [PyData.shown]
  split <;> exact tok_of _⟩
theorem sh_none : Sh .none 1921 := ⟨by simp only [PyData.showable], by
  simp only [PyData.shown]
  decide, by
  simp only [PyData.shown]
  exact tok_of _⟩
theorem sh_all : ∀ {ps : List PyData} {B : Nat}, (∀ p ∈ ps, Sh p B) → PyData.showableAll ps = true ∧ ((PyData.shownAll ps).map (·.length)).sum ≤ ps.length * B ∧ (PyData.shownAll ps).length = ps.length
  | [], B, _ => ⟨by simp only [PyData.showableAll], by simp [PyData.shownAll], by simp [PyData.shownAll]⟩
  | p :: ps, B, h => by
    obtain ⟨h1, h2, h3⟩ := sh_all (fun q hq => h q (List.mem_cons_of_mem _ hq)) (ps := ps) (B := B)
    have hp := h p List.mem_cons_self
    refine ⟨by simp only [PyData.showableAll, hp.ok, h1, Bool.and_self], ?_, by simp only [PyData.shownAll, List.length_cons, h3]⟩
    simp only [PyData.shownAll, List.map_cons, List.sum_cons, List.length_cons]
    have := hp.len
    rw [Nat.add_mul, Nat.one_mul]
    omega
theorem tok_all : ∀ {ps : List PyData} {B : Nat}, (∀ p ∈ ps, Sh p B) → ∀ t ∈ PyData.shownAll ps, TOk t
  | [], _, _, t, ht => by simp [PyData.shownAll] at ht
  | p :: ps, B, h, t, ht => by
    simp only [PyData.shownAll] at ht
    rcases List.mem_cons.mp ht with rfl | z
    · exact (h p List.mem_cons_self).txt
    · exact tok_all (fun q hq => h q (List.mem_cons_of_mem _ hq)) t z
theorem sh_tup {ps : List PyData} {B : Nat} (h : ∀ p ∈ ps, Sh p B) : Sh (.tuple ps) (ps.length * (B + 2) + 3) := by
  obtain ⟨h1, h2, h3⟩ := sh_all h
  refine ⟨by simp only [PyData.showable, h1], ?_, ?_⟩
  · simp only [PyData.shown]
    have := tupleText_len_le (PyData.shownAll ps)
    rw [h3] at this
    rw [Nat.mul_add]
    omega
  · simp only [PyData.shown]
    exact ((tok_of "(").app (tok_join (tok_of ", ") (tok_all h))).app (tok_of _)
theorem sh_list {ps : List PyData} {B : Nat} (h : ∀ p ∈ ps, Sh p B) : Sh (.list ps) (ps.length * (B + 2) + 3) := by
  obtain ⟨h1, h2, h3⟩ := sh_all h
  refine ⟨by simp only [PyData.showable, h1], ?_, ?_⟩
  · simp only [PyData.shown]
    have := listText_len_le (PyData.shownAll ps)
    rw [h3] at this
    rw [Nat.mul_add]
    omega
  · simp only [PyData.shown]
    rw [listText_eq_join]
    exact ((tok_of "[").app (tok_join (tok_of ", ") (tok_all h))).app (tok_of "]")
/-- reads as something that can be shown -/
def Shows (S : Store) (d : D) (k N : Nat) : Prop := ∃ p, toP S k d = some p ∧ Sh p N
theorem Shows.mono {S : Store} {d : D} {k N M : Nat} (h : Shows S d k N) (l : N ≤ M) : Shows S d k M := by
  obtain ⟨p, e, s⟩ := h
  exact ⟨p, e, s.mono l⟩
theorem optAll_of {α β : Type} {f : β → Option α} {Q : α → Prop} : ∀ {l : List β}, (∀ x ∈ l, ∃ a, f x = some a ∧ Q a) → ∃ as, optAll (l.map f) = some as ∧ as.length = l.length ∧ ∀ a ∈ as, Q a
  | [], _ => ⟨[], rfl, rfl, fun a h => (by cases h)⟩
  | x :: l, h => by
    obtain ⟨a, e, q⟩ := h x List.mem_cons_self
    obtain ⟨as, e2, l2, q2⟩ := optAll_of (fun y hy => h y (List.mem_cons_of_mem _ hy)) (l := l)
    refine ⟨a :: as, ?_, by simp [l2], fun b hb => ?_⟩
    · rw [List.map_cons, e]
      show (optAll (l.map f)).map _ = _
      rw [e2]; rfl
    · rcases List.mem_cons.mp hb with rfl | hb
      · exact q
      · exact q2 b hb
theorem shows_tup {S : Store} {b : Bool} {ds : List D} {k B : Nat} (h : ∀ d ∈ ds, Shows S d k B) : Shows S (.tup b ds) (k + 1) (ds.length * (B + 2) + 3) := by
  obtain ⟨ps, e, l, q⟩ := optAll_of h
  refine ⟨.tuple ps, ?_, by rw [← l]; exact sh_tup q⟩
  show (optAll (ds.map (toP S k))).map PyData.tuple = _
  rw [e]; rfl
theorem shows_lst {S : Store} {l : Nat} {lk : Bool} {ds : List D} {k B : Nat} (e0 : S[l]? = some (lk, .lst ds)) (h : ∀ d ∈ ds, Shows S d k B) : Shows S (.ref l) (k + 1) (ds.length * (B + 2) + 3) := by
  obtain ⟨ps, e, l', q⟩ := optAll_of h
  refine ⟨.list ps, ?_, by rw [← l']; exact sh_list q⟩
  unfold toP
  simp only [e0, e, Option.map_some]
theorem shows_int {S : Store} {i : Int} {k : Nat} (h : Bs 1900 i) : Shows S (.int i) (k + 1) 1921 := ⟨.int i, rfl, sh_int h⟩
theorem shows_bl (S : Store) (b : Bool) (k : Nat) : Shows S (.bl b) (k + 1) 1921 := ⟨.bool b, rfl, sh_bool b⟩
theorem shows_non (S : Store) (k : Nat) : Shows S .non (k + 1) 1921 := ⟨.none, rfl, sh_none⟩
theorem shows_trip {S : Store} {x y z : D} {k : Nat} (h1 : Shows S x k 1921) (h2 : Shows S y k 1921) (h3 : Shows S z k 1921) : Shows S (.tup false [x, y, z]) (k + 1) 5772 := by
  refine (shows_tup (B := 1921) (fun d hd => ?_)).mono (by simp)
  rcases List.mem_cons.mp hd with rfl | hd
  · exact h1
  · rcases List.mem_cons.mp hd with rfl | hd
    · exact h2
    · rw [List.mem_singleton.mp hd]; exact h3
/-- what a term's numbers must be to be shown -/
def Rok (r : Raw) : Prop := Bs 1900 r.1 ∧ Bs 1900 r.2.1 ∧ Bs 1900 r.2.2
theorem shows_rt {S : Store} {r : Raw} {k : Nat} (h : Rok r) : Shows S (rt r) (k + 2) 5772 := shows_trip (shows_int h.1) (shows_int h.2.1) (shows_int h.2.2)
theorem shows_rts {S : Store} {rs : List Raw} {k : Nat} (h : ∀ r ∈ rs, Rok r) (hl : rs.length ≤ 40) : Shows S (.tup false (rs.map rt)) (k + 3) 240000 :=
  (shows_tup (B := 5772) (fun d hd => by
    obtain ⟨r, hr, rfl⟩ := List.mem_map.mp hd
    exact shows_rt (h r hr))).mono (by rw [List.length_map]; omega)
theorem shows_pair {S : Store} {x y : D} {k : Nat} (h1 : Shows S x k 240000) (h2 : Shows S y k 240000) : Shows S (.tup false [x, y]) (k + 1) 1000000 := by
  refine (shows_tup (B := 240000) (fun d hd => ?_)).mono (by simp)
  rcases List.mem_cons.mp hd with rfl | hd
  · exact h1
  · rw [List.mem_singleton.mp hd]; exact h2
theorem repr_of {S : Store} {d : D} {p : PyData} (h : rdP S d = some p) (k : Sh p 1000000) : reprD [d] S = some (.str p.shown, S) := by
  unfold reprD
  simp only [h]
  rw [if_pos ⟨k.ok, by have := k.len; have := szl; omega⟩]
/-- what was a list stays that list -/
def Lk (S S' : Store) : Prop := ∀ (l : Nat) (b : Bool) (ds : List D), S[l]? = some (b, Cell.lst ds) → S'[l]? = some (b, Cell.lst ds)
theorem Lk.ext {S S' : Store} (h : Ext S S') : Lk S S' := fun l b ds e => h.get e
theorem Lk.kp {S S' : Store} {lp : Nat} (h : Kp lp S S') (e : ∃ b kvs, S[lp]? = some (b, .dct kvs)) : Lk S S' := fun l b ds el => by
  refine h.get el fun z => ?_
  obtain ⟨b', kvs, e⟩ := e
  rw [z, e] at el
  cases el
theorem Lk.trans {A B C : Store} (h : Lk A B) (k : Lk B C) : Lk A C := fun l b ds e => k l b ds (h l b ds e)
theorem toP_keep {S S' : Store} (h : Lk S S') : ∀ (k : Nat) (d : D) (p : PyData), toP S k d = some p → toP S' k d = some p
  | 0, _, _, e => by cases e
  | k + 1, d, p, e => by
    have all : ∀ (ds : List D) (ps : List PyData), optAll (ds.map (toP S k)) = some ps → optAll (ds.map (toP S' k)) = some ps := fun ds => by
      induction ds with
      | nil => intro ps e; exact e
      | cons d ds ih =>
        intro ps e
        obtain ⟨a, l', e1, e2, rfl⟩ := optAll_cons e
        rw [List.map_cons, toP_keep h k d a e1]
        show (optAll (ds.map (toP S' k))).map _ = _
        rw [ih l' e2]; rfl
    cases d with
    | tup b ds =>
      have e' : (optAll (ds.map (toP S k))).map PyData.tuple = some p := e
      show (optAll (ds.map (toP S' k))).map PyData.tuple = some p
      cases q : optAll (ds.map (toP S k)) with
      | none => rw [q] at e'; cases e'
      | some ps => rw [q] at e'; rw [all ds ps q]; exact e'
    | ref l =>
      unfold toP at e ⊢
      simp only at e ⊢
      split at e
      · rename_i b ds el
        rw [h l b ds el]
        simp only
        cases q : optAll (ds.map (toP S k)) with
        | none => rw [q] at e; cases e
        | some ps => rw [q] at e; rw [all ds ps q]; exact e
      · cases e
    | non => exact e
    | bl b => exact e
    | int i => exact e
    | str s => exact e
    | fn x => exact e
    | ty x => exact e
end MK
set_option Elab.async false
set_option linter.all false
set_option maxRecDepth 100000
set_option maxHeartbeats 1000000
/-! ML: values that are no quotient. -/
namespace ML
open PySem PySem.Spec PyProof.Rows L2 PP MA MB MC MD ME MF MG MH MI MJ MK G24
theorem inc_cons2 (y z : Raw) (w : List Raw) : inc (y :: z :: w) = (decide (y.1 < z.1) && inc (z :: w)) := rfl
theorem inc_twice (x : Raw) : ∀ xs : List Raw, inc (xs ++ [x, x]) = false
  | [] => by
    show inc [x, x] = false
    rw [inc_cons2]
    simp
  | [y] => by
    show inc (y :: x :: [x]) = false
    rw [inc_cons2]
    have : inc (x :: [x]) = false := inc_twice x []
    rw [this, Bool.and_false]
  | y :: z :: xs => by
    show inc (y :: z :: (xs ++ [x, x])) = false
    rw [inc_cons2]
    have : inc (z :: (xs ++ [x, x])) = false := inc_twice x (z :: xs)
    rw [this, Bool.and_false]
theorem isq_false {A B : D} {S : Store} {x y : Bool} {s : Int} (hA : Pg g_is_worth [A] S (.bl x)) (hB : x = true → Pg g_is_worth [B] S (.bl y)) (hs : (x && y) = true → Pg g_sign_of [B] S (.int s)) (h : (x && y && decide (s = 1)) = false) : Pg g_is_quotient [.tup false [A, B]] S (.bl false) := by
  have := is_quotient_2 hA hB hs
  rw [h] at this
  exact this
/-- the top is a worth, the bottom none -/
theorem isq_bot {A B : D} {S : Store} (hA : Pg g_is_worth [A] S (.bl true)) (hB : Pg g_is_worth [B] S (.bl false)) : Pg g_is_quotient [.tup false [A, B]] S (.bl false) :=
  isq_false (x := true) (y := false) (s := 0) hA (fun _ => hB) (fun z => by cases z) rfl
theorem isq_top {A B : D} {S : Store} (hA : Pg g_is_worth [A] S (.bl false)) : Pg g_is_quotient [.tup false [A, B]] S (.bl false) :=
  isq_false (x := false) (y := false) (s := 0) hA (fun z => by cases z) (fun z => by cases z) rfl
/-- the bottom is some row of terms: it is none or its sign is not 1 -/
theorem isq_rows {A : D} {rs : List Raw} {S : Store} (hA : Pg g_is_worth [A] S (.bl true)) (hz : rs.length < sizeLine) (h : (rs.all isT && inc rs && decide (sgr rs = 1)) = false) : Pg g_is_quotient [.tup false [A, .tup false (rs.map rt)]] S (.bl false) :=
  isq_false (x := true) hA (fun _ => is_worth_rt rs hz S) (fun _ => sign_of rs S) (by rw [Bool.true_and]; exact h)
theorem tup_no_list {S : Store} {l : Nat} {b : Bool} {ds : List D} (e : S[l]? = some (b, .lst ds)) : ∀ s, Ext S s → isiD [.ref l, .ty "tuple"] s = some (.bl false, s) := fun s x => by
  unfold isiD tyD
  simp only [x.get e, Option.bind_some]
  rfl
/-- the odd values, over the places of two lists -/
def odds (a b : W) (la lb : Nat) : List D := match b with
  | [] => []
  | p :: r => [.non, .ref la, .tup false [tms a], .tup false [tms a, .tup false []], .tup false [tms a, tms (p :: r), tms (p :: r)], .int 0, .str "", .tup false [.non, tms (p :: r)], .tup false [tms a, .non]]
    ++ [.tup false [tms a, .tup false (rt (p.1, -p.2.num, (p.2.den : Int)) :: r.map tm)], .tup false [tms a, .tup false ((p :: r).map tm ++ ((p :: r).map tm).drop r.length)]]
    ++ [.tup false [tms a, .tup false ([((0, 2, 4) : Raw)].map rt)], .tup false [.tup false ([((0, 0, 1) : Raw)].map rt), tms (p :: r)], .tup false [tms a, .tup false [.tup false [.bl true, .int 1, .int 1]]], .tup false [tms a, .tup false ([((0, 1, -1) : Raw)].map rt)], .tup false [.tup false [], .tup false []]]
    ++ [.tup false [.ref lb, tms (p :: r)], .tup false [tms a, .tup false ([((1, 1, 1) : Raw), (1, 1, 1)].map rt)], .tup false [tms a, .tup false ([((-1, 1, 1) : Raw)].map rt)]]
theorem last_drop : ∀ (r : W) (p : Int × Rat), ∃ i q, (p :: r) = i ++ [q] ∧ (p :: r).drop r.length = [q]
  | [], p => ⟨[], p, rfl, rfl⟩
  | s :: r, p => by
    obtain ⟨i, q, e1, e2⟩ := last_drop r s
    exact ⟨p :: i, q, by rw [e1]; rfl, e2⟩
theorem odd_no {a b : W} {la lb : Nat} {S : Store} {d : D} {x y : List D} (q : GQ a b) (ea : S[la]? = some (false, .lst x)) (eb : S[lb]? = some (false, .lst y)) (hb : b.length < 1000) (hd : d ∈ odds a b la lb) : Pg g_is_quotient [d] S (.bl false) := by
  have hA := is_worth_good q.ga q.pa q.la S
  cases b with
  | nil => cases hd
  | cons p r =>
    have hp : 0 < p.2.num := by
      have h : sgv p.2 = 1 := q.s
      unfold sgv at h
      by_cases c : 0 < p.2
      · exact (num_pos _).mpr c
      · rw [if_neg c] at h
        exact absurd h (by decide)
    have no1 : ∀ (d : D) (h : ∀ s, isiD [d, .ty "tuple"] s = some (.bl false, s)), Pg g_is_quotient [d] S (.bl false) := fun d h => is_quotient_no (fun s _ => h s)
    have sl := szl
    simp only [odds, List.mem_append, List.mem_cons, List.not_mem_nil, or_false] at hd
    rcases hd with (((rfl | rfl | rfl | rfl | rfl | rfl | rfl | rfl | rfl) | rfl | rfl) | rfl | rfl | rfl | rfl | rfl) | rfl | rfl | rfl
    · exact no1 _ (fun _ => rfl)
    · exact is_quotient_no (tup_no_list ea)
    · exact is_quotient_len (by simp)
    · exact isq_rows (rs := []) hA (by simp; omega) rfl
    · exact is_quotient_len (by simp)
    · exact no1 _ (fun _ => rfl)
    · exact no1 _ (fun _ => rfl)
    · exact isq_top (is_worth_no (fun _ _ => rfl))
    · exact isq_bot hA (is_worth_no (fun _ _ => rfl))
    · have h := isq_rows (A := tms a) (rs := (p.1, -p.2.num, (p.2.den : Int)) :: rws r) (S := S) hA (by
        have := q.lb
        simpa using this) (by
        have : sgr ((p.1, -p.2.num, (p.2.den : Int)) :: rws r) = -1 := if_neg (by show ¬ 0 < -p.2.num; omega)
        rw [this]
        simp)
      rw [List.map_cons, ← tm_rt] at h
      exact h
    · obtain ⟨i, z, e1, e2⟩ := last_drop r p
      have e3 : (p :: r).map tm ++ ((p :: r).map tm).drop r.length = (rws i ++ [((z.1, z.2.num, (z.2.den : Int)) : Raw), (z.1, z.2.num, (z.2.den : Int))]).map rt := by
        rw [← List.map_drop, e2, e1, tm_rt]
        simp
      rw [e3]
      refine isq_rows hA ?_ ?_
      · have h2 := congrArg List.length e1
        simp at hb h2 ⊢
        omega
      · rw [inc_twice]; simp
    · exact isq_rows hA (by simp; omega) rfl
    · exact isq_top (by
        have := is_worth_rt [((0, 0, 1) : Raw)] (by simp; omega) S
        exact this)
    · exact isq_bot hA (is_worth_b true 1 1 S)
    · exact isq_rows hA (by simp; omega) rfl
    · exact isq_rows (rs := []) (A := .tup false []) (is_worth_rt [] (by simp; omega) S) (by simp; omega) rfl
    · exact isq_top (is_worth_no (tup_no_list eb))
    · exact isq_rows hA (by simp; omega) rfl
    · exact isq_rows hA (by simp; omega) rfl
/-- may be shown: few terms, numbers and orders not great -/
structure Few (a : W) : Prop where
  len : a.length ≤ 30
  ok : ∀ p ∈ a, Ok p.2
  k : ∀ p ∈ a, 0 ≤ p.1 ∧ p.1 < 100000
theorem bs_small {i : Int} (h : i.natAbs < 2 ^ 20) : Bs 1900 i := (show Bs 20 i from h).mono (by omega)
theorem Few.rok {a : W} (h : Few a) : ∀ r ∈ rws a, Rok r := fun r hr => by
  obtain ⟨p, hp, rfl⟩ := List.mem_map.mp hr
  have := h.k p hp
  exact ⟨bs_small (by show p.1.natAbs < 2 ^ 20; omega), (h.ok p hp).num, (h.ok p hp).den⟩
theorem shows_tms {S : Store} {a : W} {k : Nat} (h : Few a) : Shows S (tms a) (k + 3) 240000 := by
  have := shows_rts (S := S) (k := k) h.rok (by have := h.len; simp; omega)
  rw [← tm_rt] at this
  exact this
theorem shows_quo {S : Store} {a b : W} (ha : Few a) (hb : Few b) : Shows S (quo a b) 30 1000000 := shows_pair (k := 29) (shows_tms ha) (shows_tms hb)
theorem rok3 {x y z : Int} (h : x.natAbs < 10 ∧ y.natAbs < 10 ∧ z.natAbs < 10) : Rok (x, y, z) := ⟨bs_small (by show x.natAbs < 2 ^ 20; omega), bs_small (by show y.natAbs < 2 ^ 20; omega), bs_small (by show z.natAbs < 2 ^ 20; omega)⟩
theorem shows_emp (S : Store) (k : Nat) : Shows S (.tup false []) (k + 1) 240000 := (shows_tup (ds := []) (B := 0) (fun d h => (by cases h))).mono (by simp)
theorem odd_shows {a b : W} {la lb : Nat} {S : Store} {d : D} (fa : Few a) (fb : Few b) (ea : S[la]? = some (false, .lst [tms a, tms b])) (eb : S[lb]? = some (false, .lst (a.map tm))) (hd : d ∈ odds a b la lb) : Shows S d 30 1000000 := by
  have hA : Shows S (tms a) 29 240000 := shows_tms fa
  have hB : Shows S (tms b) 29 240000 := shows_tms fb
  have hz : Shows S .non 29 240000 := (shows_non S 28).mono (by omega)
  have row : ∀ rs : List Raw, (∀ r ∈ rs, Rok r) → rs.length ≤ 40 → Shows S (.tup false (rs.map rt)) 29 240000 := fun rs h1 h2 => shows_rts (k := 26) h1 h2
  cases b with
  | nil => cases hd
  | cons p r =>
    simp only [odds, List.mem_append, List.mem_cons, List.not_mem_nil, or_false] at hd
    rcases hd with (((rfl | rfl | rfl | rfl | rfl | rfl | rfl | rfl | rfl) | rfl | rfl) | rfl | rfl | rfl | rfl | rfl) | rfl | rfl | rfl
    · exact (shows_non S 29).mono (by omega)
    · exact (shows_lst (B := 240000) ea (fun d hd => by
        rcases List.mem_cons.mp hd with rfl | hd
        · exact hA
        · rw [List.mem_singleton.mp hd]; exact hB)).mono (by simp)
    · exact (shows_tup (B := 240000) (fun d hd => by rw [List.mem_singleton.mp hd]; exact hA)).mono (by simp)
    · exact shows_pair hA (shows_emp S 28)
    · exact (shows_tup (B := 240000) (fun d hd => by
        rcases List.mem_cons.mp hd with rfl | hd
        · exact hA
        · rcases List.mem_cons.mp hd with rfl | hd
          · exact hB
          · rw [List.mem_singleton.mp hd]; exact hB)).mono (by simp)
    · exact (shows_int (k := 29) (bs_small (i := 0) (by decide))).mono (by omega)
    · refine ⟨.str "", ?_, by simp only [PyData.showable], by
        simp only [PyData.shown]
        decide +kernel, by
        simp only [PyData.shown]
        have e : reprText (Str.ofString "") = Str.ofString "''" := by decide +kernel
        rw [e]
        exact tok_of "''"⟩
      show (if PyData.strOk (Str.ofString "") = true then some (PyData.str (Str.ofString "")) else none) = _
      exact if_pos (by decide +kernel)
    · exact shows_pair hz hB
    · exact shows_pair hA hz
    · refine shows_pair hA ?_
      have := row ((p.1, -p.2.num, (p.2.den : Int)) :: rws r) (fun x hx => by
        rcases List.mem_cons.mp hx with rfl | hx
        · have h := fb.rok (p.1, p.2.num, (p.2.den : Int)) List.mem_cons_self
          exact ⟨h.1, by have := h.2.1; unfold Bs at this ⊢; rw [Int.natAbs_neg]; exact this, h.2.2⟩
        · exact fb.rok x (List.mem_cons_of_mem _ hx)) (by have := fb.len; simp at this ⊢; omega)
      rw [List.map_cons, ← tm_rt] at this
      exact this
    · refine shows_pair hA ?_
      rw [tm_rt, ← List.map_drop, ← List.map_append]
      refine row _ (fun x hx => ?_) ?_
      · rcases List.mem_append.mp hx with z | z
        · exact fb.rok x z
        · exact fb.rok x (List.mem_of_mem_drop z)
      · have := fb.len
        simp at this ⊢
        omega
    · exact shows_pair hA (row _ (fun x hx => by rw [List.mem_singleton.mp hx]; exact rok3 (by decide)) (by decide))
    · exact shows_pair (row _ (fun x hx => by rw [List.mem_singleton.mp hx]; exact rok3 (by decide)) (by decide)) hB
    · refine shows_pair hA ((shows_tup (k := 28) (B := 5772) (fun d hd => ?_)).mono (by simp))
      rw [List.mem_singleton.mp hd]
      exact shows_trip (k := 27) (shows_bl S true 26) (shows_int (bs_small (by decide))) (shows_int (bs_small (by decide)))
    · exact shows_pair hA (row _ (fun x hx => by rw [List.mem_singleton.mp hx]; exact rok3 (by decide)) (by decide))
    · exact shows_pair (shows_emp S 28) (shows_emp S 28)
    · refine shows_pair ((shows_lst (k := 28) (B := 5772) eb (fun d hd => ?_)).mono ?_) hB
      · obtain ⟨x, hx, rfl⟩ := List.mem_map.mp hd
        exact shows_rt (k := 26) (fa.rok (x.1, x.2.num, (x.2.den : Int)) (List.mem_map_of_mem hx))
      · have := fa.len
        simp
        omega
    · exact shows_pair hA (row _ (fun x hx => by
        rcases List.mem_cons.mp hx with rfl | hx
        · exact rok3 (by decide)
        · rw [List.mem_singleton.mp hx]; exact rok3 (by decide)) (by decide))
    · exact shows_pair hA (row _ (fun x hx => by rw [List.mem_singleton.mp hx]; exact rok3 (by decide)) (by decide))
/-! ### the draw of one -/
theorem addD_l {S : Store} {l k : Nat} {xs ys : List D} (e1 : S[l]? = some (false, .lst xs)) (e2 : S[k]? = some (false, .lst ys)) (h : xs.length + ys.length ≤ sizeLine) : addD (.ref l) (.ref k) S = some (.ref S.length, S ++ [(false, .lst (xs ++ ys))]) := by
  unfold addD
  simp only [e1, e2, h, if_true]
theorem st_add {env : EnvD} {S x0 : Store} {l : Nat} {xs ys : List D} {L : Ev (List D)} (h2 : env[2]? = some (some (.ref l))) (e : S[l]? = some (false, .lst xs)) (hL : L env S = .ok ys (S ++ x0)) (hz : xs.length + ys.length ≤ 1000) :
    ∃ n ex, ev2 addD (evVar 2) (evL mkLst L) env S = .ok (.ref n) (S ++ (x0 ++ ex)) ∧ (S ++ (x0 ++ ex))[n]? = some (false, .lst (xs ++ ys)) ∧ S.length < n := by
  have hs := szl
  refine ⟨(S ++ x0).length + 1, [(false, .lst ys), (false, .lst (xs ++ ys))], ?_, ?_, by rw [List.length_append]; omega⟩
  · have a := addD_l (S := S ++ x0 ++ [(false, .lst ys)]) (app_at (app_at e _) _) (at_end (S ++ x0) [] _) (by omega)
    have hy : ys.length ≤ sizeLine := by omega
    unfold ev2 evL
    simp only [evVar, h2, Res.bind, hL, mkLst, hy, if_true, newL, Res.ofOpt, a]
    rw [List.length_append (as := S ++ x0)]
    simp only [List.length_cons, List.length_nil, Nat.zero_add, List.append_assoc, List.cons_append, List.nil_append]
  · have := at_end (S ++ x0 ++ [(false, .lst ys)]) [] (false, Cell.lst (xs ++ ys))
    rw [List.length_append (as := S ++ x0)] at this
    simpa using this
theorem cut_last (p : Int × Rat) (r : W) (S : Store) : sliceD (tms (p :: r)) (some (-1)) none S = some (.tup false (((p :: r).map tm).drop r.length), S) := by
  show some (D.tup false (cutL ((p :: r).map tm) (some (-1)) none), S) = _
  have e1 : HT.sIx ((p :: r).map tm).length 0 (some (-1)) = r.length := by
    unfold HT.sIx
    simp only
    rw [if_pos (by omega), List.length_map, List.length_cons]
    omega
  have e2 : HT.sIx ((p :: r).map tm).length ((p :: r).map tm).length none = ((p :: r).map tm).length := rfl
  unfold cutL
  rw [e1, e2, List.take_of_length_le (by simp)]
theorem cut_first (p : Int × Rat) (r : W) (S : Store) : sliceD (tms (p :: r)) (some 1) none S = some (tms r, S) := by
  show some (D.tup false (cutL ((p :: r).map tm) (some 1) none), S) = _
  rw [cut_one]; rfl
theorem law_odd {n : Nat} {S : Store} {lp : Nat} {a b : W} (hp : Pen (n + 1) S lp) (q : GQ a b) (hb : b.length < 1000) : ∃ d la lb S', g__law_odd [.ref lp, quo a b] S = .ok d S' ∧ d ∈ odds a b la lb ∧ S'[la]? = some (false, .lst [tms a, tms b]) ∧ S'[lb]? = some (false, .lst (a.map tm)) ∧ Pen n S' lp ∧ Kp lp S S' := by
  have hlt := hp.lt
  have sl := szl
  cases b with
  | nil => exact absurd q.s (by decide)
  | cons p r =>
    have l10 : 9 ≤ sizeLine := by decide
    have l4 : ∀ k, k ≤ 1000 → k ≤ sizeLine := fun k h => by omega
    -- the first nine
    have s2 : sSet 2 (evL mkLst (evCons (evC .non) (evCons (evL mkLst (evCons (evVar 3) (evCons (evVar 4) evNil))) (evCons (evL mkTup (evCons (evVar 3) evNil)) (evCons (evL mkTup (evCons (evVar 3) (evCons (evL mkTup evNil) evNil))) (evCons (evL mkTup (evCons (evVar 3) (evCons (evVar 4) (evCons (evVar 4) evNil)))) (evCons (evC (.int 0)) (evCons (evC (.str "")) (evCons (evL mkTup (evCons (evC .non) (evCons (evVar 4) evNil))) (evCons (evL mkTup (evCons (evVar 3) (evCons (evC .non) evNil))) evNil)))))))))) [some (.ref lp), some (quo a (p :: r)), none, some (tms a), some (tms (p :: r))] S
        = .fl (.nx [some (.ref lp), some (quo a (p :: r)), some (.ref (S.length + 1)), some (tms a), some (tms (p :: r))]) (S ++ [(false, .lst [tms a, tms (p :: r)])] ++ [(false, .lst [.non, .ref S.length, .tup false [tms a], .tup false [tms a, .tup false []], .tup false [tms a, tms (p :: r), tms (p :: r)], .int 0, .str "", .tup false [.non, tms (p :: r)], .tup false [tms a, .non]])]) := by
      unfold sSet ofE evL evCons evNil evC
      simp only [evVar, Res.bind, List.getElem?_cons_zero, List.getElem?_cons_succ, mkLst, mkTup, newL, Res.ofOpt, List.length_cons, List.length_nil, Nat.zero_add, Nat.reduceAdd, Nat.zero_le, one_le, two_le, three_le, l10, if_true, List.length_append, List.set_cons_succ, List.set_cons_zero]
    have f2 := at_end (S ++ [(false, Cell.lst [tms a, tms (p :: r)])]) [] (false, Cell.lst [.non, .ref S.length, .tup false [tms a], .tup false [tms a, .tup false []], .tup false [tms a, tms (p :: r), tms (p :: r)], .int 0, .str "", .tup false [.non, tms (p :: r)], .tup false [tms a, .non]])
    rw [show (S ++ [(false, Cell.lst [tms a, tms (p :: r)])]).length = S.length + 1 by simp] at f2
    have fa : (S ++ [(false, Cell.lst [tms a, tms (p :: r)])] ++ [(false, Cell.lst [.non, .ref S.length, .tup false [tms a], .tup false [tms a, .tup false []], .tup false [tms a, tms (p :: r), tms (p :: r)], .int 0, .str "", .tup false [.non, tms (p :: r)], .tup false [tms a, .non]])])[S.length]? = some (false, .lst [tms a, tms (p :: r)]) := app_at (at_end S [] _) _
    have e1 : Ext S (S ++ [(false, Cell.lst [tms a, tms (p :: r)])] ++ [(false, Cell.lst [.non, .ref S.length, .tup false [tms a], .tup false [tms a, .tup false []], .tup false [tms a, tms (p :: r), tms (p :: r)], .int 0, .str "", .tup false [.non, tms (p :: r)], .tup false [tms a, .non]])]) := ⟨_, List.append_assoc _ _ _⟩
    generalize S ++ [(false, Cell.lst [tms a, tms (p :: r)])] ++ [(false, Cell.lst [.non, .ref S.length, .tup false [tms a], .tup false [tms a, .tup false []], .tup false [tms a, tms (p :: r), tms (p :: r)], .int 0, .str "", .tup false [.non, tms (p :: r)], .tup false [tms a, .non]])] = S2 at s2 f2 fa e1
    -- two more
    obtain ⟨n3, x3, q3, f3, g3⟩ := st_add (S := S2) (x0 := []) (env := [some (.ref lp), some (quo a (p :: r)), some (.ref (S.length + 1)), some (tms a), some (tms (p :: r))]) (L := (evCons (evL mkTup (evCons (evVar 3) (evCons (ev2 addD (evL mkTup (evCons (evL mkTup (evCons (ev2 subscD (ev2 subscD (evVar 4) (evC (.int 0))) (evC (.int 0))) (evCons (ev1 negD (ev2 subscD (ev2 subscD (evVar 4) (evC (.int 0))) (evC (.int 1)))) (evCons (ev2 subscD (ev2 subscD (evVar 4) (evC (.int 0))) (evC (.int 2))) evNil)))) evNil)) (evSl sliceD (evVar 4) (some (evC (.int 1))) none)) evNil))) (evCons (evL mkTup (evCons (evVar 3) (evCons (ev2 addD (evVar 4) (evSl sliceD (evVar 4) (some (ev1 negD (evC (.int 1)))) none)) evNil))) evNil)))
      (ys := [.tup false [tms a, .tup false (rt (p.1, -p.2.num, (p.2.den : Int)) :: r.map tm)], .tup false [tms a, .tup false ((p :: r).map tm ++ ((p :: r).map tm).drop r.length)]]) rfl f2 (by
        have h1 : (1 + (r.map tm).length) ≤ sizeLine := by simp at hb ⊢; omega
        have h2 : (r.map tm).length + 1 + ((tm p :: r.map tm).drop r.length).length ≤ sizeLine := by simp at hb ⊢; omega
        rw [List.append_nil]
        unfold evCons evL ev2 ev1 evSl evNil evC
        simp only [evVar, Res.bind, List.getElem?_cons_zero, List.getElem?_cons_succ, mkTup, Res.ofOpt, List.length_cons, List.length_nil, Nat.zero_add, Nat.reduceAdd, one_le, two_le, three_le, if_true, ix0t, ix0, ix1, ix2, negD, evPart, cut_first, cut_last, addD, h1, h2, Bool.or_self, List.cons_append, List.nil_append, List.map_cons, List.drop_succ_cons]) (by simp)
    rw [List.nil_append] at q3 f3
    have fa3 := app_at fa x3
    have e3 := e1.app x3
    generalize S2 ++ x3 = S3 at q3 f3 fa3 e3
    -- five more
    obtain ⟨n4, x4, q4, f4, g4⟩ := st_add (S := S3) (x0 := []) (env := [some (.ref lp), some (quo a (p :: r)), some (.ref n3), some (tms a), some (tms (p :: r))]) (L := (evCons (evL mkTup (evCons (evVar 3) (evCons (evL mkTup (evCons (evL mkTup (evCons (evC (.int 0)) (evCons (evC (.int 2)) (evCons (evC (.int 4)) evNil)))) evNil)) evNil))) (evCons (evL mkTup (evCons (evL mkTup (evCons (evL mkTup (evCons (evC (.int 0)) (evCons (evC (.int 0)) (evCons (evC (.int 1)) evNil)))) evNil)) (evCons (evVar 4) evNil))) (evCons (evL mkTup (evCons (evVar 3) (evCons (evL mkTup (evCons (evL mkTup (evCons (evC (.bl true)) (evCons (evC (.int 1)) (evCons (evC (.int 1)) evNil)))) evNil)) evNil))) (evCons (evL mkTup (evCons (evVar 3) (evCons (evL mkTup (evCons (evL mkTup (evCons (evC (.int 0)) (evCons (evC (.int 1)) (evCons (ev1 negD (evC (.int 1))) evNil)))) evNil)) evNil))) (evCons (evL mkTup (evCons (evL mkTup evNil) (evCons (evL mkTup evNil) evNil))) evNil))))))
      (ys := [.tup false [tms a, .tup false ([((0, 2, 4) : Raw)].map rt)], .tup false [.tup false ([((0, 0, 1) : Raw)].map rt), tms (p :: r)], .tup false [tms a, .tup false [.tup false [.bl true, .int 1, .int 1]]], .tup false [tms a, .tup false ([((0, 1, -1) : Raw)].map rt)], .tup false [.tup false [], .tup false []]]) rfl f3 (by
        rw [List.append_nil]
        unfold evCons evL ev1 evNil evC
        simp only [evVar, Res.bind, List.getElem?_cons_zero, List.getElem?_cons_succ, mkTup, Res.ofOpt, List.length_cons, List.length_nil, Nat.zero_add, Nat.reduceAdd, Nat.zero_le, one_le, two_le, three_le, if_true, negD]
        rfl) (by simp)
    rw [List.nil_append] at q4 f4
    have fa4 := app_at fa3 x4
    have e4 := e3.app x4
    generalize S3 ++ x4 = S4 at q4 f4 fa4 e4
    -- the last three
    obtain ⟨n5, x5, q5, f5, g5⟩ := st_add (S := S4) (x0 := [(false, .lst (a.map tm))]) (env := [some (.ref lp), some (quo a (p :: r)), some (.ref n4), some (tms a), some (tms (p :: r))]) (L := (evCons (evL mkTup (evCons (evL listD (evCons (evVar 3) evNil)) (evCons (evVar 4) evNil))) (evCons (evL mkTup (evCons (evVar 3) (evCons (evL mkTup (evCons (evL mkTup (evCons (evC (.int 1)) (evCons (evC (.int 1)) (evCons (evC (.int 1)) evNil)))) (evCons (evL mkTup (evCons (evC (.int 1)) (evCons (evC (.int 1)) (evCons (evC (.int 1)) evNil)))) evNil))) evNil))) (evCons (evL mkTup (evCons (evVar 3) (evCons (evL mkTup (evCons (evL mkTup (evCons (ev1 negD (evC (.int 1))) (evCons (evC (.int 1)) (evCons (evC (.int 1)) evNil)))) evNil)) evNil))) evNil))))
      (ys := [.tup false [.ref S4.length, tms (p :: r)], .tup false [tms a, .tup false ([((1, 1, 1) : Raw), (1, 1, 1)].map rt)], .tup false [tms a, .tup false ([((-1, 1, 1) : Raw)].map rt)]]) rfl f4 (by
        unfold evCons evL ev1 evNil evC
        simp only [evVar, Res.bind, List.getElem?_cons_zero, List.getElem?_cons_succ, mkTup, Res.ofOpt, List.length_cons, List.length_nil, Nat.zero_add, Nat.reduceAdd, Nat.zero_le, one_le, two_le, three_le, if_true, negD, listD, seqD, newL]
        rfl) (by simp)
    have fb5 : (S4 ++ ([(false, Cell.lst (a.map tm))] ++ x5))[S4.length]? = some (false, .lst (a.map tm)) := by
      rw [← List.append_assoc]
      exact app_at (at_end S4 [] _) _
    have fa5 := app_at fa4 ([(false, Cell.lst (a.map tm))] ++ x5)
    have e5 := e4.app ([(false, Cell.lst (a.map tm))] ++ x5)
    generalize S4 ++ ([(false, Cell.lst (a.map tm))] ++ x5) = S5 at q5 f5 fa5 fb5 e5
    obtain ⟨xx, hxx⟩ := e5
    have hp5 : Pen (n + 1) S5 lp := by rw [hxx]; exact hp.app xx
    have k5 : Kp lp S S5 := by rw [hxx]; exact Kp.app lp S xx
    have l5 := e4.len
    have l3 := e3.len
    obtain ⟨d, S6, q6, hd, p6, k6⟩ := law_pick hp5 f5 (by omega) (by simp) (by simp)
    refine ⟨d, S.length, S4.length, S6, ?_, hd, k6.get fa5 (by omega), k6.get fb5 (by omega), p6, k5.trans k6⟩
    unfold g__law_odd b__law_odd runS startD
    simp only [List.map_cons, List.map_nil, List.length_cons, List.length_nil, Nat.zero_add, Nat.reduceAdd, Nat.reduceSub, List.replicate_succ, List.replicate_zero, List.cons_append, List.nil_append]
    rw [seq_eq, show sTg (tgT 2 (tgsCons (tgN 3) (tgsCons (tgN 4) tgsNil))) (evVar 1) [some (.ref lp), some (quo a (p :: r)), none, none, none] S = .fl (.nx [some (.ref lp), some (quo a (p :: r)), none, some (tms a), some (tms (p :: r))]) S from rfl]
    simp only
    rw [seq_eq, s2]
    simp only
    rw [seq_eq]
    unfold sSet ofE
    rw [q3]
    simp only [List.set_cons_succ, List.set_cons_zero]
    rw [seq_eq, q4]
    simp only [List.set_cons_succ, List.set_cons_zero]
    unfold sRet ofE evCall
    rw [show ∀ (f : Ev D) (env : EnvD) (st : Store), evCons (evVar 0) (evCons f evNil) env st = (evVar 0 env st).bind fun x s1 => ((f env s1).bind fun y s2 => .ok [y] s2).bind fun xs s3 => .ok (x :: xs) s3 from fun _ _ _ => rfl]
    simp only [evVar, List.getElem?_cons_zero, Res.bind, q5, q6]
end ML
set_option Elab.async false
set_option linter.all false
set_option maxRecDepth 100000
set_option maxHeartbeats 1000000
/-! MM: errors that are told. -/
namespace MM
open PySem PySem.Spec PyProof.Rows L2 PP MA MB MC MD ME MF MG MH MI MJ MK ML G24
theorem exT_self : exT "BadWorth" "BadWorth" = some true := if_pos ⟨rfl, rfl⟩
abbrev told (p : PyData) : Str := Str.ofString "worth " ++ p.shown
theorem six : (Str.ofString "worth ").length = 6 := by rfl
theorem told_d {S : Store} {z : D} {p : PyData} (h : rdP S z = some p) (k : Sh p 1000000) (env : EnvD) : ev2 addD (evC (.str "worth ")) (evL reprD (evCons (evFld (bad z) "worth") evNil)) env S = .ok (.str (told p)) S := by
  have hr := repr_of h k
  have hl : (Str.ofString "worth ").length + p.shown.length ≤ sizeLine := by
    rw [six]
    have := k.len
    have := szl
    omega
  have hf : (bad z).lookup (Str.ofString "worth") = some z := rfl
  unfold ev2 evL evCons evNil evC evFld
  simp only [Res.bind, hf, Option.map_some, Res.ofOpt, hr, addD, hl, if_true]
theorem raised {way : Int} {d e z : D} {p : PyData} {S : Store} (hw : way = 0 ∧ Rer (g_are_alike [d, e]) S "BadWorth" (bad z) ∨ way = 1 ∧ Rer (g_quotient_above [d, e]) S "BadWorth" (bad z) ∨ way = 2 ∧ Rer (g_quotient_term [d]) S "BadWorth" (bad z)) (h : rdP S z = some p) (k : Sh p 1000000) :
    Pg g__law_raised [.int way, d, e] S (.str (told p)) := fun s x => by
  have fin : ∀ ex, rdP (s ++ ex) z = some p := fun ex => toP_keep (Lk.ext (x.app ex)) _ _ _ h
  rcases hw with ⟨rfl, r⟩ | ⟨rfl, r⟩ | ⟨rfl, r⟩
  · obtain ⟨ex, q⟩ := r s x
    refine ⟨ex, ?_⟩
    have t := told_d (fin ex) k [some (.int 0), some d, some e, none]
    unfold g__law_raised b__law_raised runS startD
    simp only [List.map_cons, List.map_nil, List.length_cons, List.length_nil, Nat.zero_add, Nat.reduceAdd, Nat.reduceSub, List.replicate_succ, List.replicate_zero, List.cons_append, List.nil_append]
    rw [seq_eq]
    unfold sTry
    have b : (sSeq (sIf (evTB (ev2 eqX (evVar 0) (evC (.int 0)))) (sExpr (evCall g_are_alike (evCons (evVar 1) (evCons (evVar 2) evNil)))) sNext) (sSeq (sIf (evTB (ev2 eqX (evVar 0) (evC (.int 1)))) (sExpr (evCall g_quotient_above (evCons (evVar 1) (evCons (evVar 2) evNil)))) sNext) (sIf (evTB (ev2 eqX (evVar 0) (evC (.int 2)))) (sExpr (evCall g_quotient_term (evCons (evVar 1) evNil))) sNext))) [some (.int 0), some d, some e, none] s = .er "BadWorth" (bad z) [some (.int 0), some d, some e, none] (s ++ ex) := by
      unfold sSeq sIf ofE evTB ev2 evC sExpr evCall evCons evNil
      simp only [evVar, Res.bind, List.getElem?_cons_zero, List.getElem?_cons_succ, eqX_ii, Res.ofOpt, asB, Option.map_some, decide_true, if_true, ofE, q]
    rw [b]
    simp only [exT_self, List.length_cons, List.length_nil, Nat.zero_add, Nat.reduceAdd, Nat.reduceLT, if_true, List.set_cons_succ, List.set_cons_zero]
    rw [t]
  · obtain ⟨ex, q⟩ := r s x
    refine ⟨ex, ?_⟩
    have t := told_d (fin ex) k [some (.int 1), some d, some e, none]
    unfold g__law_raised b__law_raised runS startD
    simp only [List.map_cons, List.map_nil, List.length_cons, List.length_nil, Nat.zero_add, Nat.reduceAdd, Nat.reduceSub, List.replicate_succ, List.replicate_zero, List.cons_append, List.nil_append]
    rw [seq_eq]
    unfold sTry
    have b : (sSeq (sIf (evTB (ev2 eqX (evVar 0) (evC (.int 0)))) (sExpr (evCall g_are_alike (evCons (evVar 1) (evCons (evVar 2) evNil)))) sNext) (sSeq (sIf (evTB (ev2 eqX (evVar 0) (evC (.int 1)))) (sExpr (evCall g_quotient_above (evCons (evVar 1) (evCons (evVar 2) evNil)))) sNext) (sIf (evTB (ev2 eqX (evVar 0) (evC (.int 2)))) (sExpr (evCall g_quotient_term (evCons (evVar 1) evNil))) sNext))) [some (.int 1), some d, some e, none] s = .er "BadWorth" (bad z) [some (.int 1), some d, some e, none] (s ++ ex) := by
      have c : decide ((1 : Int) = 0) = false := rfl
      unfold sSeq sIf ofE evTB ev2 evC sExpr evCall evCons evNil
      simp only [evVar, Res.bind, List.getElem?_cons_zero, List.getElem?_cons_succ, eqX_ii, Res.ofOpt, asB, Option.map_some, c, Bool.false_eq_true, if_false, sNext, decide_true, if_true, ofE, sSeq, sIf, q]
    rw [b]
    simp only [exT_self, List.length_cons, List.length_nil, Nat.zero_add, Nat.reduceAdd, Nat.reduceLT, if_true, List.set_cons_succ, List.set_cons_zero]
    rw [t]
  · obtain ⟨ex, q⟩ := r s x
    refine ⟨ex, ?_⟩
    have t := told_d (fin ex) k [some (.int 2), some d, some e, none]
    unfold g__law_raised b__law_raised runS startD
    simp only [List.map_cons, List.map_nil, List.length_cons, List.length_nil, Nat.zero_add, Nat.reduceAdd, Nat.reduceSub, List.replicate_succ, List.replicate_zero, List.cons_append, List.nil_append]
    rw [seq_eq]
    unfold sTry
    have b : (sSeq (sIf (evTB (ev2 eqX (evVar 0) (evC (.int 0)))) (sExpr (evCall g_are_alike (evCons (evVar 1) (evCons (evVar 2) evNil)))) sNext) (sSeq (sIf (evTB (ev2 eqX (evVar 0) (evC (.int 1)))) (sExpr (evCall g_quotient_above (evCons (evVar 1) (evCons (evVar 2) evNil)))) sNext) (sIf (evTB (ev2 eqX (evVar 0) (evC (.int 2)))) (sExpr (evCall g_quotient_term (evCons (evVar 1) evNil))) sNext))) [some (.int 2), some d, some e, none] s = .er "BadWorth" (bad z) [some (.int 2), some d, some e, none] (s ++ ex) := by
      have c : decide ((2 : Int) = 0) = false := rfl
      have c' : decide ((2 : Int) = 1) = false := rfl
      unfold sSeq sIf ofE evTB ev2 evC sExpr evCall evCons evNil
      simp only [evVar, Res.bind, List.getElem?_cons_zero, List.getElem?_cons_succ, eqX_ii, Res.ofOpt, asB, Option.map_some, c, c', Bool.false_eq_true, if_false, sNext, decide_true, if_true, ofE, sSeq, sIf, q]
    rw [b]
    simp only [exT_self, List.length_cons, List.length_nil, Nat.zero_add, Nat.reduceAdd, Nat.reduceLT, if_true, List.set_cons_succ, List.set_cons_zero]
    rw [t]
/-! ### texts compared -/
theorem ne_str {z : Str} (h : TOk z) (S : Store) : neX (.str z) (.str z) S = some (.bl false, S) := by
  unfold neX neD
  have e : rdP S (.str z) = some (.str z) := if_pos h.str
  rw [show empD S (.str z) (.str z) = none from rfl, e]
  simp only [PyData.eqv]
  simp
theorem told_ok {p : PyData} (h : TOk p.shown) : TOk (told p) := (tok_of "worth ").app h
/-- what is told of an odd value is what is due -/
theorem pr_told {g : Ev D} {env : EnvD} {S : Store} {d : D} {p : PyData} {e : Ev (List D)} (h : rdP S d = some p) (k : Sh p 1000000) (hg : Pr g env S d) (h1 : Pr (evCall g__law_raised e) env S (.str (told p))) :
    Pr (evTB (ev2 neX (evCall g__law_raised e) (ev2 addD (evC (.str "worth ")) (evL reprD (evCons g evNil))))) env S false := by
  refine pr_TB (pr_2 h1 (y := .str (told p)) (pr_2 pr_c (pr_L (pr_cons hg pr_nil) (fun s x => repr_of (toP_keep (Lk.ext x) _ _ _ h) k)) (fun s x => ?_)) (fun s x => ne_str (told_ok k.txt) s))
  have hl : (Str.ofString "worth ").length + p.shown.length ≤ sizeLine := by
    rw [six]
    have := k.len
    have := szl
    omega
  simp only [addD, hl, if_true]
end MM
set_option Elab.async false
set_option linter.all false
set_option maxRecDepth 100000
set_option maxHeartbeats 1000000
/-! MN: the law's questions of two quotients. -/
namespace MN
open PySem PySem.Spec PyProof.Rows L2 PP MA MB MC MD ME MF MG MH MI MJ MK ML MM G24
/-- a top and a bottom as two dicts -/
structure Hf (S : Store) (l0 l1 : Nat) (a0 a1 : W) (m e : Nat) : Prop where
  e0 : S[l0]? = some (false, .dct (kv a0))
  e1 : S[l1]? = some (false, .dct (kv a1))
  n0 : (keys a0).Nodup
  n1 : (keys a1).Nodup
  z0 : ∀ p ∈ a0, p.2 ≠ 0
  z1 : ∀ p ∈ a1, p.2 ≠ 0
  k0 : ∀ p ∈ a0, 0 ≤ p.1 ∧ p.1 < 100000
  k1 : ∀ p ∈ a1, 0 ≤ p.1 ∧ p.1 < 100000
  sz : ∃ L B, Sz m L B a0 ∧ Sz m L B a1 ∧ L < 2 ^ e ∧ B < 2 ^ e
  sg : Sg (cf a1) 1
theorem Hf.keep {S S' : Store} {l0 l1 : Nat} {a0 a1 : W} {m e : Nat} (h : Hf S l0 l1 a0 a1 m e) (k : ∀ (l : Nat) (c : Bool × Cell), l = l0 ∨ l = l1 → S[l]? = some c → S'[l]? = some c) : Hf S' l0 l1 a0 a1 m e :=
  ⟨k _ _ (.inl rfl) h.e0, k _ _ (.inr rfl) h.e1, h.n0, h.n1, h.z0, h.z1, h.k0, h.k1, h.sz, h.sg⟩
theorem Hf.ext {S S' : Store} {l0 l1 : Nat} {a0 a1 : W} {m e : Nat} (h : Hf S l0 l1 a0 a1 m e) (x : Ext S S') : Hf S' l0 l1 a0 a1 m e := h.keep fun _ _ _ q => x.get q
theorem Hf.kp {S S' : Store} {l0 l1 lp : Nat} {a0 a1 : W} {m e : Nat} (h : Hf S l0 l1 a0 a1 m e) (x : Kp lp S S') (h0 : l0 ≠ lp) (h1 : l1 ≠ lp) : Hf S' l0 l1 a0 a1 m e := h.keep fun l c o q => by
  rcases o with rfl | rfl
  · exact x.get q h0
  · exact x.get q h1
section
variable {S : Store} {l0 l1 : Nat} {a0 a1 : W} {m e : Nat} (h : Hf S l0 l1 a0 a1 m e)
include h
theorem Hf.len (hm : m < 500) : a0.length ≤ m ∧ a1.length ≤ m := by
  obtain ⟨L, B, h1, h2, _⟩ := h.sz
  exact ⟨h1.len, h2.len⟩
theorem Hf.gq (hm : m < 500) : GQ (srt a0) (srt a1) := by
  obtain ⟨l1, l2⟩ := h.len hm
  have hs := szl
  have p0 := srt_perm h.n0
  have p1 := srt_perm h.n1
  have g1 := srt_nz h.n1 h.z1
  refine ⟨srt_nz h.n0 h.z0, g1, fun p hp => (h.k0 p (p0.mem_iff.mp hp)).1, fun p hp => (h.k1 p (p1.mem_iff.mp hp)).1, ?_, by rw [p0.length_eq]; omega, by rw [p1.length_eq]; omega⟩
  exact (g1.sg.congr (fun k => (cf_srt h.n1 k).symm)).uniq h.sg
theorem Hf.szs : ∃ L B, Sz m L B (srt a0) ∧ Sz m L B (srt a1) ∧ L < 2 ^ e ∧ B < 2 ^ e := by
  obtain ⟨L, B, h1, h2, h3, h4⟩ := h.sz
  have p0 := srt_perm h.n0
  have p1 := srt_perm h.n1
  exact ⟨L, B, ⟨by rw [p0.length_eq]; exact h1.len, fun p hp => h1.lat p (p0.mem_iff.mp hp), h1.pos⟩, ⟨by rw [p1.length_eq]; exact h2.len, fun p hp => h2.lat p (p1.mem_iff.mp hp), h2.pos⟩, h3, h4⟩
theorem Hf.few (hm : m ≤ 30) (he : e ≤ 1900) : Few (srt a0) ∧ Few (srt a1) := by
  obtain ⟨L, B, h1, h2, h3, h4⟩ := h.szs
  have p0 := srt_perm h.n0
  have p1 := srt_perm h.n1
  have hp := Nat.pow_le_pow_right (show 0 < 2 by omega) he
  exact ⟨⟨by have := h1.len; omega, fun p hp' => h1.ok (Nat.lt_of_lt_of_le h3 hp) (Nat.lt_of_lt_of_le h4 hp) hp', fun p hp' => h.k0 p (p0.mem_iff.mp hp')⟩,
    ⟨by have := h2.len; omega, fun p hp' => h2.ok (Nat.lt_of_lt_of_le h3 hp) (Nat.lt_of_lt_of_le h4 hp) hp', fun p hp' => h.k1 p (p1.mem_iff.mp hp')⟩⟩
end
theorem room3 {L B M C : Nat} (h1 : L < 2 ^ 300) (h2 : B < 2 ^ 300) (h3 : M < 2 ^ 400) (h4 : C < 2 ^ 400) : Room3 7 L B 21 M C := by
  have up : ∀ {x k : Nat}, x < 2 ^ k → k ≤ 1900 → x < 2 ^ 1900 := fun h k => Nat.lt_of_lt_of_le h (Nat.pow_le_pow_right (by omega) k)
  have lm : L * M < 2 ^ 700 := by
    have := Nat.mul_lt_mul_of_lt_of_lt h1 h3
    rwa [← Nat.pow_add] at this
  have bc : B * C < 2 ^ 700 := by
    have := Nat.mul_lt_mul_of_lt_of_lt h2 h4
    rwa [← Nat.pow_add] at this
  refine ⟨up h1 (by omega), up h2 (by omega), up h3 (by omega), up h4 (by omega), up lm (by omega), ?_, by omega, by omega, by omega, by omega⟩
  generalize B * C = x at bc
  have e : (7 * 21 + 7 * 21) * (7 * 21 * x + 7 * 21 * x) ≤ 2 ^ 17 * x := by
    rw [show (2 : Nat) ^ 17 = 131072 from rfl]
    omega
  have : 2 ^ 17 * x < 2 ^ 17 * 2 ^ 700 := Nat.mul_lt_mul_of_pos_left bc (by omega)
  rw [← Nat.pow_add] at this
  exact up (Nat.lt_of_le_of_lt e this) (by omega)
/-- what the program says of the difference is what the law says -/
theorem sgn_crs {S : Store} {la0 la1 lb0 lb1 : Nat} {a0 a1 b0 b1 : W} {m e m' e' : Nat} (h : Hf S la0 la1 a0 a1 m e) (k : Hf S lb0 lb1 b0 b1 m' e') {s : Int} (hs : Sg (fun j => cf (cross a0 b1) j - cf (cross b0 a1) j) s) : sgn (crs (srt a0) (srt a1) (srt b0) (srt b1)) = s := by
  refine (good_tot _).sg.uniq (hs.congr fun j => ?_)
  rw [cf_crs, cross_perm (srt_perm h.n0) (srt_perm k.n1), cross_perm (srt_perm k.n0) (srt_perm h.n1)]
theorem sgn_crs' {S : Store} {la0 la1 lb0 lb1 : Nat} {a0 a1 b0 b1 : W} {m e m' e' : Nat} (h : Hf S la0 la1 a0 a1 m e) (k : Hf S lb0 lb1 b0 b1 m' e') {s : Int} (hs : Sg (fun j => cf (cross a0 b1) j - cf (cross b0 a1) j) s) : sgn (crs (srt b0) (srt b1) (srt a0) (srt a1)) = -s :=
  sgn_crs k h (hs.neg fun j => by grind)
theorem empty_sgn {a : W} : a.isEmpty = decide (sgn a = 0) := by
  cases a with
  | nil => rfl
  | cons p a =>
    have := sgv_ne p.2
    have e : sgn (p :: a) = sgv p.2 := rfl
    rw [e]
    simp [this]
end MN
set_option Elab.async false
set_option linter.all false
set_option maxRecDepth 100000
set_option maxHeartbeats 1000000
/-! MO: the law's body, its questions. -/
namespace MO
open PySem PySem.Spec PyProof.Rows L2 PP MA MB MC MD ME MF MG MH MI MJ MK ML MM MN G24
/-- a statement that only lays things -/
def Rps (f : Ss) (env : EnvD) (S : Store) (e : EnvD) : Prop := ∀ s, Ext S s → ∃ ex, f env s = .fl (.nx e) (s ++ ex)
theorem Rps.mono {f : Ss} {env e : EnvD} {S S' : Store} (h : Rps f env S e) (x : Ext S S') : Rps f env S' e := fun s y => h s (x.trans y)
theorem rs_seq {f g : Ss} {env e1 e2 : EnvD} {S : Store} (h : Rps f env S e1) (k : Rps g e1 S e2) : Rps (sSeq f g) env S e2 := fun s x => by
  obtain ⟨x1, q1⟩ := h s x
  obtain ⟨x2, q2⟩ := k _ (x.app x1)
  exact ⟨x1 ++ x2, by rw [seq_eq, q1]; simp only; rw [q2, List.append_assoc]⟩
theorem rs_set {i : Nat} {f : Ev D} {env : EnvD} {S : Store} {d : D} (h : Pr f env S d) : Rps (sSet i f) env S (env.set i (some d)) := fun s x => by
  obtain ⟨x1, q1⟩ := h s x
  exact ⟨x1, by unfold sSet ofE; rw [q1]⟩
theorem rs_par {i j : Nat} {f : Ev (List D)} {env : EnvD} {S : Store} {d e : D} (h : Pr f env S [d, e]) : Rps (sPar i j f) env S ((env.set i (some d)).set j (some e)) := fun s x => by
  obtain ⟨x1, q1⟩ := h s x
  exact ⟨x1, by unfold sPar ofE; rw [q1]⟩
theorem rs_no {c : Ev Bool} {f : Ss} {env : EnvD} {S : Store} (h : Pr c env S false) : Rps (sIf c f sNext) env S env := fun s x => by
  obtain ⟨x1, q1⟩ := h s x
  exact ⟨x1, by unfold sIf ofE; rw [q1]; rfl⟩
theorem rs_yes {c : Ev Bool} {f g : Ss} {env e : EnvD} {S : Store} (h : Pr c env S true) (k : Rps f env S e) : Rps (sIf c f g) env S e := fun s x => by
  obtain ⟨x1, q1⟩ := h s x
  obtain ⟨x2, q2⟩ := k _ (x.app x1)
  exact ⟨x1 ++ x2, by unfold sIf ofE; rw [q1]; simp only [if_true]; rw [q2, List.append_assoc]⟩
/-- `not _law_is(.., ..)` where both are the same truth -/
theorem pr_isnt {fl : Ev (List D)} {env : EnvD} {S : Store} {b : Bool} (h : Pr fl env S [.bl b, .bl b]) : Pr (tnot (evT (evCall g__law_is fl))) env S false := by
  have := pr_tnot (pr_T (pr_call h (law_is b b S)) (po_bl (b == b) S))
  simpa using this
theorem list2 {f g : Ev D} {env : EnvD} {S : Store} {x y : D} (h : Pr f env S x) (k : Pr g env S y) : Pr (evCons f (evCons g evNil)) env S [x, y] := pr_cons h (pr_cons k pr_nil)
theorem list1 {f : Ev D} {env : EnvD} {S : Store} {x : D} (h : Pr f env S x) : Pr (evCons f evNil) env S [x] := pr_cons h pr_nil
section
variable {S : Store} {la0 la1 lb0 lb1 : Nat} {a0 a1 b0 b1 : W} (h : Hf S la0 la1 a0 a1 7 300) (k : Hf S lb0 lb1 b0 b1 21 400) (d1 : la0 ≠ lb1) (d2 : lb0 ≠ la1)
include h k d1 d2
theorem sign_at : ∃ s, Pg g__law_sign [.tup false [.ref la0, .ref la1], .tup false [.ref lb0, .ref lb1]] S (.int s) ∧ Sg (fun j => cf (cross a0 b1) j - cf (cross b0 a1) j) s := by
  obtain ⟨L, B, s1, s2, hL, hB⟩ := h.sz
  obtain ⟨M, C, t1, t2, hM, hC⟩ := k.sz
  have R := room3 hL hB hM hC
  obtain ⟨s, ex, q, sg⟩ := law_sign d1 d2 h.e0 h.e1 k.e0 k.e1 h.n0 h.n1 k.n0 k.n1 s1 s2 t1 t2 R
  refine ⟨s, fun s' x => ?_, sg⟩
  obtain ⟨s2', ex2, q2, sg2⟩ := law_sign d1 d2 (x.get h.e0) (x.get h.e1) (x.get k.e0) (x.get k.e1) h.n0 h.n1 k.n0 k.n1 s1 s2 t1 t2 R
  rw [sg2.uniq sg] at q2
  exact ⟨ex2, q2⟩
end
theorem lat_div' {t b : Int} (hb : b ≠ 0) : Lat b.natAbs t.natAbs (Rat.divInt t b) := by
  refine ⟨b.sign * t, ?_, ?_⟩
  · rw [Rat.divInt_eq_div]
    have h1 := cast_ne hb
    have h2 : ((b.natAbs : Nat) : Int) = b.sign * b := by
      rcases Int.lt_or_gt_of_ne hb with k | k
      · rw [Int.sign_eq_neg_one_of_neg k]; omega
      · rw [Int.sign_eq_one_of_pos k]; omega
    rw [h2, Rat.intCast_mul, Rat.intCast_mul]
    grind
  · rw [Int.natAbs_mul]
    have : b.sign.natAbs = 1 := by
      rcases Int.lt_or_gt_of_ne hb with k | k
      · rw [Int.sign_eq_neg_one_of_neg k]; rfl
      · rw [Int.sign_eq_one_of_pos k]; rfl
    rw [this, Nat.one_mul]
    exact Nat.le_refl _
theorem ok_div {p q : Rat} (hp : Bs 300 p.num ∧ Bs 300 (p.den : Int)) (hq : Bs 300 q.num ∧ Bs 300 (q.den : Int)) (q0 : q ≠ 0) : Ok (p / q) := by
  have hb : (p.den : Int) * q.num ≠ 0 := Int.mul_ne_zero (den_ne p) (fun z => q0 (Rat.num_eq_zero.mp z))
  have l := (lat_div' (t := p.num * q.den) hb).num (by omega)
  rw [div_parts] at l
  have b1 : Bs 600 (p.num * q.den) := hp.1.mul hq.2
  have b2 : Bs 600 ((p.den : Int) * q.num) := hp.2.mul hq.1
  exact ⟨(show Bs 600 (p / q).num from Nat.lt_of_le_of_lt l.1 b1).mono (by omega), (show Bs 600 ((p / q).den : Int) from Nat.lt_of_le_of_lt (by simpa using l.2) b2).mono (by omega)⟩
/-- the term of the lowest orders may be shown -/
theorem qterm_shows {a b : W} {S : Store} (q : GQ a b) (fa : Few a) (fb : Few b) (ha : ∀ p ∈ a, Bs 300 p.2.num ∧ Bs 300 (p.2.den : Int)) (hb : ∀ p ∈ b, Bs 300 p.2.num ∧ Bs 300 (p.2.den : Int)) : Shows S (qterm a b) 30 1000000 := by
  cases a with
  | nil => exact (shows_non S 29).mono (by omega)
  | cons p a =>
    cases b with
    | nil => exact absurd q.s (by decide)
    | cons r b =>
      have o := ok_div (ha p List.mem_cons_self) (hb r List.mem_cons_self) (q.gb.nz r List.mem_cons_self)
      have k1 := fa.k p List.mem_cons_self
      have k2 := fb.k r List.mem_cons_self
      exact (shows_rt (k := 28) (r := (p.1 - r.1, (p.2 / r.2).num, ((p.2 / r.2).den : Int))) ⟨bs_small (by show (p.1 - r.1).natAbs < 2 ^ 20; omega), o.num, o.den⟩).mono (by omega)
theorem Hf.bs {S : Store} {l0 l1 : Nat} {a0 a1 : W} {m : Nat} (h : Hf S l0 l1 a0 a1 m 300) : (∀ p ∈ srt a0, Bs 300 p.2.num ∧ Bs 300 (p.2.den : Int)) ∧ ∀ p ∈ srt a1, Bs 300 p.2.num ∧ Bs 300 (p.2.den : Int) := by
  obtain ⟨L, B, h1, h2, h3, h4⟩ := h.szs
  constructor
  · intro p hp
    obtain ⟨x, y⟩ := (h1.lat p hp).num h1.pos
    exact ⟨Nat.lt_of_le_of_lt x h4, Nat.lt_of_le_of_lt (by simpa using y) h3⟩
  · intro p hp
    obtain ⟨x, y⟩ := (h2.lat p hp).num h2.pos
    exact ⟨Nat.lt_of_le_of_lt x h4, Nat.lt_of_le_of_lt (by simpa using y) h3⟩
end MO
set_option Elab.async false
set_option linter.all false
set_option maxRecDepth 100000
set_option maxHeartbeats 1000000
/-! MP: the law's body, the first questions. -/
namespace MP
open PySem PySem.Spec PyProof.Rows L2 PP MA MB MC MD ME MF MG MH MI MJ MK ML MM MN MO G24
abbrev c1 : Ss := (sPar 12 13 (evCons (evL mkTup (evCons (evCall g__law_as (evCons (ev2 subscD (evVar 5) (evC (.int 0))) evNil)) (evCons (evCall g__law_as (evCons (ev2 subscD (evVar 5) (evC (.int 1))) evNil)) evNil))) (evCons (evL mkTup (evCons (evCall g__law_as (evCons (ev2 subscD (evVar 6) (evC (.int 0))) evNil)) (evCons (evCall g__law_as (evCons (ev2 subscD (evVar 6) (evC (.int 1))) evNil)) evNil))) evNil)))
abbrev c2 : Ss := (sSet 7 (evCall g__law_sign (evCons (evVar 5) (evCons (evVar 6) evNil))))
abbrev c3 : Ss := (sIf (tor (tnot (evT (evCall g__law_is (evCons (evCall g_is_quotient (evCons (evVar 12) evNil)) (evCons (evC (.bl true)) evNil))))) (tnot (evT (evCall g__law_is (evCons (evCall g_are_alike (evCons (evVar 12) (evCons (evVar 13) evNil))) (evCons (ev2 eqX (evVar 7) (evC (.int 0))) evNil))))))
 (sRet (evC (.bl false)))
 sNext)
abbrev c4 : Ss := (sIf (tnot (evT (evCall g__law_is (evCons (evCall g_quotient_above (evCons (evVar 12) (evCons (evVar 13) evNil))) (evCons (ev2 eqX (evVar 7) (evC (.int 1))) evNil)))))
 (sRet (evC (.bl false)))
 sNext)
abbrev c5 : Ss := (sIf (tnot (evT (evCall g__law_is (evCons (evCall g_quotient_above (evCons (evVar 13) (evCons (evVar 12) evNil))) (evCons (ev2 eqX (evVar 7) (ev1 negD (evC (.int 1)))) evNil)))))
 (sRet (evC (.bl false)))
 sNext)
abbrev c6 : Ss := (sSet 8 (evC .non))
abbrev c7 : Ss := (sIf (evTB (ev2 neX (ev2 subscD (evVar 12) (evC (.int 0))) (evL mkTup evNil)))
 (sSet 8 (ev2 addD (evL mkTup (evCons (ev2 subD (ev2 subscD (ev2 subscD (ev2 subscD (evVar 12) (evC (.int 0))) (evC (.int 0))) (evC (.int 0))) (ev2 subscD (ev2 subscD (ev2 subscD (evVar 12) (evC (.int 1))) (evC (.int 0))) (evC (.int 0)))) evNil)) (evCall g__law_over (evCons (evSl sliceD (ev2 subscD (ev2 subscD (evVar 12) (evC (.int 0))) (evC (.int 0))) (some (evC (.int 1))) none) (evCons (evSl sliceD (ev2 subscD (ev2 subscD (evVar 12) (evC (.int 1))) (evC (.int 0))) (some (evC (.int 1))) none) evNil)))))
 sNext)
abbrev c8 : Ss := (sIf (evTB (ev2 neX (evL reprD (evCons (evCall g_quotient_term (evCons (evVar 12) evNil)) evNil)) (evL reprD (evCons (evVar 8) evNil))))
 (sRet (evC (.bl false)))
 sNext)
theorem hl {n : Nat} {a : W} (h : a.length ≤ n) (k : n < 1000) : a.length < sizeLine := by
  have := szl
  omega
theorem part1 {S : Store} {la0 la1 lb0 lb1 : Nat} {a0 a1 b0 b1 : W} (h : Hf S la0 la1 a0 a1 7 300) (k : Hf S lb0 lb1 b0 b1 21 400) (d1 : la0 ≠ lb1) (d2 : lb0 ≠ la1) (x0 x1 x2 x3 x4 x7 x8 x9 x10 x11 x12 x13 x14 x15 x16 : Option D) :
    ∃ s, ∀ f : Ss, ∃ ex, sSeq c1 (sSeq c2 (sSeq c3 (sSeq c4 (sSeq c5 (sSeq c6 (sSeq c7 (sSeq c8 f))))))) [x0, x1, x2, x3, x4, some (.tup false [.ref la0, .ref la1]), some (.tup false [.ref lb0, .ref lb1]), x7, x8, x9, x10, x11, x12, x13, x14, x15, x16] S
      = f [x0, x1, x2, x3, x4, some (.tup false [.ref la0, .ref la1]), some (.tup false [.ref lb0, .ref lb1]), some (.int s), some (qterm (srt a0) (srt a1)), x9, x10, x11, some (quo (srt a0) (srt a1)), some (quo (srt b0) (srt b1)), x14, x15, x16] (S ++ ex) := by
  obtain ⟨s, sq, sg⟩ := sign_at h k d1 d2
  refine ⟨s, fun f => ?_⟩
  obtain ⟨L, B, s1, s2, hL, hB⟩ := h.szs
  obtain ⟨M, C, t1, t2, hM, hC⟩ := k.szs
  have R := room3 hL hB hM hC
  have qa := h.gq (by omega)
  have qb := k.gq (by omega)
  obtain ⟨fa0, fa1⟩ := h.few (by omega) (by omega)
  obtain ⟨ba0, ba1⟩ := Hf.bs h
  have sc := sgn_crs h k sg
  have sc' := sgn_crs' h k sg
  have i1 := law_as h.e0 h.n0 (hl (h.len (by omega)).1 (by omega))
  have i2 := law_as h.e1 h.n1 (hl (h.len (by omega)).2 (by omega))
  have j1 := law_as k.e0 k.n0 (hl (k.len (by omega)).1 (by omega))
  have j2 := law_as k.e1 k.n1 (hl (k.len (by omega)).2 (by omega))
  have r1 : Rps c1 [x0, x1, x2, x3, x4, some (.tup false [.ref la0, .ref la1]), some (.tup false [.ref lb0, .ref lb1]), x7, x8, x9, x10, x11, x12, x13, x14, x15, x16] S [x0, x1, x2, x3, x4, some (.tup false [.ref la0, .ref la1]), some (.tup false [.ref lb0, .ref lb1]), x7, x8, x9, x10, x11, some (quo (srt a0) (srt a1)), some (quo (srt b0) (srt b1)), x14, x15, x16] :=
    rs_par (list2 (pr_L (list2 (pr_call (list1 (pr_2 (pr_var rfl) pr_c (fun _ _ => ix0 _ _ _ _))) i1) (pr_call (list1 (pr_2 (pr_var rfl) pr_c (fun _ _ => ix1 _ _ _ _ _))) i2)) (fun _ _ => rfl)) (pr_L (list2 (pr_call (list1 (pr_2 (pr_var rfl) pr_c (fun _ _ => ix0 _ _ _ _))) j1) (pr_call (list1 (pr_2 (pr_var rfl) pr_c (fun _ _ => ix1 _ _ _ _ _))) j2)) (fun _ _ => rfl)))
  have r2 : Rps c2 [x0, x1, x2, x3, x4, some (.tup false [.ref la0, .ref la1]), some (.tup false [.ref lb0, .ref lb1]), x7, x8, x9, x10, x11, some (quo (srt a0) (srt a1)), some (quo (srt b0) (srt b1)), x14, x15, x16] S [x0, x1, x2, x3, x4, some (.tup false [.ref la0, .ref la1]), some (.tup false [.ref lb0, .ref lb1]), some (.int s), x8, x9, x10, x11, some (quo (srt a0) (srt a1)), some (quo (srt b0) (srt b1)), x14, x15, x16] :=
    rs_set (pr_call (list2 (pr_var rfl) (pr_var rfl)) sq)
  have E : ∃ e : EnvD, e = [x0, x1, x2, x3, x4, some (.tup false [.ref la0, .ref la1]), some (.tup false [.ref lb0, .ref lb1]), some (.int s), x8, x9, x10, x11, some (quo (srt a0) (srt a1)), some (quo (srt b0) (srt b1)), x14, x15, x16] := ⟨_, rfl⟩
  obtain ⟨e, he⟩ := E
  have v12 : e[12]? = some (some (quo (srt a0) (srt a1))) := by rw [he]; rfl
  have v13 : e[13]? = some (some (quo (srt b0) (srt b1))) := by rw [he]; rfl
  have v7 : e[7]? = some (some (.int s)) := by rw [he]; rfl
  have al := are_alike qa qb s1 s2 t1 t2 R S
  rw [empty_sgn, sc] at al
  have ab := quotient_above qa qb s1 s2 t1 t2 R S
  rw [sc] at ab
  have ba := quotient_above qb qa t1 t2 s1 s2 R.symm S
  rw [sc', show decide (-s = 1) = decide (s = -1) from decide_eq_decide.mpr (by omega)] at ba
  have r3 : Rps c3 e S e := rs_no (pr_tor (b := false) (b' := false) (pr_isnt (list2 (pr_call (list1 (pr_var v12)) (is_quotient_good qa S)) pr_c)) (fun _ => pr_isnt (list2 (pr_call (list2 (pr_var v12) (pr_var v13)) al) (pr_2 (pr_var v7) pr_c (fun _ _ => eqX_ii _ _ _)))))
  have r4 : Rps c4 e S e := rs_no (pr_isnt (list2 (pr_call (list2 (pr_var v12) (pr_var v13)) ab) (pr_2 (pr_var v7) pr_c (fun _ _ => eqX_ii _ _ _))))
  have r5 : Rps c5 e S e := rs_no (pr_isnt (list2 (pr_call (list2 (pr_var v13) (pr_var v12)) ba) (pr_2 (pr_var v7) (pr_1 pr_c (fun _ _ => rfl)) (fun _ _ => eqX_ii _ _ _))))
  have r6 : Rps c6 e S (e.set 8 (some .non)) := rs_set pr_c
  have v12' : (e.set 8 (some .non))[12]? = some (some (quo (srt a0) (srt a1))) := by rw [he]; rfl
  have len8 : 8 < e.length := by rw [he]; simp
  have r7 : Rps c7 (e.set 8 (some .non)) S (e.set 8 (some (qterm (srt a0) (srt a1)))) := by
    have cond : Pr (evTB (ev2 neX (ev2 subscD (evVar 12) (evC (.int 0))) (evL mkTup evNil))) (e.set 8 (some .non)) S (!(srt a0).isEmpty) := pr_TB (pr_2 (pr_2 (pr_var v12') pr_c (fun _ _ => ix0 _ _ _ _)) pr_mkT0 (fun _ _ => ne_tms _ _))
    generalize srt a0 = A at qa fa0 ba0 cond v12' ⊢
    generalize srt a1 = B' at qa fa1 ba1 v12' ⊢
    cases A with
    | nil => exact rs_no cond
    | cons p A =>
      cases B' with
      | nil => exact absurd qa.s (by decide)
      | cons r B' =>
        have o1 := fa0.ok p List.mem_cons_self
        have o2 := fa1.ok r List.mem_cons_self
        have lo := law_over o1 o2 (qa.gb.nz r List.mem_cons_self)
        have w1 : Pr (ev2 subscD (ev2 subscD (evVar 12) (evC (.int 0))) (evC (.int 0))) (e.set 8 (some .non)) S (tm p) := pr_2 (pr_2 (pr_var v12') pr_c (fun _ _ => ix0 _ _ _ _)) pr_c (fun _ _ => ix0t _ _ _)
        have w2 : Pr (ev2 subscD (ev2 subscD (evVar 12) (evC (.int 1))) (evC (.int 0))) (e.set 8 (some .non)) S (tm r) := pr_2 (pr_2 (pr_var v12') pr_c (fun _ _ => ix1 _ _ _ _ _)) pr_c (fun _ _ => ix0t _ _ _)
        have : Rps (sSet 8 (ev2 addD (evL mkTup (evCons (ev2 subD (ev2 subscD (ev2 subscD (ev2 subscD (evVar 12) (evC (.int 0))) (evC (.int 0))) (evC (.int 0))) (ev2 subscD (ev2 subscD (ev2 subscD (evVar 12) (evC (.int 1))) (evC (.int 0))) (evC (.int 0)))) evNil)) (evCall g__law_over (evCons (evSl sliceD (ev2 subscD (ev2 subscD (evVar 12) (evC (.int 0))) (evC (.int 0))) (some (evC (.int 1))) none) (evCons (evSl sliceD (ev2 subscD (ev2 subscD (evVar 12) (evC (.int 1))) (evC (.int 0))) (some (evC (.int 1))) none) evNil))))) (e.set 8 (some .non)) S ((e.set 8 (some .non)).set 8 (some (tm (p.1 - r.1, p.2 / r.2)))) := rs_set (i := 8) (pr_2 (pr_L (list1 (pr_2 (pr_2 w1 pr_c (fun _ _ => ix0 _ _ _ _)) (pr_2 w2 pr_c (fun _ _ => ix0 _ _ _ _)) (fun _ _ => subD_ii _ _ _))) (fun _ _ => rfl)) (pr_call (list2 (pr_sl w1 (pr_part1 pr_c) pr_part0 (fun _ _ => sl_tm _ _)) (pr_sl w2 (pr_part1 pr_c) pr_part0 (fun _ _ => sl_tm _ _))) (Rpu.of_eq fun s _ => lo s)) (fun _ _ => add_tm _ _ _))
        rw [List.set_set] at this
        exact rs_yes cond this
  have v12q : (e.set 8 (some (qterm (srt a0) (srt a1))))[12]? = some (some (quo (srt a0) (srt a1))) := by rw [he]; rfl
  have v8q : (e.set 8 (some (qterm (srt a0) (srt a1))))[8]? = some (some (qterm (srt a0) (srt a1))) := by rw [he]; rfl
  obtain ⟨p, hp, sp⟩ := qterm_shows (S := S) qa fa0 fa1 ba0 ba1
  have rp : ∀ s, Ext S s → reprD [qterm (srt a0) (srt a1)] s = some (.str p.shown, s) := fun s x => repr_of (toP_keep (Lk.ext x) _ _ _ hp) sp
  have r8 : Rps c8 (e.set 8 (some (qterm (srt a0) (srt a1)))) S (e.set 8 (some (qterm (srt a0) (srt a1)))) :=
    rs_no (pr_TB (pr_2 (pr_L (list1 (pr_call (list1 (pr_var v12q)) (quotient_term qa fa0.ok fa1.ok S))) rp) (pr_L (list1 (pr_var v8q)) rp) (fun s _ => ne_str sp.txt s)))
  rw [← he] at r2
  obtain ⟨y1, q1⟩ := r1 S (Ext.refl S)
  have z1 : Ext S (S ++ y1) := (Ext.refl S).app y1
  obtain ⟨y2, q2⟩ := r2 _ z1
  have z2 := z1.app y2
  obtain ⟨y3, q3⟩ := r3 _ z2
  have z3 := z2.app y3
  obtain ⟨y4, q4⟩ := r4 _ z3
  have z4 := z3.app y4
  obtain ⟨y5, q5⟩ := r5 _ z4
  have z5 := z4.app y5
  obtain ⟨y6, q6⟩ := r6 _ z5
  have z6 := z5.app y6
  obtain ⟨y7, q7⟩ := r7 _ z6
  have z7 := z6.app y7
  obtain ⟨y8, q8⟩ := r8 _ z7
  obtain ⟨ex, hex⟩ := z7.app y8
  refine ⟨ex, ?_⟩
  rw [seq_eq, q1]; simp only
  rw [seq_eq, q2]; simp only
  rw [seq_eq, q3]; simp only
  rw [seq_eq, q4]; simp only
  rw [seq_eq, q5]; simp only
  rw [seq_eq, q6]; simp only
  rw [seq_eq, q7]; simp only
  rw [seq_eq, q8]; simp only
  rw [hex, he]
  rfl
end MP
set_option Elab.async false
set_option linter.all false
set_option maxRecDepth 100000
set_option maxHeartbeats 1000000
/-! MQ: the law's body, values that are no quotient. -/
namespace MQ
open PySem PySem.Spec PyProof.Rows L2 PP MA MB MC MD ME MF MG MH MI MJ MK ML MM MN MO MP G24
abbrev c9 : Ss := (sPar 14 15 (evCons (evCall g__law_odd (evCons (evVar 1) (evCons (evVar 12) evNil))) (evCons (evCall g__law_odd (evCons (evVar 1) (evCons (evVar 13) evNil))) evNil)))
abbrev c10 : Ss := (sIf (tnot (evT (evCall g__law_is (evCons (evCall g_is_quotient (evCons (evVar 14) evNil)) (evCons (evC (.bl false)) evNil)))))
 (sRet (evC (.bl false)))
 sNext)
abbrev c11a : Ss := (sIf (evTB (ev2 neX (evCall g__law_raised (evCons (evVar 9) (evCons (evVar 14) (evCons (evVar 15) evNil)))) (ev2 addD (evC (.str "worth ")) (evL reprD (evCons (evVar 14) evNil)))))
 (sRet (evC (.bl false)))
 sNext)
abbrev c11b : Ss := (sIf (evTB (ev2 neX (evCall g__law_raised (evCons (evVar 9) (evCons (evVar 12) (evCons (evVar 15) evNil)))) (ev2 addD (evC (.str "worth ")) (evL reprD (evCons (evVar 15) evNil)))))
 (sRet (evC (.bl false)))
 sNext)
abbrev c11 : Ss := (sFor (evSrc (evL mkLst (evCons (evC (.int 0)) (evCons (evC (.int 1)) evNil)))) (tgN 9) (sSeq c11a c11b))
abbrev c12 : Ss := (sIf (evTB (ev2 neX (evCall g__law_raised (evCons (evC (.int 2)) (evCons (evVar 14) (evCons (evC .non) evNil)))) (ev2 addD (evC (.str "worth ")) (evL reprD (evCons (evVar 14) evNil)))))
 (sRet (evC (.bl false)))
 sNext)
theorem list3 {f g i : Ev D} {env : EnvD} {S : Store} {x y z : D} (h : Pr f env S x) (k : Pr g env S y) (l : Pr i env S z) : Pr (evCons f (evCons g (evCons i evNil))) env S [x, y, z] := pr_cons h (pr_cons k (pr_cons l pr_nil))
theorem Pen.dct {n : Nat} {S : Store} {lp : Nat} (h : Pen n S lp) : ∃ b kvs, S[lp]? = some (b, .dct kvs) := by
  obtain ⟨lc, cells, a, d, c, f, h1, _⟩ := h
  exact ⟨_, _, h1⟩
theorem part2 {n : Nat} {S : Store} {lp : Nat} {a b a' b' : W} (hp : Pen (n + 2) S lp) (q : GQ a b) (q' : GQ a' b') (fa : Few a) (fb : Few b) (fa' : Few a') (fb' : Few b') (x0 x2 x3 x4 x5 x6 x7 x8 x9 x10 x11 x14 x15 x16 : Option D) :
    ∃ y9 y14 y15 S', sSeq c9 (sSeq c10 (sSeq c11 c12)) [x0, some (.ref lp), x2, x3, x4, x5, x6, x7, x8, x9, x10, x11, some (quo a b), some (quo a' b'), x14, x15, x16] S
      = .fl (.nx [x0, some (.ref lp), x2, x3, x4, x5, x6, x7, x8, y9, x10, x11, some (quo a b), some (quo a' b'), y14, y15, x16]) S' ∧ Pen n S' lp := by
  have hlen : b.length < 1000 := by have := fb.len; omega
  have hlen' : b'.length < 1000 := by have := fb'.len; omega
  obtain ⟨d, la, lb, S1, o1, m1, ea, eb, p1, k1⟩ := law_odd hp q hlen
  obtain ⟨d', la', lb', S2, o2, m2, ea', eb', p2, k2⟩ := law_odd p1 q' hlen'
  have lk2 := Lk.kp k2 (Pen.dct p1)
  have no1 := odd_no q (lk2 _ _ _ ea) (lk2 _ _ _ eb) hlen m1
  have no2 := odd_no q' ea' eb' hlen' m2
  obtain ⟨p, hp0, sp⟩ := odd_shows fa fb ea eb m1
  have hpd := toP_keep lk2 _ _ _ hp0
  obtain ⟨p', hpd', sp'⟩ := odd_shows fa' fb' ea' eb' m2
  have good := is_quotient_good q S2
  have E : ∀ y9 : Option D, ∃ e : EnvD, e = [x0, some (.ref lp), x2, x3, x4, x5, x6, x7, x8, y9, x10, x11, some (quo a b), some (quo a' b'), some d, some d', x16] := fun _ => ⟨_, rfl⟩
  have r9 : c9 [x0, some (.ref lp), x2, x3, x4, x5, x6, x7, x8, x9, x10, x11, some (quo a b), some (quo a' b'), x14, x15, x16] S = .fl (.nx [x0, some (.ref lp), x2, x3, x4, x5, x6, x7, x8, x9, x10, x11, some (quo a b), some (quo a' b'), some d, some d', x16]) S2 := by
    unfold c9 sPar ofE evCall evCons evNil
    simp only [evVar, Res.bind, List.getElem?_cons_zero, List.getElem?_cons_succ, o1, o2, List.set_cons_succ, List.set_cons_zero]
  have r10 : Rps c10 [x0, some (.ref lp), x2, x3, x4, x5, x6, x7, x8, x9, x10, x11, some (quo a b), some (quo a' b'), some d, some d', x16] S2 [x0, some (.ref lp), x2, x3, x4, x5, x6, x7, x8, x9, x10, x11, some (quo a b), some (quo a' b'), some d, some d', x16] :=
    rs_no (pr_isnt (list2 (pr_call (list1 (pr_var rfl)) no1) pr_c))
  have turn : ∀ t : Int, t = 0 ∨ t = 1 → Rps (sSeq c11a c11b) [x0, some (.ref lp), x2, x3, x4, x5, x6, x7, x8, some (.int t), x10, x11, some (quo a b), some (quo a' b'), some d, some d', x16] S2 [x0, some (.ref lp), x2, x3, x4, x5, x6, x7, x8, some (.int t), x10, x11, some (quo a b), some (quo a' b'), some d, some d', x16] := fun t ht => by
    have w1 : Pg g__law_raised [.int t, d, d'] S2 (.str (told p)) := raised (by
      rcases ht with rfl | rfl
      · exact .inl ⟨rfl, are_alike_bad (crossed_bad1 no1)⟩
      · exact .inr (.inl ⟨rfl, quotient_above_bad (crossed_bad1 no1)⟩)) hpd sp
    have w2 : Pg g__law_raised [.int t, quo a b, d'] S2 (.str (told p')) := raised (by
      rcases ht with rfl | rfl
      · exact .inl ⟨rfl, are_alike_bad (crossed_bad2 good no2)⟩
      · exact .inr (.inl ⟨rfl, quotient_above_bad (crossed_bad2 good no2)⟩)) hpd' sp'
    exact rs_seq (rs_no (pr_told hpd sp (pr_var rfl) (pr_call (list3 (pr_var rfl) (pr_var rfl) (pr_var rfl)) w1))) (rs_no (pr_told hpd' sp' (pr_var rfl) (pr_call (list3 (pr_var rfl) (pr_var rfl) (pr_var rfl)) w2)))
  have r12 : ∀ y9, Rps c12 [x0, some (.ref lp), x2, x3, x4, x5, x6, x7, x8, y9, x10, x11, some (quo a b), some (quo a' b'), some d, some d', x16] S2 [x0, some (.ref lp), x2, x3, x4, x5, x6, x7, x8, y9, x10, x11, some (quo a b), some (quo a' b'), some d, some d', x16] := fun y9 =>
    rs_no (pr_told hpd sp (pr_var rfl) (pr_call (list3 pr_c (pr_var rfl) pr_c) (raised (.inr (.inr ⟨rfl, quotient_term_bad no1⟩)) hpd sp)))
  obtain ⟨y1, g1⟩ := r10 S2 (Ext.refl S2)
  have z1 : Ext S2 (S2 ++ y1) := (Ext.refl S2).app y1
  have z3 : Ext S2 (S2 ++ y1 ++ [(false, .lst [.int 0, .int 1])]) := z1.app _
  obtain ⟨e, s, g2, y9, rfl, ex⟩ := sFor_inv (src := evSrc (evL mkLst (evCons (evC (.int 0)) (evCons (evC (.int 1)) evNil)))) (tg := tgN 9) (body := sSeq c11a c11b)
    (env := [x0, some (.ref lp), x2, x3, x4, x5, x6, x7, x8, x9, x10, x11, some (quo a b), some (quo a' b'), some d, some d', x16]) (st := S2 ++ y1) (st1 := S2 ++ y1 ++ [(false, .lst [.int 0, .int 1])]) (g := srcL (S2 ++ y1).length) [.int 0, .int 1]
    (fun i env st => ∃ y9, env = [x0, some (.ref lp), x2, x3, x4, x5, x6, x7, x8, y9, x10, x11, some (quo a b), some (quo a' b'), some d, some d', x16] ∧ Ext (S2 ++ y1 ++ [(false, .lst [.int 0, .int 1])]) st) (show 2 < sizeLine by decide)
    (by
      unfold evSrc evL evCons evNil evC
      simp only [Res.bind, mkLst, List.length_cons, List.length_nil, Nat.zero_add, Nat.reduceAdd, two_le, if_true, newL, Res.ofOpt, srcD, at_end, Option.map_some]) ⟨x9, rfl, Ext.refl _⟩ (fun i env st h => by
      obtain ⟨y9, _, x⟩ := h
      unfold srcL
      rw [x.get (at_end (S2 ++ y1) [] _)]) (fun i d0 env st hd h => by
      obtain ⟨y9, rfl, x⟩ := h
      have ht : ∃ t : Int, d0 = .int t ∧ (t = 0 ∨ t = 1) := by
        match i, hd with
        | 0, hd => exact ⟨0, (Option.some.inj hd).symm, .inl rfl⟩
        | 1, hd => exact ⟨1, (Option.some.inj hd).symm, .inr rfl⟩
        | i + 2, hd => cases hd
      obtain ⟨t, rfl, ht⟩ := ht
      obtain ⟨y, g⟩ := turn t ht st (z3.trans x)
      exact ⟨_, rfl, _, _, .inl g, some (.int t), rfl, x.app y⟩)
  obtain ⟨y3, g3⟩ := r12 y9 s (z3.trans ex)
  refine ⟨y9, some d, some d', s ++ y3, ?_, ?_⟩
  · rw [seq_eq, r9]; simp only
    rw [seq_eq, g1]; simp only
    rw [seq_eq]
    unfold c11
    rw [g2]
    simp only
    rw [g3]
  · obtain ⟨w, hw⟩ := (z3.trans ex).app y3
    rw [hw]
    exact p2.app w
end MQ
set_option Elab.async false
set_option linter.all false
set_option maxRecDepth 100000
set_option maxHeartbeats 1000000
/-! MR: the law's body, two quotients are made. -/
namespace MR
open PySem PySem.Spec PyProof.Rows L2 PP MA MB MC MD ME MF MG MH MI MJ MK ML MM MN MO MP MQ G24
theorem drawn_neg {gr : Int} {m : Nat} {a : W} {L : Nat} (h : Drawn gr m a L) : Drawn gr m (neg a) L := by
  have mem : ∀ p ∈ neg a, ∃ x ∈ a, p = (x.1, -x.2) := fun p hp => by
    obtain ⟨x, hx, rfl⟩ := List.mem_map.mp hp
    exact ⟨x, hx, rfl⟩
  refine ⟨by rw [keys_neg]; exact h.nd, fun p hp => ?_, fun p hp => ?_, fun p hp => ?_, by simpa using h.len, h.l0, h.l1, fun p hp => ?_⟩
  all_goals obtain ⟨x, hx, rfl⟩ := mem p hp
  · have := h.nz x hx
    grind
  · exact h.k0 x hx
  · exact h.k1 x hx
  · exact (h.lat x hx).neg
/-- a worth above nought is drawn -/
theorem some_above {n : Nat} {S : Store} {lp : Nat} {least many gr : Int} (hp : Pen (n + 60) S lp) (l0 : 0 < least) (m0 : 0 < many) (hm : least + many ≤ 8) (g0 : 0 < gr) (g1 : gr < 1000000000) :
    ∃ r b L S1 S', g__law_some [.ref lp, .int least, .int many, .int gr] S = .ok (.ref r) S1 ∧ (∃ r', g__law_above_nought [.ref r] S1 = .ok (.ref r') S' ∧ S'[r']? = some (false, .dct (kv b)) ∧ S.length ≤ r') ∧ Drawn gr (least + many - 1).toNat b L ∧ Sg (cf b) 1 ∧ Pen n S' lp ∧ Kp lp S S' := by
  obtain ⟨r, a, L, S1, q, e, ne, dr, p1, k1, hr⟩ := law_some hp (by omega) m0 hm g0 g1
  have hz : a.length < sizeLine := by
    have := dr.len
    have := szl
    omega
  obtain ⟨r', ex, b, q2, e2, ob, sg, or⟩ := above_nought e dr.nd hz dr.nz (ne l0)
  have hl := lt_of_at e
  refine ⟨r, b, L, S1, S1 ++ ex, q, ⟨r', q2, e2, ?_⟩, ?_, sg, p1.app ex, k1.trans (Kp.app lp S1 ex)⟩
  · rcases or with rfl | or
    · exact hr
    · have := k1.len
      omega
  · rcases ob with rfl | rfl
    · exact dr
    · exact drawn_neg dr
theorem pow36 : 1000000 ^ 6 < 2 ^ 120 := by decide
theorem sz_up {m L B c : Nat} {a : W} (h : Sz m L B a) (hc : 0 < c) : Sz m (L * c) (B * c) a := h.up hc
theorem hf_mono {S : Store} {l0 l1 : Nat} {a0 a1 : W} {m e m' e' : Nat} (h : Hf S l0 l1 a0 a1 m e) (k : m ≤ m') (k' : e ≤ e') : Hf S l0 l1 a0 a1 m' e' := by
  obtain ⟨L, B, h1, h2, h3, h4⟩ := h.sz
  have hp := Nat.pow_le_pow_right (show 0 < 2 by omega) k'
  exact ⟨h.e0, h.e1, h.n0, h.n1, h.z0, h.z1, h.k0, h.k1, ⟨L, B, ⟨Nat.le_trans h1.len k, h1.lat, h1.pos⟩, ⟨Nat.le_trans h2.len k, h2.lat, h2.pos⟩, Nat.lt_of_lt_of_le h3 hp, Nat.lt_of_lt_of_le h4 hp⟩, h.sg⟩
theorem small_mul {x y i j k : Nat} (h : x < 2 ^ i) (g : y < 2 ^ j) (e : i + j ≤ k) : x * y < 2 ^ k := by
  have := Nat.mul_lt_mul_of_lt_of_lt h g
  rw [← Nat.pow_add] at this
  exact Nat.lt_of_lt_of_le this (Nat.pow_le_pow_right (by omega) e)
/-- the common size of two drawn worths -/
theorem drawn_sz {gr : Int} {m : Nat} {a0 a1 : W} {L0 L1 : Nat} (h : Drawn gr m a0 L0) (k : Drawn gr m a1 L1) (hm : m ≤ 6) (g1 : gr < 1000000000) : Sz 6 (L0 * L1) (gr.toNat * L0 * L1) a0 ∧ Sz 6 (L0 * L1) (gr.toNat * L0 * L1) a1 ∧ L0 * L1 < 2 ^ 240 ∧ gr.toNat * L0 * L1 < 2 ^ 270 := by
  have p6 : (1000000 : Nat) ^ m ≤ 1000000 ^ 6 := Nat.pow_le_pow_right (by omega) hm
  have b0 : L0 < 2 ^ 120 := Nat.lt_of_le_of_lt (Nat.le_trans h.l1 p6) pow36
  have b1 : L1 < 2 ^ 120 := Nat.lt_of_le_of_lt (Nat.le_trans k.l1 p6) pow36
  have bg : gr.toNat < 2 ^ 30 := by
    rw [show (2 : Nat) ^ 30 = 1073741824 from rfl]
    omega
  have s0 : Sz 6 L0 (gr.toNat * L0) a0 := ⟨Nat.le_trans h.len hm, h.lat, h.l0⟩
  have s1 : Sz 6 L1 (gr.toNat * L1) a1 := ⟨Nat.le_trans k.len hm, k.lat, k.l0⟩
  have u0 := s0.up k.l0
  have u1 := s1.up h.l0
  rw [Nat.mul_comm L1 L0, Nat.mul_right_comm] at u1
  exact ⟨u0, u1, small_mul b0 b1 (by omega), small_mul (small_mul bg b0 (Nat.le_refl _)) b1 (by omega)⟩
/-- two drawn worths, the second above nought, as a tuple -/
structure Two (S : Store) (l0 l1 : Nat) (a0 a1 : W) (e : Nat) : Prop where
  hf : Hf S l0 l1 a0 a1 6 e
  s0 : ∀ p ∈ a0, p.1 < 2000
  s1 : ∀ p ∈ a1, p.1 < 2000
theorem half {n : Nat} {S : Store} {lp : Nat} {gr : Int} {env : EnvD} (v1 : env[1]? = some (some (.ref lp))) (v4 : env[4]? = some (some (.int gr))) (hp : Pen (n + 120) S lp) (g0 : 0 < gr) (g1 : gr < 1000000000) :
    ∃ l0 l1 a0 a1 S', evL mkTup (evCons (evCall g__law_some (evCons (evVar 1) (evCons (evC (.int 0)) (evCons (evC (.int 7)) (evCons (evVar 4) evNil))))) (evCons (evCall g__law_above_nought (evCons (evCall g__law_some (evCons (evVar 1) (evCons (evC (.int 1)) (evCons (evC (.int 6)) (evCons (evVar 4) evNil))))) evNil)) evNil)) env S = .ok (.tup false [.ref l0, .ref l1]) S' ∧ Two S' l0 l1 a0 a1 280 ∧ Pen n S' lp ∧ Kp lp S S' ∧ S.length ≤ l0 ∧ S.length ≤ l1 := by
  obtain ⟨l0, a0, L0, S1, q0, e0, _, d0, p0, k0, h0⟩ := law_some (n := n + 60) (least := 0) (many := 7) hp (by omega) (by omega) (by omega) g0 g1
  obtain ⟨r, a1, L1, S2, S3, q1, ⟨l1, q2, e1, h1⟩, d1, sg, p1, k1⟩ := some_above (n := n) (least := 1) (many := 6) p0 (by omega) (by omega) (by omega) g0 g1
  have hl := hp.lt
  have kl := k0.len
  have d0' : Drawn gr 6 a0 L0 := d0
  have d1' : Drawn gr 6 a1 L1 := d1
  obtain ⟨s0, s1, x0, x1⟩ := drawn_sz d0' d1' (Nat.le_refl _) g1
  have up : ∀ {x i : Nat}, x < 2 ^ i → i ≤ 280 → x < 2 ^ 280 := fun h k => Nat.lt_of_lt_of_le h (Nat.pow_le_pow_right (by omega) k)
  refine ⟨l0, l1, a0, a1, S3, ?_, ⟨⟨k1.get e0 (by omega), e1, d0.nd, d1.nd, d0.nz, d1.nz, fun p hp => ⟨d0.k0 p hp, by have := d0.k1 p hp; omega⟩, fun p hp => ⟨d1.k0 p hp, by have := d1.k1 p hp; omega⟩, ⟨_, _, s0, s1, up x0 (by omega), up x1 (by omega)⟩, sg⟩, d0.k1, d1.k1⟩, p1, k0.trans k1, h0, by omega⟩
  unfold evL evCall evCons evNil evC
  simp only [evVar, v1, v4, Res.bind, q0, q1, q2, mkTup, List.length_cons, List.length_nil, Nat.zero_add, Nat.reduceAdd, two_le, if_true, Res.ofOpt]
/-- a product, noughts left out -/
abbrev prd (a b : W) : W := nz (sums [] (cross a b))
theorem prd_nodup (a b : W) : (keys (prd a b)).Nodup := keys_nz (nodup_tot (cross a b))
theorem prd_nz (a b : W) : ∀ p ∈ prd a b, p.2 ≠ 0 := fun p hp => by simpa using (List.mem_filter.mp hp).2
theorem prd_cf (a b : W) (j : Int) : cf (prd a b) j = cf (cross a b) j := by
  rw [cf_nz, cf_sums _ (a := []) List.nodup_nil]
  simp [cf, Rat.zero_add]
theorem prd_keys {a b : W} {x y : Int} (ha : ∀ p ∈ a, 0 ≤ p.1 ∧ p.1 < x) (hb : ∀ p ∈ b, 0 ≤ p.1 ∧ p.1 < y) : ∀ p ∈ prd a b, 0 ≤ p.1 ∧ p.1 < x + y := fun p hp => by
  have h1 : p.1 ∈ keys (sums [] (cross a b)) := List.mem_map_of_mem (List.mem_filter.mp hp).1
  rcases keys_sums (cross a b) [] h1 with z | z
  · cases z
  · obtain ⟨q, hq, e⟩ := List.mem_map.mp z
    obtain ⟨u, hu, v, hv, rfl⟩ := mem_cross hq
    have := ha u hu
    have := hb v hv
    simp only at e
    omega
theorem prd_sz {n L B m M C : Nat} {a b : W} (ha : Sz n L B a) (hb : Sz m M C b) : Sz (n * m) (L * M) (n * m * (B * C)) (prd a b) := sz_nzs (ha.cross hb)
theorem prod2 {S : Store} {t0 t1 lb L B M C : Nat} {a0 a1 b : W} (e0 : S[t0]? = some (false, .dct (kv a0))) (e1 : S[t1]? = some (false, .dct (kv a1))) (eb : S[lb]? = some (false, .dct (kv b))) (d0 : t0 ≠ lb) (d1 : t1 ≠ lb)
    (n0 : (keys a0).Nodup) (n1 : (keys a1).Nodup) (nb : (keys b).Nodup) (s0 : Sz 6 L B a0) (s1 : Sz 6 L B a1) (sb : Sz 3 M C b) (hL : L < 2 ^ 300) (hB : B < 2 ^ 300) (hM : M < 2 ^ 80) (hC : C < 2 ^ 80)
    (k0 : ∀ p ∈ a0, 0 ≤ p.1 ∧ p.1 < 2000) (k1 : ∀ p ∈ a1, 0 ≤ p.1 ∧ p.1 < 2000) (kb : ∀ p ∈ b, 0 ≤ p.1 ∧ p.1 < 2000) (g1 : Sg (cf a1) 1) (gb : Sg (cf b) 1) :
    ∃ r0 r1 x0 x1, g__law_product [.ref t0, .ref lb] S = .ok (.ref r0) (S ++ x0) ∧ g__law_product [.ref t1, .ref lb] (S ++ x0) = .ok (.ref r1) (S ++ x0 ++ x1) ∧ Hf (S ++ x0 ++ x1) r0 r1 (prd a0 b) (prd a1 b) 21 400 ∧ S.length ≤ r0 ∧ S.length ≤ r1 := by
  have up : ∀ {x i j : Nat}, x < 2 ^ i → i ≤ j → x < 2 ^ j := fun h k => Nat.lt_of_lt_of_le h (Nat.pow_le_pow_right (by omega) k)
  have lm : L * M < 2 ^ 400 := small_mul hL hM (by omega)
  have bc : B * C < 2 ^ 380 := small_mul hB hC (by omega)
  have bc2 : 6 * 3 * (B * C) < 2 ^ 400 := by
    have := small_mul (show 6 * 3 < 2 ^ 5 by omega) bc (k := 400) (by omega)
    exact this
  have R : Room2 6 L B 3 M C := ⟨up hL (by omega), up hB (by omega), up hM (by omega), up hC (by omega), up lm (by omega), up bc2 (by omega), by omega, by omega⟩
  obtain ⟨r0, x0, q0, f0, h0⟩ := law_product d0 e0 eb n0 nb s0 sb R
  obtain ⟨r1, x1, q1, f1, h1⟩ := law_product d1 (app_at e1 x0) (app_at eb x0) n1 nb s1 sb R
  have z0 := prd_sz s0 sb
  have z1 := prd_sz s1 sb
  have k4 : ∀ {a : W}, (∀ p ∈ a, 0 ≤ p.1 ∧ p.1 < 2000) → ∀ p ∈ prd a b, 0 ≤ p.1 ∧ p.1 < 100000 := fun ka p hp => by
    have := prd_keys ka kb p hp
    omega
  refine ⟨r0, r1, x0, x1, q0, q1, ⟨app_at f0 x1, f1, prd_nodup _ _, prd_nodup _ _, prd_nz _ _, prd_nz _ _, k4 k0, k4 k1, ⟨L * M, 6 * 3 * (B * C), ⟨by have := z0.len; omega, z0.lat, z0.pos⟩, ⟨by have := z1.len; omega, z1.lat, z1.pos⟩, lm, bc2⟩, (sg_cross n1 g1 gb).congr (prd_cf a1 b)⟩, h0, ?_⟩
  have : S.length ≤ (S ++ x0).length := by simp
  omega
end MR
set_option Elab.async false
set_option linter.all false
set_option maxRecDepth 100000
set_option maxHeartbeats 1000000
/-! MS: the second quotient, made of the first. -/
namespace MS
open PySem PySem.Spec PyProof.Rows L2 PP MA MB MC MD ME MF MG MH MI MJ MK ML MM MN MO MP MQ MR G24
abbrev by3 : Ev D := (evCall g__law_above_nought (evCons (evCall g__law_some (evCons (evVar 1) (evCons (evC (.int 1)) (evCons (evC (.int 3)) (evCons (evC (.int 3)) evNil))))) evNil))
/-- the small worth that both are multiplied by -/
theorem by_run {n : Nat} {S : Store} {lp : Nat} {env : EnvD} (v1 : env[1]? = some (some (.ref lp))) (hp : Pen (n + 60) S lp) :
    ∃ lb b S' M C, by3 env S = .ok (.ref lb) S' ∧ S'[lb]? = some (false, .dct (kv b)) ∧ S.length ≤ lb ∧ (keys b).Nodup ∧ (∀ p ∈ b, 0 ≤ p.1 ∧ p.1 < 2000) ∧ Sz 3 M C b ∧ M < 2 ^ 80 ∧ C < 2 ^ 80 ∧ Sg (cf b) 1 ∧ Pen n S' lp ∧ Kp lp S S' := by
  obtain ⟨r, b, L, S1, S', q, ⟨lb, q2, e, h⟩, d, sg, p, k⟩ := some_above (n := n) (least := 1) (many := 3) (gr := 3) hp (by omega) (by omega) (by omega) (by omega) (by omega)
  have d' : Drawn 3 3 b L := d
  have hL : L < 2 ^ 60 := Nat.lt_of_le_of_lt d'.l1 (by decide)
  have h3 : (3 : Int).toNat = 3 := rfl
  have lat := d'.lat
  rw [h3] at lat
  refine ⟨lb, b, S', L, 3 * L, ?_, e, h, d'.nd, fun p hp => ⟨d'.k0 p hp, d'.k1 p hp⟩, ⟨d'.len, lat, d'.l0⟩, Nat.lt_of_lt_of_le hL (Nat.pow_le_pow_right (by omega) (by omega)), small_mul (show 3 < 2 ^ 2 by omega) hL (by omega), sg, p, k⟩
  unfold by3 evCall evCons evNil evC
  simp only [evVar, v1, Res.bind, q, q2]
abbrev c0a : Ss := (sIf (evTB (ev2 eqX (evVar 3) (evC (.int 0))))
 (sSeq (sSet 10 (evCall g__law_above_nought (evCons (evCall g__law_some (evCons (evVar 1) (evCons (evC (.int 1)) (evCons (evC (.int 3)) (evCons (evC (.int 3)) evNil))))) evNil)))
 (sSet 6 (evL mkTup (evCons (evCall g__law_product (evCons (ev2 subscD (evVar 5) (evC (.int 0))) (evCons (evVar 10) evNil))) (evCons (evCall g__law_product (evCons (ev2 subscD (evVar 5) (evC (.int 1))) (evCons (evVar 10) evNil))) evNil)))))
 sNext)
/-- way 0: both times one small worth -/
theorem way0 {n : Nat} {S : Store} {lp la0 la1 lb0 lb1 : Nat} {a0 a1 b0 b1 : W} {w : Int} (hp : Pen (n + 60) S lp) (h : Two S la0 la1 a0 a1 280) (k : Hf S lb0 lb1 b0 b1 21 400) (na0 : la0 ≠ lp) (na1 : la1 ≠ lp) (nb0 : lb0 ≠ lp) (nb1 : lb1 ≠ lp) (d1 : la0 ≠ lb1) (d2 : lb0 ≠ la1)
    (x0 x2 x4 x7 x8 x9 x10 x11 x12 x13 x14 x15 x16 : Option D) :
    ∃ lb0' lb1' b0' b1' y10 S', c0a [x0, some (.ref lp), x2, some (.int w), x4, some (.tup false [.ref la0, .ref la1]), some (.tup false [.ref lb0, .ref lb1]), x7, x8, x9, x10, x11, x12, x13, x14, x15, x16] S
      = .fl (.nx [x0, some (.ref lp), x2, some (.int w), x4, some (.tup false [.ref la0, .ref la1]), some (.tup false [.ref lb0', .ref lb1']), x7, x8, x9, y10, x11, x12, x13, x14, x15, x16]) S'
      ∧ Two S' la0 la1 a0 a1 280 ∧ Hf S' lb0' lb1' b0' b1' 21 400 ∧ Pen n S' lp ∧ la0 ≠ lb1' ∧ lb0' ≠ la1 ∧ lb0' ≠ lp ∧ lb1' ≠ lp := by
  by_cases c : w = 0
  · obtain ⟨lb, b, S1, M, C, q, eb, hlb, nb, kb, sb, hM, hC, gb, p1, k1⟩ := by_run (env := [x0, some (.ref lp), x2, some (.int w), x4, some (.tup false [.ref la0, .ref la1]), some (.tup false [.ref lb0, .ref lb1]), x7, x8, x9, x10, x11, x12, x13, x14, x15, x16]) rfl hp
    have hf := h.hf.kp k1 na0 na1
    obtain ⟨L, B, s0, s1, hL, hB⟩ := hf.sz
    have l0 := lt_of_at h.hf.e0
    have l1 := lt_of_at h.hf.e1
    have ll := k1.len
    have hlp := hp.lt
    have up : ∀ {x : Nat}, x < 2 ^ 280 → x < 2 ^ 300 := fun h => Nat.lt_of_lt_of_le h (Nat.pow_le_pow_right (by omega) (by omega))
    obtain ⟨r0, r1, y0, y1, q0, q1, hf', g0, g1⟩ := prod2 hf.e0 hf.e1 eb (by omega) (by omega) hf.n0 hf.n1 nb s0 s1 sb (up hL) (up hB) hM hC (fun p hp => ⟨(hf.k0 p hp).1, h.s0 p hp⟩) (fun p hp => ⟨(hf.k1 p hp).1, h.s1 p hp⟩) kb hf.sg gb
    have x : Ext S1 (S1 ++ y0 ++ y1) := ((Ext.refl S1).app y0).app y1
    refine ⟨r0, r1, _, _, some (.ref lb), S1 ++ y0 ++ y1, ?_, ⟨hf.ext x, h.s0, h.s1⟩, hf', (p1.app y0).app y1, by omega, by omega, by omega, by omega⟩
    subst c
    unfold by3 at q
    unfold c0a sIf ofE evTB ev2 evC sSeq sSet ofE
    unfold evC at q
    simp only [evVar, Res.bind, List.getElem?_cons_zero, List.getElem?_cons_succ, eqX_ii, Res.ofOpt, asB, Option.map_some, decide_true, if_true]
    rw [q]
    simp only [List.set_cons_succ, List.set_cons_zero]
    unfold evL evCall evCons evNil
    simp only [evVar, Res.bind, List.getElem?_cons_zero, List.getElem?_cons_succ, ix0, ix1, Res.ofOpt, q0, q1, mkTup, List.length_cons, List.length_nil, Nat.zero_add, Nat.reduceAdd, two_le, if_true]
  · refine ⟨lb0, lb1, b0, b1, x10, S, ?_, h, k, hp.mono (by omega), d1, d2, nb0, nb1⟩
    unfold c0a sIf ofE evTB ev2 evC
    simp only [evVar, Res.bind, List.getElem?_cons_zero, List.getElem?_cons_succ, eqX_ii, Res.ofOpt, asB, Option.map_some, decide_eq_false c, Bool.false_eq_true, if_false, sNext]
abbrev c0b : Ss := (sIf (tand (evTB (ev2 eqX (evVar 3) (evC (.int 1)))) (evTB (ev2 neX (ev2 subscD (evVar 5) (evC (.int 0))) mkDct)))
 (sSeq (sPar 10 16 (evCons (evCall g__law_above_nought (evCons (evCall g__law_some (evCons (evVar 1) (evCons (evC (.int 1)) (evCons (evC (.int 3)) (evCons (evC (.int 3)) evNil))))) evNil)) (evCons (evCall g__law_pick (evCons (evVar 1) (evCons (evL sortedD (evCons (ev2 subscD (evVar 5) (evC (.int 0))) evNil)) evNil))) evNil)))
 (sSeq (sSet 11 (evL dictD (evCons (ev2 subscD (evVar 5) (evC (.int 0))) evNil)))
 (sSeq (sSub putD (evVar 11) (evVar 16) (evCall g__law_add (evCons (ev2 subscD (evVar 11) (evVar 16)) (evCons (evL mkTup (evCons (evCall g__law_pick (evCons (evVar 1) (evCons (evL mkLst (evCons (evC (.int 1)) (evCons (ev1 negD (evC (.int 1))) evNil))) evNil))) (evCons (ev2 powD (evC (.int 10)) (evC (.int 4))) evNil))) evNil))))
 (sSet 6 (evL mkTup (evCons (evCall g__law_product (evCons (evVar 11) (evCons (evVar 10) evNil))) (evCons (evCall g__law_product (evCons (ev2 subscD (evVar 5) (evC (.int 1))) (evCons (evVar 10) evNil))) evNil)))))))
 sNext)
/-- what 1/10000 more or less makes of a drawn worth -/
theorem sz_put {m L B : Nat} {a : W} {k : Int} {v q : Rat} (h : Sz m L B a) (hk : k ∈ keys a) (nd : (keys a).Nodup) (hq : Lat 10000 1 q) : Sz m (L * 10000) (B * 10000 + L) (MA.put a k (cf a k + q)) := by
  refine ⟨?_, fun p hp => ?_, Nat.mul_pos h.pos (by omega)⟩
  · have h1 := congrArg List.length (keys_put a k (cf a k + q))
    rw [if_pos hk] at h1
    simp only [keys, List.length_map] at h1
    rw [h1]; exact h.len
  · rcases mem_put hp with z | rfl
    · exact ((h.lat p z).up 10000).le (by omega)
    · obtain ⟨x, hx, e⟩ := List.mem_map.mp hk
      have c : Lat L B (cf a k) := by
        rw [← e, cf_mem nd hx]; exact h.lat x hx
      have := hq.up L
      rw [Nat.mul_comm 10000 L, Nat.one_mul] at this
      exact (c.up 10000).add this
theorem pen_set {n : Nat} {S : Store} {lp r : Nat} {kvs kvs' : List (D × D)} (h : Pen n S lp) (e : S[r]? = some (false, .dct kvs)) (hn : r ≠ lp) : Pen n (S.set r (false, .dct kvs')) lp := by
  obtain ⟨lc, cells, aa, d, c, f, h1, h2, h3, h4⟩ := h
  have hlc : lc ≠ r := fun z => by rw [z, e] at h2; cases h2
  exact ⟨lc, cells, aa, d, c, f, by rw [List.getElem?_set, if_neg hn]; exact h1, by rw [List.getElem?_set, if_neg (fun z => hlc z.symm)]; exact h2, h3, h4⟩
theorem unit_fr {s : Int} (h : s = 1 ∨ s = -1) : ∃ q : Rat, D.tup false [.int s, .int 10000] = fr q ∧ Ok q ∧ Lat 10000 1 q := by
  rcases h with rfl | rfl
  · refine ⟨Rat.divInt 1 10000, ?_, ?_, lat_div (by omega)⟩
    · have h1 : (Rat.divInt 1 10000).num = 1 := by decide
      have h2 : (Rat.divInt 1 10000).den = 10000 := by decide
      show _ = D.tup false [.int (Rat.divInt 1 10000).num, .int ((Rat.divInt 1 10000).den : Nat)]
      rw [h1, h2]; rfl
    · exact Lat.ok (L := 10000) (B := 1) (lat_div (by omega)) (by omega) (Nat.lt_of_lt_of_le (show 10000 < 2 ^ 20 by omega) (Nat.pow_le_pow_right (by omega) (by omega))) (Nat.lt_of_lt_of_le (show 1 < 2 ^ 20 by omega) (Nat.pow_le_pow_right (by omega) (by omega)))
  · have ln : Lat 10000 1 (Rat.divInt (-1) 10000) := lat_div (t := -1) (b := 10000) (by omega)
    refine ⟨Rat.divInt (-1) 10000, ?_, ?_, ln⟩
    · have h1 : (Rat.divInt (-1) 10000).num = -1 := by decide
      have h2 : (Rat.divInt (-1) 10000).den = 10000 := by decide
      show _ = D.tup false [.int (Rat.divInt (-1) 10000).num, .int ((Rat.divInt (-1) 10000).den : Nat)]
      rw [h1, h2]; rfl
    · exact Lat.ok (L := 10000) (B := 1) ln (by omega) (Nat.lt_of_lt_of_le (show 10000 < 2 ^ 20 by omega) (Nat.pow_le_pow_right (by omega) (by omega))) (Nat.lt_of_lt_of_le (show 1 < 2 ^ 20 by omega) (Nat.pow_le_pow_right (by omega) (by omega)))
theorem way1 {n : Nat} {S : Store} {lp la0 la1 lb0 lb1 : Nat} {a0 a1 b0 b1 : W} {w : Int} (hp : Pen (n + 62) S lp) (h : Two S la0 la1 a0 a1 280) (k : Hf S lb0 lb1 b0 b1 21 400) (na0 : la0 ≠ lp) (na1 : la1 ≠ lp) (nb0 : lb0 ≠ lp) (nb1 : lb1 ≠ lp) (d1 : la0 ≠ lb1) (d2 : lb0 ≠ la1)
    (x0 x2 x4 x7 x8 x9 x10 x11 x12 x13 x14 x15 x16 : Option D) :
    ∃ lb0' lb1' b0' b1' y10 y11 y16 S', c0b [x0, some (.ref lp), x2, some (.int w), x4, some (.tup false [.ref la0, .ref la1]), some (.tup false [.ref lb0, .ref lb1]), x7, x8, x9, x10, x11, x12, x13, x14, x15, x16] S
      = .fl (.nx [x0, some (.ref lp), x2, some (.int w), x4, some (.tup false [.ref la0, .ref la1]), some (.tup false [.ref lb0', .ref lb1']), x7, x8, x9, y10, y11, x12, x13, x14, x15, y16]) S'
      ∧ Two S' la0 la1 a0 a1 280 ∧ Hf S' lb0' lb1' b0' b1' 21 400 ∧ Pen n S' lp ∧ la0 ≠ lb1' ∧ lb0' ≠ la1 ∧ lb0' ≠ lp ∧ lb1' ≠ lp := by
  by_cases c : w = 1
  · have ne := neX_emp h.hf.e0
    have cond : tand (evTB (ev2 eqX (evVar 3) (evC (.int 1)))) (evTB (ev2 neX (ev2 subscD (evVar 5) (evC (.int 0))) mkDct)) [x0, some (.ref lp), x2, some (.int w), x4, some (.tup false [.ref la0, .ref la1]), some (.tup false [.ref lb0, .ref lb1]), x7, x8, x9, x10, x11, x12, x13, x14, x15, x16] S = .ok (!a0.isEmpty) (S ++ [(false, .dct [])]) := by
      subst c
      unfold tand evTB ev2 evC mkDct
      simp only [evVar, Res.bind, List.getElem?_cons_zero, List.getElem?_cons_succ, eqX_ii, Res.ofOpt, asB, Option.map_some, decide_true, if_true, ix0, ne]
    by_cases em : a0.isEmpty = true
    · refine ⟨lb0, lb1, b0, b1, x10, x11, x16, S ++ [(false, .dct [])], ?_, ⟨h.hf.ext ⟨_, rfl⟩, h.s0, h.s1⟩, k.ext ⟨_, rfl⟩, (hp.app _).mono (by omega), d1, d2, nb0, nb1⟩
      unfold c0b sIf ofE
      rw [cond, em]
      rfl
    · have ha0 : a0 ≠ [] := fun z => em (by rw [z]; rfl)
      have hT := hp.app [(false, .dct [])]
      obtain ⟨lb, b, S1, M, C, q, eb, hlb, nb, kb, sb, hM, hC, gb, p1, k1⟩ := by_run (n := n + 2) (env := [x0, some (.ref lp), x2, some (.int w), x4, some (.tup false [.ref la0, .ref la1]), some (.tup false [.ref lb0, .ref lb1]), x7, x8, x9, x10, x11, x12, x13, x14, x15, x16]) rfl hT
      have hf1 := (h.hf.ext (S' := S ++ [(false, .dct [])]) ⟨_, rfl⟩).kp k1 na0 na1
      have hlp := hp.lt
      have ll := k1.len
      have l0 := lt_of_at h.hf.e0
      have l1 := lt_of_at h.hf.e1
      rw [List.length_append] at hlb ll
      simp only [List.length_cons, List.length_nil] at hlb ll
      have sd := sortedD_kv hf1.e0
      have nk : (ups (keys a0)).map D.int ≠ [] := fun z => by
        have h1 := congrArg List.length z
        rw [List.length_map, (ups_perm _).length_eq, List.length_map] at h1
        exact ha0 (List.length_eq_zero_iff.mp h1)
      have len6 := (h.hf.len (by omega)).1
      obtain ⟨dk, S3, q3, m3, p3, k3⟩ := law_pick (n := n + 1) (p1.app [(false, .lst ((ups (keys a0)).map D.int))]) (at_end S1 [] _) (by omega) nk (by rw [List.length_map, (ups_perm _).length_eq, List.length_map]; omega)
      obtain ⟨key, hk0, rfl⟩ := List.mem_map.mp m3
      have hk : key ∈ keys a0 := (ups_perm _).mem_iff.mp hk0
      have kx13 : Kp lp S1 S3 := (Kp.app lp S1 _).trans k3
      have hf3 := hf1.kp kx13 na0 na1
      have eb3 := kx13.get eb (by omega)
      have l3 := k3.len
      rw [List.length_append] at l3
      simp only [List.length_cons, List.length_nil] at l3
      have f3 := lt_of_at eb3
      -- the copy
      have cp := dictD_copy hf3.e0
      have fc := at_end S3 [] (false, Cell.dct (kv a0))
      have hne : S3.length ≠ lp := by omega
      have g11 := get_kv fc hf3.n0 hk
      -- one more or less
      have p4 := (p3.app [(false, .dct (kv a0))]).app [(false, .lst [.int 1, .int (-1)])]
      obtain ⟨du, S6, q6, m6, p6, k6⟩ := law_pick (n := n) p4 (at_end (S3 ++ [(false, .dct (kv a0))]) [] _) (by simp; omega) (by simp) (by simp)
      obtain ⟨u, hu, hu1⟩ : ∃ u : Int, du = .int u ∧ (u = 1 ∨ u = -1) := by
        rcases List.mem_cons.mp m6 with rfl | z
        · exact ⟨1, rfl, .inl rfl⟩
        · exact ⟨-1, List.mem_singleton.mp z, .inr rfl⟩
      subst hu
      obtain ⟨qq, eq, okq, latq⟩ := unit_fr hu1
      have x36 : Kp lp (S3 ++ [(false, .dct (kv a0))]) S6 := (Kp.app lp _ _).trans k6
      have fc6 := x36.get fc hne
      have hf6 := (hf3.ext (S' := S3 ++ [(false, .dct (kv a0))]) ⟨_, rfl⟩).kp x36 na0 na1
      have eb6 := x36.get (app_at eb3 [(false, .dct (kv a0))]) (by omega)
      obtain ⟨L, B, s0, s1, hL, hB⟩ := h.hf.sz
      have okc : Ok (cf a0 key) := by
        obtain ⟨x, hx, e⟩ := List.mem_map.mp hk
        rw [← e, cf_mem h.hf.n0 hx]
        exact s0.ok (Nat.lt_of_lt_of_le hL (Nat.pow_le_pow_right (by omega) (by omega))) (Nat.lt_of_lt_of_le hB (Nat.pow_le_pow_right (by omega) (by omega))) hx
      have la := MB.law_add okc okq S6
      have sl := szl
      have pk := put_kv fc6 key (cf a0 key + qq) (by omega)
      have s0' := sz_put (v := 0) s0 hk h.hf.n0 latq
      have n0' := nodup_put key (cf a0 key + qq) h.hf.n0
      have f6 := lt_of_at fc6
      have e7 : (S6.set S3.length (false, .dct (kv (MA.put a0 key (cf a0 key + qq)))))[S3.length]? = some (false, .dct (kv (MA.put a0 key (cf a0 key + qq)))) := by rw [List.getElem?_set, if_pos rfl, if_pos f6]
      have ot : ∀ (l : Nat) (c : Bool × Cell), l ≠ S3.length → S6[l]? = some c → (S6.set S3.length (false, .dct (kv (MA.put a0 key (cf a0 key + qq)))))[l]? = some c := fun l c hl e => by rw [List.getElem?_set, if_neg (fun z => hl z.symm)]; exact e
      have p7 := pen_set (kvs' := kv (MA.put a0 key (cf a0 key + qq))) p6 fc6 hne
      have hf7 := hf6.keep (S' := S6.set S3.length (false, .dct (kv (MA.put a0 key (cf a0 key + qq))))) (fun l c o e => ot l c (by rcases o with rfl | rfl <;> omega) e)
      have eb7 := ot lb _ (by omega) eb6
      have k0' : ∀ p ∈ MA.put a0 key (cf a0 key + qq), 0 ≤ p.1 ∧ p.1 < 2000 := fun p hp => by
        rcases mem_put hp with z | rfl
        · exact ⟨(h.hf.k0 p z).1, h.s0 p z⟩
        · obtain ⟨x, hx, e⟩ := List.mem_map.mp hk
          have e' : x.1 = key := e
          have := h.hf.k0 x hx
          have := h.s0 x hx
          show 0 ≤ key ∧ key < 2000
          omega
      have s1' := s1.up (c := 10000) (by omega)
      have s1'' : Sz 6 (L * 10000) (B * 10000 + L) a1 := ⟨s1'.len, fun p hp => (s1'.lat p hp).le (by omega), s1'.pos⟩
      have hL' : L * 10000 < 2 ^ 300 := small_mul hL (show 10000 < 2 ^ 14 by omega) (by omega)
      have hB' : B * 10000 + L < 2 ^ 300 := by
        have y1 := small_mul hB (show 10000 < 2 ^ 14 by omega) (k := 299) (by omega)
        have y2 : L < 2 ^ 299 := Nat.lt_of_lt_of_le hL (Nat.pow_le_pow_right (by omega) (by omega))
        have y3 : (2 : Nat) ^ 300 = 2 ^ 299 * 2 := Nat.pow_succ 2 299
        omega
      obtain ⟨r0, r1, y0, y1, qa, qb, hf', g0, g1⟩ := prod2 e7 hf7.e1 eb7 (by omega) (by omega) n0' hf7.n1 nb s0' s1'' sb hL' hB' hM hC k0' (fun p hp => ⟨(hf7.k1 p hp).1, h.s1 p hp⟩) kb hf7.sg gb
      rw [List.length_set] at g0 g1
      have x : Ext (S6.set S3.length (false, .dct (kv (MA.put a0 key (cf a0 key + qq))))) (S6.set S3.length (false, .dct (kv (MA.put a0 key (cf a0 key + qq)))) ++ y0 ++ y1) := ((Ext.refl _).app y0).app y1
      refine ⟨r0, r1, _, _, some (.ref lb), some (.ref S3.length), some (.int key), _, ?_, ⟨hf7.ext x, h.s0, h.s1⟩, hf', (p7.app y0).app y1, by omega, by omega, by omega, by omega⟩
      have emf : a0.isEmpty = false := by simpa using em
      unfold c0b sIf ofE
      rw [cond, emf]
      simp only [Bool.not_false, if_true]
      unfold by3 at q
      have pw : ∀ st, powD (.int 10) (.int 4) st = some (.int 10000, st) := fun _ => rfl
      have u1 : ∀ st, mkLst [.int 1, .int (-1)] st = some (.ref st.length, st ++ [(false, .lst [.int 1, .int (-1)])]) := fun _ => rfl
      have st1 : sPar 10 16 (evCons (evCall g__law_above_nought (evCons (evCall g__law_some (evCons (evVar 1) (evCons (evC (.int 1)) (evCons (evC (.int 3)) (evCons (evC (.int 3)) evNil))))) evNil)) (evCons (evCall g__law_pick (evCons (evVar 1) (evCons (evL sortedD (evCons (ev2 subscD (evVar 5) (evC (.int 0))) evNil)) evNil))) evNil)) [x0, some (.ref lp), x2, some (.int w), x4, some (.tup false [.ref la0, .ref la1]), some (.tup false [.ref lb0, .ref lb1]), x7, x8, x9, x10, x11, x12, x13, x14, x15, x16] (S ++ [(false, .dct [])]) = .fl (.nx [x0, some (.ref lp), x2, some (.int w), x4, some (.tup false [.ref la0, .ref la1]), some (.tup false [.ref lb0, .ref lb1]), x7, x8, x9, some (.ref lb), x11, x12, x13, x14, x15, some (.int key)]) S3 := by
        unfold sPar ofE
        rw [show ∀ (f g : Ev D) (env : EnvD) (st : Store), evCons f (evCons g evNil) env st = (f env st).bind fun x s1 => ((g env s1).bind fun y s2 => .ok [y] s2).bind fun xs s3 => .ok (x :: xs) s3 from fun _ _ _ _ => rfl, q]
        unfold evCall evL ev2 evCons evNil evC
        simp only [evVar, Res.bind, List.getElem?_cons_zero, List.getElem?_cons_succ, ix0, Res.ofOpt, sd, q3, List.set_cons_succ, List.set_cons_zero]
      rw [seq_eq, st1]
      simp only
      rw [seq_eq]
      unfold sSet ofE sSub ofE evL evCall ev2 ev1 evCons evNil evC
      simp only [evVar, Res.bind, List.getElem?_cons_zero, List.getElem?_cons_succ, ix0, ix1, Res.ofOpt, cp, List.set_cons_succ, List.set_cons_zero, sSeq, ofE, g11, negD, u1, q6, pw, mkTup, List.length_cons, List.length_nil, Nat.zero_add, Nat.reduceAdd, two_le, if_true, eq, la, pk, qa, qb]
  · refine ⟨lb0, lb1, b0, b1, x10, x11, x16, S, ?_, h, k, hp.mono (by omega), d1, d2, nb0, nb1⟩
    unfold c0b sIf ofE tand evTB ev2 evC
    simp only [evVar, Res.bind, List.getElem?_cons_zero, List.getElem?_cons_succ, eqX_ii, Res.ofOpt, asB, Option.map_some, decide_eq_false c, Bool.false_eq_true, if_false, sNext]
end MS
set_option Elab.async false
set_option linter.all false
set_option maxRecDepth 100000
set_option maxHeartbeats 1000000
/-! MT: a lap, and the law. -/
namespace MT
open PySem PySem.Spec PyProof.Rows L2 PP MA MB MC MD ME MF MG MH MI MJ MK ML MM MN MO MP MQ MR MS G24
abbrev b1 : Ss := (sSet 3 (evCall g__law_draw (evCons (evVar 1) (evCons (evC (.int 3)) evNil))))
abbrev b2 : Ss := (sSet 4 (evIf (evTB (ev2 ltD (evVar 3) (evC (.int 2)))) (evC (.int 30)) (ev2 subD (ev2 powD (evC (.int 10)) (evC (.int 9))) (evC (.int 1)))))
abbrev hlf : Ev D := (evL mkTup (evCons (evCall g__law_some (evCons (evVar 1) (evCons (evC (.int 0)) (evCons (evC (.int 7)) (evCons (evVar 4) evNil))))) (evCons (evCall g__law_above_nought (evCons (evCall g__law_some (evCons (evVar 1) (evCons (evC (.int 1)) (evCons (evC (.int 6)) (evCons (evVar 4) evNil))))) evNil)) evNil)))
abbrev lapB : Ss := sSeq b1 (sSeq b2 (sSeq (sSet 5 hlf) (sSeq (sSet 6 hlf) (sSeq c0a (sSeq c0b (sSeq c1 (sSeq c2 (sSeq c3 (sSeq c4 (sSeq c5 (sSeq c6 (sSeq c7 (sSeq c8 (sSeq c9 (sSeq c10 (sSeq c11 c12))))))))))))))))
theorem lap {n : Nat} {S : Store} {lp : Nat} (hp : Pen (n + 400) S lp) (x0 x2 x3 x4 x5 x6 x7 x8 x9 x10 x11 x12 x13 x14 x15 x16 : Option D) :
    ∃ y3 y4 y5 y6 y7 y8 y9 y10 y11 y12 y13 y14 y15 y16 S', lapB [x0, some (.ref lp), x2, x3, x4, x5, x6, x7, x8, x9, x10, x11, x12, x13, x14, x15, x16] S = .fl (.nx [x0, some (.ref lp), x2, y3, y4, y5, y6, y7, y8, y9, y10, y11, y12, y13, y14, y15, y16]) S' ∧ Pen n S' lp := by
  obtain ⟨w, S1, q1, w0, w1, p1, k1⟩ := draw (n := n + 399) (many := 3) hp (by omega) (by omega)
  obtain ⟨gr, hgr, g0, g1⟩ : ∃ gr : Int, (if w < 2 then (30 : Int) else 999999999) = gr ∧ 0 < gr ∧ gr < 1000000000 := ⟨_, rfl, by split <;> omega, by split <;> omega⟩
  have r1 : b1 [x0, some (.ref lp), x2, x3, x4, x5, x6, x7, x8, x9, x10, x11, x12, x13, x14, x15, x16] S = .fl (.nx [x0, some (.ref lp), x2, some (.int w), x4, x5, x6, x7, x8, x9, x10, x11, x12, x13, x14, x15, x16]) S1 := by
    unfold b1 sSet ofE evCall evCons evNil evC
    simp only [evVar, Res.bind, List.getElem?_cons_zero, List.getElem?_cons_succ, q1, List.set_cons_succ, List.set_cons_zero]
  have r2 : b2 [x0, some (.ref lp), x2, some (.int w), x4, x5, x6, x7, x8, x9, x10, x11, x12, x13, x14, x15, x16] S1 = .fl (.nx [x0, some (.ref lp), x2, some (.int w), some (.int gr), x5, x6, x7, x8, x9, x10, x11, x12, x13, x14, x15, x16]) S1 := by
    have pw : ∀ st, powD (.int 10) (.int 9) st = some (.int 1000000000, st) := fun _ => rfl
    unfold b2 sSet ofE evIf evTB ev2 evC
    simp only [evVar, Res.bind, List.getElem?_cons_zero, List.getElem?_cons_succ, ltD_ii, Res.ofOpt, asB, Option.map_some, pw, subD_ii]
    by_cases c : w < 2
    · rw [if_pos c] at hgr
      subst hgr
      simp only [decide_eq_true c, if_true, List.set_cons_succ, List.set_cons_zero]
    · rw [if_neg c] at hgr
      subst hgr
      simp only [decide_eq_false c, Bool.false_eq_true, if_false, List.set_cons_succ, List.set_cons_zero]
      rfl
  obtain ⟨la0, la1, a0, a1, S2, q2, t1, p2, k2, e0, e1⟩ := half (n := n + 279) (env := [x0, some (.ref lp), x2, some (.int w), some (.int gr), x5, x6, x7, x8, x9, x10, x11, x12, x13, x14, x15, x16]) rfl rfl p1 g0 g1
  obtain ⟨lb0, lb1, b0, b1', S3, q3, t2, p3, k3, f0, f1⟩ := half (n := n + 159) (env := [x0, some (.ref lp), x2, some (.int w), some (.int gr), some (.tup false [.ref la0, .ref la1]), x6, x7, x8, x9, x10, x11, x12, x13, x14, x15, x16]) rfl rfl p2 g0 g1
  have hlp := p1.lt
  have m0 := lt_of_at t1.hf.e0
  have m1 := lt_of_at t1.hf.e1
  have kl2 := k2.len
  have t1' : Two S3 la0 la1 a0 a1 280 := ⟨t1.hf.kp k3 (by omega) (by omega), t1.s0, t1.s1⟩
  obtain ⟨c0, c1', d0, d1, y10, S4, q4, t3, h3, p4, n1, n2, n3, n4⟩ := way0 (n := n + 99) (w := w) p3 t1' (hf_mono t2.hf (by omega) (by omega)) (by omega) (by omega) (by omega) (by omega) (by omega) (by omega) x0 x2 (some (.int gr)) x7 x8 x9 x10 x11 x12 x13 x14 x15 x16
  obtain ⟨e0', e1', u0, u1, z10, z11, z16, S5, q5, t4, h4, p5, n1', n2', n3', n4'⟩ := way1 (n := n + 37) (w := w) p4 t3 h3 (by omega) (by omega) n3 n4 n1 n2 x0 x2 (some (.int gr)) x7 x8 x9 y10 x11 x12 x13 x14 x15 x16
  have hf := hf_mono t4.hf (show 6 ≤ 7 by omega) (show 280 ≤ 300 by omega)
  obtain ⟨s, pa⟩ := part1 hf h4 n1' n2' x0 (some (.ref lp)) x2 (some (.int w)) (some (.int gr)) x7 x8 x9 z10 z11 x12 x13 x14 x15 z16
  obtain ⟨ex, q6⟩ := pa (sSeq c9 (sSeq c10 (sSeq c11 c12)))
  obtain ⟨fa, fb⟩ := hf.few (by omega) (by omega)
  obtain ⟨fa', fb'⟩ := h4.few (by omega) (by omega)
  obtain ⟨v9, v14, v15, S7, q7, p7⟩ := part2 (n := n + 35) (p5.app ex) (hf.gq (by omega)) (h4.gq (by omega)) fa fb fa' fb' x0 x2 (some (.int w)) (some (.int gr)) (some (.tup false [.ref la0, .ref la1])) (some (.tup false [.ref e0', .ref e1'])) (some (.int s)) (some (qterm (srt a0) (srt a1))) x9 z10 z11 x14 x15 z16
  refine ⟨some (.int w), some (.int gr), some (.tup false [.ref la0, .ref la1]), some (.tup false [.ref e0', .ref e1']), some (.int s), some (qterm (srt a0) (srt a1)), v9, z10, z11, some (quo (srt a0) (srt a1)), some (quo (srt u0) (srt u1)), v14, v15, z16, S7, ?_, p7.mono (by omega)⟩
  unfold lapB
  rw [seq_eq, r1]; simp only
  rw [seq_eq, r2]; simp only
  rw [seq_eq, show sSet 5 hlf [x0, some (.ref lp), x2, some (.int w), some (.int gr), x5, x6, x7, x8, x9, x10, x11, x12, x13, x14, x15, x16] S1 = .fl (.nx [x0, some (.ref lp), x2, some (.int w), some (.int gr), some (.tup false [.ref la0, .ref la1]), x6, x7, x8, x9, x10, x11, x12, x13, x14, x15, x16]) S2 by unfold sSet ofE hlf; rw [q2]; rfl]; simp only
  rw [seq_eq, show sSet 6 hlf [x0, some (.ref lp), x2, some (.int w), some (.int gr), some (.tup false [.ref la0, .ref la1]), x6, x7, x8, x9, x10, x11, x12, x13, x14, x15, x16] S2 = .fl (.nx [x0, some (.ref lp), x2, some (.int w), some (.int gr), some (.tup false [.ref la0, .ref la1]), some (.tup false [.ref lb0, .ref lb1]), x7, x8, x9, x10, x11, x12, x13, x14, x15, x16]) S3 by unfold sSet ofE hlf; rw [q3]; rfl]; simp only
  rw [seq_eq, q4]; simp only
  rw [seq_eq, q5]; simp only
  rw [q6]
  exact q7
theorem law_true (ns : List Int) (hn : ns.length ≤ 63) : PP.LawTrue G24.g_law ns := by
  obtain ⟨lp, S1, q1, p1⟩ := law_pen ns hn
  obtain ⟨e, s, q, y2, y3, y4, y5, y6, y7, y8, y9, y10, y11, y12, y13, y14, y15, y16, rfl, _⟩ := sFor_inv (src := evRg1 (evCons (evC (.int 4)) evNil)) (tg := tgN 2) (body := lapB)
    (env := [some (.ref 0), some (.ref lp), none, none, none, none, none, none, none, none, none, none, none, none, none, none, none]) (st := S1) (st1 := S1) (g := srcS (rangeL 0 4)) (rangeL 0 4)
    (fun i env st => ∃ y2 y3 y4 y5 y6 y7 y8 y9 y10 y11 y12 y13 y14 y15 y16 : Option D, env = [some (.ref 0), some (.ref lp), y2, y3, y4, y5, y6, y7, y8, y9, y10, y11, y12, y13, y14, y15, y16] ∧ (i ≤ 4 → Pen (400 * (4 - i)) st lp)) (show 4 < sizeLine by decide)
    (rg1 (j := 4) (small_lt (j := 4) (by omega) (by omega)) rfl) ⟨none, none, none, none, none, none, none, none, none, none, none, none, none, none, none, rfl, fun _ => p1.mono (by omega)⟩ (fun _ _ _ _ => rfl) (fun i d env st hd h => by
      obtain ⟨y2, y3, y4, y5, y6, y7, y8, y9, y10, y11, y12, y13, y14, y15, y16, rfl, hp⟩ := h
      have hi : i < 4 := (List.getElem?_eq_some_iff.mp hd).1
      obtain ⟨z3, z4, z5, z6, z7, z8, z9, z10, z11, z12, z13, z14, z15, z16, S', q, p⟩ := lap (n := 400 * (4 - (i + 1))) ((hp (by omega)).mono (by omega)) (some (.ref 0)) (some d) y3 y4 y5 y6 y7 y8 y9 y10 y11 y12 y13 y14 y15 y16
      exact ⟨_, rfl, _, _, .inl q, some d, z3, z4, z5, z6, z7, z8, z9, z10, z11, z12, z13, z14, z15, z16, rfl, fun _ => p⟩)
  refine ⟨s, ?_⟩
  unfold g_law b_law runS startD
  simp only [List.map_cons, List.map_nil, List.length_cons, List.length_nil, Nat.zero_add, Nat.reduceSub, List.replicate_succ, List.replicate_zero, List.cons_append, List.nil_append]
  rw [seq_eq, show sSet 1 (evCall g__law_pen (evCons (evVar 0) evNil)) [some (.ref 0), none, none, none, none, none, none, none, none, none, none, none, none, none, none, none, none] [(true, .lst (ns.map D.int))] = .fl (.nx [some (.ref 0), some (.ref lp), none, none, none, none, none, none, none, none, none, none, none, none, none, none, none]) S1 by
    unfold sSet ofE evCall evCons evNil
    simp only [evVar, List.getElem?_cons_zero, Res.bind, q1, List.set_cons_succ, List.set_cons_zero]]
  simp only
  rw [seq_eq, q]
  rfl
end MT
set_option maxRecDepth 100000 in
theorem PySem.Challenge.cw_raresteps_k24_quotients_holds : PySem.Challenge.rw_raresteps_k24_quotients.Holds := by
  exact HG24.holds_of MT.law_true
