import PyProof.Rows.All
import Wide.All
import OpenK.AllK
import Wide.FinOn
import HandS.ForMost
import HandS.Zip
import HandS.CallLocal
import HandS.Conv
import HandS.Flow
import HandS.Defaults
import HandS.NoneIn
import HandS.TupAny
import HandS.Codes
import HandS.RaiseMore
import HandS.Style
import HandS.HeadHook2
import HandS.IsInst
import HandS.Deep
import HandS.HeadHook3
import HandS.Dict
import HandS.Small
import PyProof.DictUpdate
import HandS.Comp
import HandS.Iter
import PyProof.CallType
import PyProof.Rows.CallKwBuiltin
import PyProof.Draws
import PyProof.CollectIter
import KE.KUnpack
import PyProof.ReprRoads
import HandS.EndBits
import HandS.Head2
import HandS.Text
import KE.KStateDown
import HandS.Head0
import HandS.Head1
import PySem.Challenge.RW_framecourt_k86_texts
set_option Elab.async false
set_option linter.all false
set_option maxRecDepth 100000
set_option maxHeartbeats 4000000
/-! PL, part A: values as trees, the store of what can change, how they lie in the layer's abstract heap. -/
namespace PL
open PySem PySem.Spec PyProof.Rows L2

/-- a value: tuples and unchanging lists are trees; ref: what can change, by its place in the store; fn: a def or class of the module; kd: a dict of the module -/
inductive PV where
  | non | bl (b : Bool) | int (i : Int) | str (x : Str)
  | tup (xs : List PV) | lst (xs : List PV)
  | ref (l : Nat) | fn (x : Str) | kd (x : Str)
  | scr (ns : List Int)
inductive PO where
  | lst (xs : List PV)
  | dct (kvs : List (Key × PV))
  | ins (C : Str) (fs : List (Str × PV))
abbrev Stor := List PO

inductive Out (α : Type) where
  | ok (a : α) (s : Stor)
  | exc (c : Str) (fs : List (Str × PV)) (s : Stor)
  | bad
def M (α : Type) := Stor → Out α
namespace M
def pure {α : Type} (a : α) : M α := fun s => .ok a s
def bind {α β : Type} (m : M α) (k : α → M β) : M β := fun s => match m s with
  | .ok a s' => k a s'
  | .exc c fs s' => .exc c fs s'
  | .bad => .bad
def fail {α : Type} : M α := fun _ => .bad
def get : M Stor := fun s => .ok s s
def ofO {α : Type} : Option α → M α
  | some a => pure a
  | none => fail
end M
instance : Monad M where
  pure := M.pure
  bind := M.bind
theorem M.bind_def {α β : Type} (m : M α) (k : α → M β) (s : Stor) : (m >>= k) s = (match m s with
  | .ok a s' => k a s'
  | .exc c fs s' => .exc c fs s'
  | .bad => .bad) := rfl

/-! ### how a value lies in the abstract heap -/
/-- a tuple, a list of the module -/
def KT (K : PySem.W.Frag) (a : Addr) (vs : List V) : Prop := ∃ (o : Obj) (its : Array Value) (n : Nat), K.lookup a = some o ∧ o.cls = .type "tuple" ∧ o.data = .seq its n ∧ its.size ≤ sizeLine ∧ Vals vs its.toList
def KL (K : PySem.W.Frag) (a : Addr) (vs : List V) : Prop := ∃ (o : Obj) (its : Array Value) (n : Nat), K.lookup a = some o ∧ o.cls = .type "list" ∧ o.dict = none ∧ o.data = .seq its n ∧ its.size ≤ sizeLine ∧ Vals vs its.toList

mutual
/-- as: the addresses of the store's places; F: what may be written by anybody -/
inductive Rep (K : PySem.W.Frag) (as F : List Addr) (H : Hp) : V → PV → Prop
  | non : Rep K as F H .non .non
  | bl (b : Bool) : Rep K as F H (.bl b) (.bl b)
  | int (i : Int) : Rep K as F H (.int i) (.int i)
  | str (x : Str) : Rep K as F H (.str x) (.str x)
  | tup {a : Addr} {vs : List V} {xs : List PV} (h : (Rd H a (.tup vs) ∧ a ∉ F) ∨ KT K a vs) (r : RepL K as F H vs xs) : Rep K as F H (.ref a) (.tup xs)
  | lst {a : Addr} {vs : List V} {xs : List PV} (h : H a = some (.lst vs)) (hf : a ∉ F) (r : RepL K as F H vs xs) : Rep K as F H (.ref a) (.lst xs)
  | scr {a : Addr} {ns : List Int} (h : (Rd H a (.lst (ns.map V.int)) ∧ a ∉ F) ∨ KL K a (ns.map V.int)) : Rep K as F H (.ref a) (.scr ns)
  | ref {a : Addr} {l : Nat} (h : as[l]? = some a) : Rep K as F H (.ref a) (.ref l)
  | fn (x : Str) : Rep K as F H (.ref (He.ga K x)) (.fn x)
  | kd (x : Str) : Rep K as F H (.ref (He.ga K x)) (.kd x)
inductive RepL (K : PySem.W.Frag) (as F : List Addr) (H : Hp) : List V → List PV → Prop
  | nil : RepL K as F H [] []
  | cons {v : V} {vs : List V} {x : PV} {xs : List PV} (h : Rep K as F H v x) (t : RepL K as F H vs xs) : RepL K as F H (v :: vs) (x :: xs)
end

/-- what is true of the world at a moment: the store's addresses, what may be written, the store -/
structure Wd where
  as : List Addr
  F : List Addr
  st : Stor

def RepKV {κ : Type} (K : PySem.W.Frag) (as F : List Addr) (H : Hp) : List (κ × V) → List (κ × PV) → Prop := Paired fun p q => p.1 = q.1 ∧ Rep K as F H p.2 q.2
/-- an object of the store, as it stands in the abstract heap -/
inductive RepO (K : PySem.W.Frag) (as F : List Addr) (H : Hp) : HO → PO → Prop
  | lst {vs : List V} {xs : List PV} (r : RepL K as F H vs xs) : RepO K as F H (.lst vs) (.lst xs)
  | dct {kvs : List (Key × V)} {ps : List (Key × PV)} (r : RepKV K as F H kvs ps) : RepO K as F H (.dK kvs) (.dct ps)
  | ins {C : Str} {dx : Addr} {fs : List (Str × V)} {ps : List (Str × PV)} (r : RepKV K as F H fs ps) : RepO K as F H (.ins (He.ga K C) dx fs) (.ins C ps)

structure Ab (K : PySem.W.Frag) (W : Wd) (H : Hp) : Prop where
  len : W.as.length = W.st.length
  nd : W.as.Nodup
  sub : ∀ a ∈ W.as, a ∈ W.F
  trk : ∀ a ∈ W.F, H a ≠ none
  obj : ∀ (l : Nat) (a : Addr) (o : PO), W.as[l]? = some a → W.st[l]? = some o → ∃ u, H a = some u ∧ RepO K W.as W.F H u o

/-- how the world may go on -/
structure Ext (W : Wd) (H : Hp) (W' : Wd) (H' : Hp) : Prop where
  pre : ∀ (l : Nat) (a : Addr), W.as[l]? = some a → W'.as[l]? = some a
  new : ∀ a ∈ W'.as, a ∈ W.as ∨ H a = none
  oldF : ∀ a ∈ W.F, a ∈ W'.F
  newF : ∀ a ∈ W'.F, a ∈ W.F ∨ H a = none
  keep : ∀ a o, H a = some o → a ∉ W.as → H' a = some o

section
variable {K : PySem.W.Frag} {as as' F F' : List Addr} {H H' H2 : Hp} {W W' W2 : Wd}
theorem Ext.refl : Ext W H W H := ⟨fun _ _ h => h, fun _ h => .inl h, fun _ h => h, fun _ h => .inl h, fun _ _ h _ => h⟩
theorem Ext.trans (hs : ∀ a ∈ W.as, a ∈ W.F) (e : Ext W H W' H') (f : Ext W' H' W2 H2) : Ext W H W2 H2 := by
  have back : ∀ {a : Addr}, H' a = none → a ∈ W.as ∨ H a = none := fun {a} n => by
    cases q : H a with
    | none => exact .inr rfl
    | some o =>
      by_cases hm : a ∈ W.as
      · exact .inl hm
      · rw [e.keep a o q hm] at n; cases n
  refine ⟨fun l a h => f.pre l a (e.pre l a h), fun a h => ?_, fun a h => f.oldF a (e.oldF a h), fun a h => ?_, fun a o h n => ?_⟩
  · rcases f.new a h with h | h
    · exact e.new a h
    · exact back h
  · rcases f.newF a h with h | h
    · exact e.newF a h
    · exact (back h).imp (hs a) id
  · refine f.keep a o (e.keep a o h n) fun m => ?_
    rcases e.new a m with z | z
    · exact n z
    · rw [h] at z; cases z
theorem Ext.rd (e : Ext W H W' H') (hs : ∀ a ∈ W.as, a ∈ W.F) {a : Addr} {u : HO} (h : Rd H a u ∧ a ∉ W.F) : Rd H' a u ∧ a ∉ W'.F := by
  obtain ⟨r, n⟩ := h
  have na : a ∉ W.as := fun z => n (hs a z)
  rcases r with r | ⟨o, r⟩
  · exact ⟨.inl (e.keep _ _ r na), fun z => (e.newF a z).elim n fun q => by rw [r] at q; cases q⟩
  · exact ⟨.inr ⟨o, e.keep _ _ r na⟩, fun z => (e.newF a z).elim n fun q => by rw [r] at q; cases q⟩
theorem Ext.lstK (e : Ext W H W' H') (hs : ∀ a ∈ W.as, a ∈ W.F) {a : Addr} {u : HO} (h : H a = some u) (n : a ∉ W.F) : H' a = some u ∧ a ∉ W'.F :=
  ⟨e.keep _ _ h fun z => n (hs a z), fun z => (e.newF a z).elim n fun q => by rw [h] at q; cases q⟩
mutual
theorem Rep.ext (e : Ext W H W' H') (hs : ∀ a ∈ W.as, a ∈ W.F) : ∀ {v : V} {x : PV}, Rep K W.as W.F H v x → Rep K W'.as W'.F H' v x
  | _, _, .non => .non
  | _, _, .bl b => .bl b
  | _, _, .int i => .int i
  | _, _, .str x => .str x
  | _, _, .tup h r => .tup (h.imp (e.rd hs) id) (RepL.ext e hs r)
  | _, _, .lst h hf r => .lst (e.lstK hs h hf).1 (e.lstK hs h hf).2 (RepL.ext e hs r)
  | _, _, .scr h => .scr (h.imp (e.rd hs) id)
  | _, _, .ref h => .ref (e.pre _ _ h)
  | _, _, .fn x => .fn x
  | _, _, .kd x => .kd x
theorem RepL.ext (e : Ext W H W' H') (hs : ∀ a ∈ W.as, a ∈ W.F) : ∀ {vs : List V} {xs : List PV}, RepL K W.as W.F H vs xs → RepL K W'.as W'.F H' vs xs
  | _, _, .nil => .nil
  | _, _, .cons h t => .cons (Rep.ext e hs h) (RepL.ext e hs t)
end
theorem RepKV.ext {κ : Type} (e : Ext W H W' H') (hs : ∀ a ∈ W.as, a ∈ W.F) : ∀ {vs : List (κ × V)} {xs : List (κ × PV)}, RepKV K W.as W.F H vs xs → RepKV K W'.as W'.F H' vs xs
  | _, _, .nil => .nil
  | _, _, .cons h t => .cons ⟨h.1, h.2.ext e hs⟩ (RepKV.ext e hs t)
theorem RepO.ext (e : Ext W H W' H') (hs : ∀ a ∈ W.as, a ∈ W.F) {u : HO} {o : PO} (r : RepO K W.as W.F H u o) : RepO K W'.as W'.F H' u o := by
  cases r with
  | lst r => exact .lst (r.ext e hs)
  | dct r => exact .dct (RepKV.ext e hs r)
  | ins r => exact .ins (RepKV.ext e hs r)
theorem RepL.length : ∀ {vs : List V} {xs : List PV}, RepL K as F H vs xs → vs.length = xs.length
  | _, _, .nil => rfl
  | _, _, .cons _ t => congrArg (· + 1) (RepL.length t)
theorem RepL.append : ∀ {vs : List V} {xs : List PV} {us : List V} {ys : List PV}, RepL K as F H vs xs → RepL K as F H us ys → RepL K as F H (vs ++ us) (xs ++ ys)
  | _, _, _, _, .nil, s => s
  | _, _, _, _, .cons h t, s => .cons h (RepL.append t s)
theorem RepL.get : ∀ {vs : List V} {xs : List PV} {i : Nat} {x : PV}, RepL K as F H vs xs → xs[i]? = some x → ∃ v, vs[i]? = some v ∧ Rep K as F H v x
  | _, _, _, _, .nil, e => by simp at e
  | _, _, 0, _, .cons h _, e => by simp at e; subst e; exact ⟨_, rfl, h⟩
  | _, _, i + 1, _, .cons _ t, e => by
    obtain ⟨v, h1, h2⟩ := RepL.get (i := i) t (by simpa using e)
    exact ⟨v, by simpa using h1, h2⟩
theorem RepL.getV : ∀ {vs : List V} {xs : List PV} {i : Nat} {v : V}, RepL K as F H vs xs → vs[i]? = some v → ∃ x, xs[i]? = some x ∧ Rep K as F H v x
  | _, _, _, _, .nil, e => by simp at e
  | _, _, 0, _, .cons h _, e => by simp at e; subst e; exact ⟨_, rfl, h⟩
  | _, _, i + 1, _, .cons _ t, e => by
    obtain ⟨x, h1, h2⟩ := RepL.getV (i := i) t (by simpa using e)
    exact ⟨x, by simpa using h1, h2⟩
theorem RepL.take : ∀ {vs : List V} {xs : List PV} (n : Nat), RepL K as F H vs xs → RepL K as F H (vs.take n) (xs.take n)
  | _, _, 0, _ => .nil
  | _, _, _ + 1, .nil => .nil
  | _, _, n + 1, .cons h t => .cons h (RepL.take n t)
theorem RepL.drop : ∀ {vs : List V} {xs : List PV} (n : Nat), RepL K as F H vs xs → RepL K as F H (vs.drop n) (xs.drop n)
  | _, _, 0, r => r
  | _, _, _ + 1, .nil => .nil
  | _, _, n + 1, .cons _ t => RepL.drop n t
theorem RepL.set {v : V} {x : PV} (h : Rep K as F H v x) : ∀ {vs : List V} {xs : List PV} (i : Nat), RepL K as F H vs xs → RepL K as F H (vs.set i v) (xs.set i x)
  | _, _, _, .nil => .nil
  | _, _, 0, .cons _ t => .cons h t
  | _, _, i + 1, .cons q t => .cons q (RepL.set h i t)
theorem RepL.reverse : ∀ {vs : List V} {xs : List PV}, RepL K as F H vs xs → RepL K as F H vs.reverse xs.reverse
  | _, _, .nil => .nil
  | _, _, .cons h t => by
    rw [List.reverse_cons, List.reverse_cons]
    exact (RepL.reverse t).append (.cons h .nil)

/-! ### moves of the world -/
/-- something new that is not of the store: nothing else turns -/
theorem Ab.laid {p : Addr} {u : HO} (A : Ab K W H) (hp : H p = none) : Ab K W (upd H p u) ∧ Ext W H W (upd H p u) := by
  have e : Ext W H W (upd H p u) := ⟨fun _ _ h => h, fun _ h => .inl h, fun _ h => h, fun _ h => .inl h, fun a o h _ => by rw [upd_ne (ne_of_none h hp)]; exact h⟩
  refine ⟨⟨A.len, A.nd, A.sub, fun a h => ?_, fun l a o h1 h2 => ?_⟩, e⟩
  · by_cases z : a = p
    · rw [z, upd_same]; exact fun q => nomatch q
    · rw [upd_ne z]; exact A.trk a h
  obtain ⟨u', h3, r⟩ := A.obj l a o h1 h2
  exact ⟨u', by rw [upd_ne (ne_of_none h3 hp)]; exact h3, r.ext e A.sub⟩
theorem mem_of_ix {l : Nat} {a : Addr} (h : as[l]? = some a) : a ∈ as := List.mem_of_getElem? h
theorem Ab.freshF {p : Addr} (A : Ab K W H) (hp : H p = none) : p ∉ W.F := fun h => A.trk p h hp
theorem Ab.fresh {p : Addr} (A : Ab K W H) (hp : H p = none) : p ∉ W.as := fun h => A.freshF hp (A.sub p h)
/-- a new place of the store -/
def Wd.add (W : Wd) (p : Addr) (o : PO) : Wd := ⟨W.as ++ [p], p :: W.F, W.st ++ [o]⟩
theorem Ab.added {p : Addr} {u : HO} {o : PO} (A : Ab K W H) (hp : H p = none) (r : RepO K W.as W.F H u o) : Ab K (W.add p o) (upd H p u) ∧ Ext W H (W.add p o) (upd H p u) := by
  have e : Ext W H (W.add p o) (upd H p u) := by
    refine ⟨fun l a h => ?_, fun a h => ?_, fun a h => List.mem_cons_of_mem _ h, fun a h => ?_, fun a o h _ => by rw [upd_ne (ne_of_none h hp)]; exact h⟩
    · show (W.as ++ [p])[l]? = some a
      rw [List.getElem?_append_left (List.getElem?_eq_some_iff.mp h).1]; exact h
    · rcases List.mem_append.mp h with h | h
      · exact .inl h
      · rw [List.mem_singleton.mp h]; exact .inr hp
    · rcases List.mem_cons.mp h with h | h
      · rw [h]; exact .inr hp
      · exact .inl h
  refine ⟨⟨?_, ?_, fun a h => ?_, fun a h => ?_, fun l a o' h1 h2 => ?_⟩, e⟩
  · show (W.as ++ [p]).length = (W.st ++ [o]).length
    simp [A.len]
  · refine List.nodup_append.mpr ⟨A.nd, List.nodup_cons.mpr ⟨by simp, List.nodup_nil⟩, fun a ha b hb => ?_⟩
    rw [List.mem_singleton.mp hb]
    exact fun z => A.fresh hp (z ▸ ha)
  · rcases List.mem_append.mp h with h | h
    · exact List.mem_cons_of_mem _ (A.sub a h)
    · rw [List.mem_singleton.mp h]; exact List.mem_cons_self
  · by_cases z : a = p
    · rw [z, upd_same]; exact fun q => nomatch q
    · rw [upd_ne z]
      exact A.trk a ((List.mem_cons.mp h).resolve_left z)
  · have h1 : (W.as ++ [p])[l]? = some a := h1
    have h2 : (W.st ++ [o])[l]? = some o' := h2
    by_cases hl : l < W.as.length
    · rw [List.getElem?_append_left hl] at h1
      rw [List.getElem?_append_left (by rw [← A.len]; exact hl)] at h2
      obtain ⟨u', h3, r'⟩ := A.obj l a o' h1 h2
      exact ⟨u', by rw [upd_ne (ne_of_none h3 hp)]; exact h3, r'.ext e A.sub⟩
    · have hle : W.as.length ≤ l := Nat.le_of_not_lt hl
      rw [List.getElem?_append_right hle] at h1
      rw [List.getElem?_append_right (by rw [← A.len]; exact hle)] at h2
      have hz : l - W.as.length = 0 := by
        cases q : l - W.as.length with
        | zero => rfl
        | succ k => rw [q] at h1; simp at h1
      rw [hz] at h1
      rw [← A.len, hz] at h2
      simp at h1 h2
      subst h1 h2
      exact ⟨u, upd_same, r.ext e A.sub⟩
/-- an object of the store is another one -/
def Wd.put (W : Wd) (l : Nat) (o : PO) : Wd := ⟨W.as, W.F, W.st.set l o⟩
theorem Ab.put {l : Nat} {a : Addr} {u : HO} {o : PO} (A : Ab K W H) (hl : W.as[l]? = some a) (r : RepO K W.as W.F H u o) : Ab K (W.put l o) (upd H a u) ∧ Ext W H (W.put l o) (upd H a u) := by
  have e : Ext W H (W.put l o) (upd H a u) := ⟨fun _ _ h => h, fun _ h => .inl h, fun _ h => h, fun _ h => .inl h, fun b o h n => by
    have nb : b ≠ a := fun z => n (by rw [z]; exact mem_of_ix hl)
    rw [upd_ne nb]; exact h⟩
  refine ⟨⟨?_, A.nd, A.sub, fun b h => ?_, fun j b o' h1 h2 => ?_⟩, e⟩
  · show W.as.length = (W.st.set l o).length
    rw [List.length_set]; exact A.len
  · by_cases z : b = a
    · rw [z, upd_same]; exact fun q => nomatch q
    · rw [upd_ne z]; exact A.trk b h
  · have h1 : W.as[j]? = some b := h1
    have h2 : (W.st.set l o)[j]? = some o' := h2
    have hls : l < W.st.length := by rw [← A.len]; exact (List.getElem?_eq_some_iff.mp hl).1
    by_cases hj : l = j
    · subst hj
      rw [hl] at h1; cases h1
      rw [List.getElem?_set_self hls] at h2; cases h2
      exact ⟨u, upd_same, r.ext e A.sub⟩
    · rw [List.getElem?_set_ne hj] at h2
      obtain ⟨u', h3, r'⟩ := A.obj j b o' h1 h2
      refine ⟨u', ?_, r'.ext e A.sub⟩
      rw [upd_ne]
      · exact h3
      · rintro rfl
        obtain ⟨k1, q1⟩ := List.getElem?_eq_some_iff.mp h1
        obtain ⟨k2, q2⟩ := List.getElem?_eq_some_iff.mp hl
        exact hj ((List.getElem_inj A.nd).mp (q2.trans q1.symm))
end

/-! ### what is wanted behind a run -/
/-- R: how the result lies; E: what is wanted of an exception -/
def Post {α β : Type} (K : PySem.W.Frag) (E : XK) (R : Wd → Hp → β → α → Prop) (W : Wd) (H : Hp) (o : Out α) (Q : β → Hp → Prop) : Prop :=
  match o with
  | .ok a st => ∀ (W' : Wd) (H' : Hp) (b : β), W'.st = st → Ab K W' H' → Ext W H W' H' → R W' H' b a → Q b H'
  | .exc c fs st => ∀ (W' : Wd) (H' : Hp) (d : Addr) (vs : List (Str × V)), W'.st = st → Ab K W' H' → Ext W H W' H' → H' d = some (.xd vs) → RepKV K W'.as W'.F H' vs fs → E (.ref (He.ga K c)) (some d) H'
  | .bad => False
abbrev RV (K : PySem.W.Frag) : Wd → Hp → V → PV → Prop := fun W H v x => Rep K W.as W.F H v x
abbrev RVs (K : PySem.W.Frag) : Wd → Hp → List V → List PV → Prop := fun W H v x => RepL K W.as W.F H v x
abbrev RB : Wd → Hp → Bool → Bool → Prop := fun _ _ b c => b = c
section
variable {α β γ δ : Type} {K : PySem.W.Frag} {E : XK} {R : Wd → Hp → β → α → Prop} {S : Wd → Hp → δ → γ → Prop} {W W' : Wd} {H H' : Hp}
/-- from a later world -/
theorem Post.later (A : Ab K W H) (e : Ext W H W' H') {o : Out α} {Q : β → Hp → Prop} (h : Post K E R W H o Q) : Post K E R W' H' o Q := by
  cases o with
  | ok a st => exact fun W2 H2 b h1 h2 h3 h4 => h W2 H2 b h1 h2 (e.trans A.sub h3) h4
  | exc c fs st => exact fun W2 H2 d vs h1 h2 h3 h4 h5 => h W2 H2 d vs h1 h2 (e.trans A.sub h3) h4 h5
  | bad => exact h
/-- one run behind another -/
theorem Post.bind (A : Ab K W H) {m : M α} {k : α → M γ} {Q : δ → Hp → Prop} {Q1 : β → Hp → Prop} (h : Post K E S W H ((m >>= k) W.st) Q)
    (hk : ∀ (W1 : Wd) (H1 : Hp) (b : β) (a : α), Ab K W1 H1 → Ext W H W1 H1 → R W1 H1 b a → Post K E S W1 H1 (k a W1.st) Q → Q1 b H1) : Post K E R W H (m W.st) Q1 := by
  rw [M.bind_def] at h
  revert h
  cases m W.st with
  | ok a st =>
    intro h W1 H1 b h1 h2 h3 h4
    subst h1
    exact hk W1 H1 b a h2 h3 h4 (Post.later A h3 h)
  | exc c fs st => exact fun h => h
  | bad => exact fun h => h
theorem Post.mono {o : Out α} {Q Q' : β → Hp → Prop} (h : Post K E R W H o Q) (hq : ∀ b H', Q b H' → Q' b H') : Post K E R W H o Q' := by
  cases o with
  | ok a st => exact fun W2 H2 b h1 h2 h3 h4 => hq _ _ (h W2 H2 b h1 h2 h3 h4)
  | exc c fs st => exact h
  | bad => exact h
/-- the end of a run, where the world stands -/
theorem Post.here (A : Ab K W H) {a : α} {b : β} {Q : β → Hp → Prop} (h : Post K E R W H (.ok a W.st) Q) (r : R W H b a) : Q b H := h W H b rfl A .refl r
theorem Post.at (A : Ab K W' H') (e : Ext W H W' H') {a : α} {b : β} {Q : β → Hp → Prop} (h : Post K E R W H (.ok a W'.st) Q) (r : R W' H' b a) : Q b H' := h W' H' b rfl A e r
end
end PL

/-! PL, part B: operations on values, each shown against the layer's rule. -/
namespace PL
open PySem PySem.Spec PyProof.Rows L2

/-! ### what an operation on values says to the layer -/
def r1 (K : PySem.W.Frag) (E : XK) (f : PV → M PV) : V → Hp → VK → Prop := fun x H Q => ∃ W p, Ab K W H ∧ Rep K W.as W.F H x p ∧ Post K E (RV K) W H (f p W.st) Q
def r2 (K : PySem.W.Frag) (E : XK) (f : PV → PV → M PV) : R2 := fun x y H Q => ∃ W p q, Ab K W H ∧ Rep K W.as W.F H x p ∧ Rep K W.as W.F H y q ∧ Post K E (RV K) W H (f p q W.st) Q
def rN (K : PySem.W.Frag) (E : XK) (f : List PV → M PV) : List V → Hp → VK → Prop := fun xs H Q => ∃ W ps, Ab K W H ∧ RepL K W.as W.F H xs ps ∧ Post K E (RV K) W H (f ps W.st) Q
def rM (K : PySem.W.Frag) (E : XK) (f : PV → List PV → M PV) : V → List V → Hp → VK → Prop := fun x xs H Q => ∃ W p ps, Ab K W H ∧ Rep K W.as W.F H x p ∧ RepL K W.as W.F H xs ps ∧ Post K E (RV K) W H (f p ps W.st) Q

def pureR {α : Type} (a : α) : M α := fun st => .ok a st
/-- a new tuple; a new list: one that stays as it is, or a place of the store -/
def mkT (xs : List PV) : M PV := fun st => if xs.length ≤ sizeLine then .ok (.tup xs) st else .bad
def mkL (nw : Bool) (xs : List PV) : M PV := fun st => if xs.length ≤ sizeLine then (if nw then .ok (.ref st.length) (st ++ [.lst xs]) else .ok (.lst xs) st) else .bad

section
variable {K : PySem.W.Frag} {E : XK} {W : Wd} {H : Hp} {Q : VK}
theorem RepL.len_eq {as F : List Addr} {vs : List V} {xs : List PV} (r : RepL K as F H vs xs) : vs.length = xs.length := r.length
theorem new_tup {vs : List V} {xs : List PV} (A : Ab K W H) (r : RepL K W.as W.F H vs xs) (P : Post K E (RV K) W H (mkT xs W.st) Q) :
    vs.length ≤ sizeLine ∧ ∀ p, H p = none → Q (.ref p) (upd H p (.tup vs)) := by
  unfold mkT at P
  by_cases h : xs.length ≤ sizeLine
  · rw [if_pos h] at P
    refine ⟨by rw [r.length]; exact h, fun p hp => ?_⟩
    obtain ⟨A', e⟩ := A.laid (u := .tup vs) hp
    exact P W _ (.ref p) rfl A' e (.tup (.inl ⟨.inl upd_same, A.freshF hp⟩) (r.ext e A.sub))
  · rw [if_neg h] at P
    exact P.elim
theorem new_lst {nw : Bool} {vs : List V} {xs : List PV} (A : Ab K W H) (r : RepL K W.as W.F H vs xs) (P : Post K E (RV K) W H (mkL nw xs W.st) Q) :
    vs.length ≤ sizeLine ∧ ∀ p, H p = none → Q (.ref p) (upd H p (.lst vs)) := by
  unfold mkL at P
  by_cases h : xs.length ≤ sizeLine
  · rw [if_pos h] at P
    refine ⟨by rw [r.length]; exact h, fun p hp => ?_⟩
    cases nw with
    | false =>
      obtain ⟨A', e⟩ := A.laid (u := .lst vs) hp
      exact P W _ (.ref p) rfl A' e (.lst upd_same (A.freshF hp) (r.ext e A.sub))
    | true =>
      obtain ⟨A', e⟩ := A.added (o := .lst xs) hp (.lst r)
      refine P (W.add p (.lst xs)) _ (.ref p) rfl A' e (.ref ?_)
      show (W.as ++ [p])[W.st.length]? = some p
      rw [← A.len, List.getElem?_append_right (Nat.le_refl _)]
      simp
  · rw [if_neg h] at P
    exact P.elim

/-! ### sequences -/
/-- the items of a tuple; of a list, wherever it stands -/
def seqT : PV → Option (List PV)
  | .tup xs => some xs
  | _ => none
/-- a list that is tracked -/
def seqM (st : Stor) : PV → Option (List PV)
  | .lst xs => some xs
  | .ref l => match st[l]? with
    | some (.lst xs) => some xs
    | _ => none
  | _ => none
def seqL (st : Stor) : PV → Option (List PV)
  | .scr ns => some (ns.map .int)
  | p => seqM st p
def seqA (st : Stor) (p : PV) : Option (List PV) := match p with
  | .tup xs => some xs
  | p => seqL st p
theorem repL_ints {as F : List Addr} (ns : List Int) : RepL K as F H (ns.map V.int) (ns.map PV.int) := by
  induction ns with
  | nil => exact .nil
  | cons n ns ih => exact .cons (.int n) ih
theorem seqT_ok {v : V} {p : PV} {xs : List PV} (r : Rep K W.as W.F H v p) (h : seqT p = some xs) : ∃ a vs, v = .ref a ∧ SqT K H a vs ∧ RepL K W.as W.F H vs xs := by
  cases r with
  | tup h' r =>
    cases h
    exact ⟨_, _, rfl, h'.imp (·.1) id, r⟩
  | _ => cases h
theorem seqM_ok (A : Ab K W H) {v : V} {p : PV} {xs : List PV} (r : Rep K W.as W.F H v p) (h : seqM W.st p = some xs) : ∃ a vs, v = .ref a ∧ H a = some (.lst vs) ∧ RepL K W.as W.F H vs xs := by
  cases r with
  | lst h' hf r =>
    cases h
    exact ⟨_, _, rfl, h', r⟩
  | @ref a l hl =>
    simp only [seqM] at h
    split at h
    · rename_i ys e
      cases h
      obtain ⟨u, h3, ro⟩ := A.obj l a _ hl e
      cases ro with
      | lst ro => exact ⟨_, _, rfl, h3, ro⟩
    · cases h
  | _ => cases h
theorem seqL_ok (A : Ab K W H) {v : V} {p : PV} {xs : List PV} (r : Rep K W.as W.F H v p) (h : seqL W.st p = some xs) : ∃ a vs, v = .ref a ∧ SqL K H a vs ∧ RepL K W.as W.F H vs xs := by
  have go : seqM W.st p = some xs → ∃ a vs, v = .ref a ∧ SqL K H a vs ∧ RepL K W.as W.F H vs xs := fun h => by
    obtain ⟨a, vs, e, h1, r1⟩ := seqM_ok A r h
    exact ⟨a, vs, e, .of h1, r1⟩
  cases r with
  | scr h' =>
    cases h
    exact ⟨_, _, rfl, h'.imp (·.1) id, repL_ints _⟩
  | _ => exact go h
theorem seqA_ok (A : Ab K W H) {v : V} {p : PV} {xs : List PV} (r : Rep K W.as W.F H v p) (h : seqA W.st p = some xs) : ∃ a vs, v = .ref a ∧ (SqL K H a vs ∨ SqT K H a vs) ∧ RepL K W.as W.F H vs xs := by
  have go : seqL W.st p = some xs → ∃ a vs, v = .ref a ∧ (SqL K H a vs ∨ SqT K H a vs) ∧ RepL K W.as W.F H vs xs := fun h => by
    obtain ⟨a, vs, e, h1, r1⟩ := seqL_ok A r h
    exact ⟨a, vs, e, .inl h1, r1⟩
  cases r with
  | tup h' r =>
    cases h
    exact ⟨_, _, rfl, .inr (h'.imp (·.1) id), r⟩
  | _ => exact go h

/-! ### data -/
mutual
/-- plain data: what == and repr look at; lists in the store one step deep -/
def toD (st : Stor) : PV → Option PyData
  | .non => some .none
  | .bl b => some (.bool b)
  | .int i => some (.int i)
  | .str x => some (.str x)
  | .tup xs => (toDs st xs).map .tuple
  | .lst xs => (toDs st xs).map .list
  | _ => none
def toDs (st : Stor) : List PV → Option (List PyData)
  | [] => some []
  | x :: xs => match toD st x, toDs st xs with
    | some d, some ds => some (d :: ds)
    | _, _ => none
end
/-- f of all, if it is told of all -/
def optAll {α β : Type} (f : α → Option β) : List α → Option (List β)
  | [] => some []
  | x :: xs => match f x, optAll f xs with
    | some d, some ds => some (d :: ds)
    | _, _ => none
/-- the same, where lists of the store may stand inside, so deep -/
def toDn : Nat → Stor → PV → Option PyData
  | 0, st, p => toD st p
  | n + 1, st, p => match p with
    | .tup xs => (optAll (toDn n st) xs).map .tuple
    | .lst xs => (optAll (toDn n st) xs).map .list
    | .ref l => (match st[l]? with
      | some (.lst xs) => (optAll (toDn n st) xs).map .list
      | _ => none)
    | p => toD st p
mutual
theorem toD_ok {st : Stor} : ∀ {v : V} {p : PV} {d : PyData}, Rep K W.as W.F H v p → toD st p = some d → Dp K H v d
  | _, _, _, .non, h => by cases h; exact .non
  | _, _, _, .bl b, h => by cases h; exact .bl b
  | _, _, _, .int i, h => by cases h; exact .int i
  | _, _, _, .str x, h => by cases h; exact .str x
  | _, _, _, .tup h' r, h => by
    unfold toD at h
    obtain ⟨ds, e, rfl⟩ := Option.map_eq_some_iff.mp h
    exact .tup (h'.imp (·.1) id) (toDs_ok r e)
  | _, _, _, .lst h' hf r, h => by
    unfold toD at h
    obtain ⟨ds, e, rfl⟩ := Option.map_eq_some_iff.mp h
    exact .lst (.of h') (toDs_ok r e)
  | _, _, _, .ref _, h => by simp [toD] at h
  | _, _, _, .fn _, h => by simp [toD] at h
  | _, _, _, .kd _, h => by simp [toD] at h
  | _, _, _, .scr _, h => by simp [toD] at h
theorem toDs_ok {st : Stor} : ∀ {vs : List V} {ps : List PV} {ds : List PyData}, RepL K W.as W.F H vs ps → toDs st ps = some ds → DpAll K H vs ds
  | _, _, _, .nil, h => by simp [toDs] at h; subst h; exact .nil
  | _, _, _, .cons r t, h => by
    unfold toDs at h
    split at h
    · rename_i d ds e1 e2
      cases h
      exact .cons (toD_ok r e1) (toDs_ok t e2)
    · cases h
end
theorem toDn_ok (A : Ab K W H) : ∀ (n : Nat) {v : V} {p : PV} {d : PyData}, Rep K W.as W.F H v p → toDn n W.st p = some d → Dp K H v d
  | 0, _, _, _, r, h => toD_ok r (by unfold toDn at h; exact h)
  | n + 1, v, p, d, r, h => by
    have goL : ∀ {xs : List PV} {vs : List V} {ds : List PyData}, RepL K W.as W.F H vs xs → optAll (toDn n W.st) xs = some ds → DpAll K H vs ds := by
      intro xs
      induction xs with
      | nil => intro vs ds r h; cases r; simp [optAll] at h; subst h; exact .nil
      | cons x xs ih =>
        intro vs ds r h
        cases r with
        | cons r t =>
          unfold optAll at h
          split at h
          · rename_i d ds e1 e2
            cases h
            exact .cons (toDn_ok A n r e1) (ih t e2)
          · cases h
    unfold toDn at h
    cases r with
    | tup h' r =>
      obtain ⟨ds, e, rfl⟩ := Option.map_eq_some_iff.mp h
      exact .tup (h'.imp (·.1) id) (goL r e)
    | lst h' hf r =>
      obtain ⟨ds, e, rfl⟩ := Option.map_eq_some_iff.mp h
      exact .lst (.of h') (goL r e)
    | @ref a l hl =>
      dsimp only at h
      split at h
      · rename_i xs e
        obtain ⟨ds, e2, rfl⟩ := Option.map_eq_some_iff.mp h
        obtain ⟨u, h3, ro⟩ := A.obj l a _ hl e
        cases ro with
        | lst ro => exact .lst (.of h3) (goL ro e2)
      · cases h
    | non => exact toD_ok (W := W) (st := W.st) .non h
    | bl b => exact toD_ok (W := W) (st := W.st) (.bl b) h
    | int i => exact toD_ok (W := W) (st := W.st) (.int i) h
    | str x => exact toD_ok (W := W) (st := W.st) (.str x) h
    | fn x => simp [toD] at h
    | kd x => simp [toD] at h
    | scr h' => simp [toD] at h
end

/-! ### operators -/
section
variable {X : Cx} {E : XK}
theorem OpR.imp {f : Value → Value → Sem Value} {r r' : R2} (h : OpR X f r) (i : ∀ x y H Q, r' x y H Q → r x y H Q) : OpR X f r' :=
  fun pins s σ H x y v u Q I rx ry q => h pins s σ H x y v u Q I rx ry (i _ _ _ _ q)
/-- by cases on the operands -/
theorem OpR.by {f : Value → Value → Sem Value} {r' : R2} (i : ∀ x y H Q, r' x y H Q → ∃ r, OpR X f r ∧ r x y H Q) : OpR X f r' :=
  fun pins s σ H x y v u Q I rx ry q => by
    obtain ⟨r, h, z⟩ := i _ _ _ _ q
    exact h pins s σ H x y v u Q I rx ry z

def addV (nw : Bool) (a b : PV) : M PV := fun st => match a, b with
  | .int i, .int j => .ok (.int (i + j)) st
  | .str x, .str y => if x.length + y.length ≤ sizeLine then .ok (.str (x ++ y)) st else .bad
  | .tup xs, .tup ys => mkT (xs ++ ys) st
  | a, b => match seqM st a, seqM st b with
    | some xs, some ys => mkL nw (xs ++ ys) st
    | _, _ => .bad
theorem add_ok {nw : Bool} : OpR X (binaryOp .Add) (r2 X.K E (addV nw)) := by
  refine OpR.by ?_
  rintro x y H Q ⟨W, p, q, A, rx, ry, P⟩
  have lists : Post X.K E (RV X.K) W H (match seqM W.st p, seqM W.st q with
    | some xs, some ys => mkL nw (xs ++ ys) W.st
    | _, _ => .bad) Q → ∃ r, OpR X (binaryOp .Add) r ∧ r x y H Q := fun P => by
    split at P
    · rename_i xs ys e1 e2
      obtain ⟨a, vs, rfl, h1, q1⟩ := seqM_ok A rx e1
      obtain ⟨b, us, rfl, h2, q2⟩ := seqM_ok A ry e2
      obtain ⟨z, k⟩ := new_lst A (q1.append q2) P
      rw [List.length_append] at z
      exact ⟨_, op_cat, a, b, vs, us, rfl, rfl, h1, h2, z, k⟩
    · exact P.elim
  unfold addV at P
  split at P
  · cases rx; cases ry
    exact ⟨_, op_add, _, _, rfl, rfl, Post.here A P (.int _)⟩
  · cases rx; cases ry
    rename_i x y
    by_cases h : x.length + y.length ≤ sizeLine
    · rw [if_pos h] at P
      exact ⟨_, op_add_str, _, _, rfl, rfl, h, Post.here A P (.str _)⟩
    · rw [if_neg h] at P
      exact P.elim
  · rename_i xs ys
    obtain ⟨a, vs, rfl, h1, q1⟩ := seqT_ok rx rfl
    obtain ⟨b, us, rfl, h2, q2⟩ := seqT_ok ry rfl
    obtain ⟨z, k⟩ := new_tup A (q1.append q2) P
    rw [List.length_append] at z
    refine ⟨_, op_catA, a, b, vs, us, rfl, rfl, h1, h2, z, fun e => ?_, fun _ e => ?_, fun _ _ => k⟩
    · subst e
      cases q1
      unfold mkT at P
      by_cases hz : ([] ++ ys).length ≤ sizeLine
      · rw [if_pos hz] at P
        exact Post.here A P ry
      · rw [if_neg hz] at P; exact P.elim
    · subst e
      cases q2
      unfold mkT at P
      by_cases hz : (xs ++ []).length ≤ sizeLine
      · rw [if_pos hz, List.append_nil] at P
        exact Post.here A P rx
      · rw [if_neg hz] at P; exact P.elim
  · exact lists P

def subV (a b : PV) : M PV := fun st => match a, b with
  | .int i, .int j => .ok (.int (i - j)) st
  | _, _ => .bad
theorem sub_ok : OpR X (binaryOp .Sub) (r2 X.K E subV) := by
  refine OpR.by ?_
  rintro x y H Q ⟨W, p, q, A, rx, ry, P⟩
  unfold subV at P
  split at P
  · cases rx; cases ry
    exact ⟨_, op_sub, _, _, rfl, rfl, Post.here A P (.int _)⟩
  · exact P.elim
def big (i : Int) : Bool := decide (-(2 ^ 64) < i) && decide (i < 2 ^ 64)
def mulV (nw : Bool) (a b : PV) : M PV := fun st => match a, b with
  | .int i, .int j => if big i || big j then .ok (.int (i * j)) st else .bad
  | a, .int k => match seqM st a with
    | some xs => if -(2 ^ 63) ≤ k ∧ k < 2 ^ 63 then mkL nw (List.replicate k.toNat xs).flatten st else .bad
    | none => .bad
  | _, _ => .bad
theorem RepL.rep {K : PySem.W.Frag} {as F : List Addr} {H : Hp} {vs : List V} {xs : List PV} (r : RepL K as F H vs xs) : ∀ n : Nat, RepL K as F H (List.replicate n vs).flatten (List.replicate n xs).flatten
  | 0 => .nil
  | n + 1 => by
    rw [List.replicate_succ, List.replicate_succ, List.flatten_cons, List.flatten_cons]
    exact r.append (RepL.rep r n)
theorem flat_len {α : Type} (xs : List α) : ∀ n : Nat, (List.replicate n xs).flatten.length = xs.length * n
  | 0 => by simp
  | n + 1 => by
    rw [List.replicate_succ, List.flatten_cons, List.length_append, flat_len xs n, Nat.mul_succ]
    omega
theorem mul_ok {nw : Bool} : OpR X (binaryOp .Mult) (r2 X.K E (mulV nw)) := by
  refine OpR.by ?_
  rintro x y H Q ⟨W, p, q, A, rx, ry, P⟩
  unfold mulV at P
  split at P
  · cases rx; cases ry
    rename_i i j
    by_cases h : (big i || big j) = true
    · rw [if_pos h] at P
      refine ⟨_, op_mul, _, _, rfl, rfl, ?_, Post.here A P (.int _)⟩
      rcases Bool.or_eq_true_iff.mp h with h | h
      · exact .inl ⟨of_decide_eq_true (Bool.and_eq_true_iff.mp h).1, of_decide_eq_true (Bool.and_eq_true_iff.mp h).2⟩
      · exact .inr ⟨of_decide_eq_true (Bool.and_eq_true_iff.mp h).1, of_decide_eq_true (Bool.and_eq_true_iff.mp h).2⟩
    · rw [if_neg h] at P
      exact P.elim
  · cases ry
    rename_i k _
    split at P
    · rename_i xs e
      obtain ⟨a, vs, rfl, h1, q1⟩ := seqM_ok A rx e
      by_cases h : -(2 ^ 63) ≤ k ∧ k < 2 ^ 63
      · rw [if_pos h] at P
        obtain ⟨z, f⟩ := new_lst A (q1.rep k.toNat) P
        rw [flat_len] at z
        exact ⟨_, op_rep, a, k, vs, rfl, rfl, h1, h.1, h.2, z, f⟩
      · rw [if_neg h] at P
        exact P.elim
    · exact P.elim
  · exact P.elim
def fdivV (a b : PV) : M PV := fun st => match a, b with
  | .int i, .int j => if j ≠ 0 ∧ j.natAbs < 1073741824 then .ok (.int (i.fdiv j)) st else .bad
  | _, _ => .bad
theorem fdiv_ok : OpR X (binaryOp .FloorDiv) (r2 X.K E fdivV) := by
  refine OpR.by ?_
  rintro x y H Q ⟨W, p, q, A, rx, ry, P⟩
  unfold fdivV at P
  split at P
  · cases rx; cases ry
    split at P
    · rename_i h
      exact ⟨_, op_fdivN, _, _, rfl, rfl, h, Post.here A P (.int _)⟩
    · exact P.elim
  · exact P.elim
def modV (a b : PV) : M PV := fun st => match a, b with
  | .int i, .int j => if j ≠ 0 then .ok (.int (i.fmod j)) st else .bad
  | _, _ => .bad
theorem mod_ok : OpR X (binaryOp .Mod) (r2 X.K E modV) := by
  refine OpR.by ?_
  rintro x y H Q ⟨W, p, q, A, rx, ry, P⟩
  unfold modV at P
  split at P
  · cases rx; cases ry
    split at P
    · rename_i h
      exact ⟨_, op_modN, _, _, rfl, rfl, h, Post.here A P (.int _)⟩
    · exact P.elim
  · exact P.elim
def powV (a b : PV) : M PV := fun st => match a, b with
  | .int i, .int j => if 0 ≤ j ∧ j ≤ 1000000 ∧ i.natAbs < 2 ^ 64 then .ok (.int (i ^ j.toNat)) st else .bad
  | _, _ => .bad
theorem pow_ok : OpR X (binaryOp .Pow) (r2 X.K E powV) := by
  refine OpR.by ?_
  rintro x y H Q ⟨W, p, q, A, rx, ry, P⟩
  unfold powV at P
  split at P
  · cases rx; cases ry
    split at P
    · rename_i h
      exact ⟨_, op_pow, _, _, rfl, rfl, h, Post.here A P (.int _)⟩
    · exact P.elim
  · exact P.elim
inductive BOp where
  | add | sub | mul | fdiv | mod | pow
def BOp.op : BOp → Operator
  | .add => .Add | .sub => .Sub | .mul => .Mult | .fdiv => .FloorDiv | .mod => .Mod | .pow => .Pow
def BOp.f (nw : Bool) : BOp → PV → PV → M PV
  | .add => addV nw | .sub => subV | .mul => mulV nw | .fdiv => fdivV | .mod => modV | .pow => powV
theorem bin_ok {nw : Bool} (o : BOp) : OpR X (binaryOp o.op) (r2 X.K E (o.f nw)) := by
  cases o
  · exact add_ok
  · exact sub_ok
  · exact mul_ok
  · exact fdiv_ok
  · exact mod_ok
  · exact pow_ok

/-! ### comparisons -/
def cmpI (f : Int → Int → Bool) (a b : PV) : M PV := fun st => match a, b with
  | .int i, .int j => .ok (.bl (f i j)) st
  | _, _ => .bad
theorem cmpI_ok {f : Int → Int → Bool} {op : CmpOp} (h : OpR X (compareOp op) (rI0 fun i j => .bl (f i j))) : OpR X (compareOp op) (r2 X.K E (cmpI f)) := by
  refine OpR.by ?_
  rintro x y H Q ⟨W, p, q, A, rx, ry, P⟩
  unfold cmpI at P
  split at P
  · cases rx; cases ry
    exact ⟨_, h, _, _, rfl, rfl, Post.here A P (.bl _)⟩
  · exact P.elim
mutual
/-- == of data, by the first one's shape -/
def eqvS : PyData → PyData → Bool
  | .none, d => (match d with | .none => true | _ => false)
  | .bool a, d => (match d with | .bool b => a == b | .int j => (if a then 1 else 0) == j | _ => false)
  | .int i, d => (match d with | .bool b => i == (if b then 1 else 0) | .int j => i == j | _ => false)
  | .str x, d => (match d with | .str y => x == y | _ => false)
  | .list xs, d => (match d with | .list ys => eqvSs xs ys | _ => false)
  | .tuple xs, d => (match d with | .tuple ys => eqvSs xs ys | _ => false)
  | .dict _, _ => false
def eqvSs : List PyData → List PyData → Bool
  | [], ys => ys.isEmpty
  | x :: xs, ys => (match ys with | y :: ys => eqvS x y && eqvSs xs ys | [] => false)
end
mutual
theorem eqvS_eq : ∀ d e : PyData, eqvS d e = PyData.eqv d e
  | .none, e => by cases e <;> simp [eqvS, PyData.eqv]
  | .bool a, e => by cases e <;> simp [eqvS, PyData.eqv]
  | .int a, e => by cases e <;> simp [eqvS, PyData.eqv]
  | .str a, e => by cases e <;> simp [eqvS, PyData.eqv]
  | .list xs, e => by cases e <;> simp [eqvS, PyData.eqv, eqvSs_eq xs]
  | .tuple xs, e => by cases e <;> simp [eqvS, PyData.eqv, eqvSs_eq xs]
  | .dict xs, e => by cases e <;> simp [eqvS, PyData.eqv]
theorem eqvSs_eq : ∀ d e : List PyData, eqvSs d e = PyData.eqvAll d e
  | [], e => by cases e <;> simp [eqvSs, PyData.eqvAll]
  | x :: xs, e => by cases e <;> simp [eqvSs, PyData.eqvAll, eqvS_eq x, eqvSs_eq xs]
end
/-- ==: data, so deep -/
def eqD (st : Stor) (a b : PV) : Option Bool := match toDn 3 st a, toDn 3 st b with
  | some d, some e => if SeqAt.shaped d && SeqAt.shaped e then some (eqvS d e) else none
  | _, _ => none
/-- == of two words or two numbers: no shape is asked -/
def eqF (a b : PV) : Option Bool := match a, b with
  | .str x, .str y => some (x == y)
  | .int x, .int y => some (x == y)
  | _, _ => none
def eqV (neg : Bool) (a b : PV) : M PV := fun st => match eqF a b with
  | some k => .ok (.bl (k != neg)) st
  | none => match eqD st a b with
    | some k => .ok (.bl (k != neg)) st
    | none => .bad
theorem eqF_ok {K : PySem.W.Frag} {W : Wd} {H : Hp} {x y : V} {p q : PV} {k : Bool} (rx : Rep K W.as W.F H x p) (ry : Rep K W.as W.F H y q) (h : eqF p q = some k) :
    scal x y = true ∧ decide (x = y) = k := by
  unfold eqF at h
  split at h
  · cases rx; cases ry; cases h; exact ⟨rfl, dec_str⟩
  · cases rx; cases ry; cases h; exact ⟨rfl, dec_int⟩
  · cases h
theorem eqD_ok {K : PySem.W.Frag} {W : Wd} {H : Hp} {x y : V} {p q : PV} {k : Bool} (A : Ab K W H) (rx : Rep K W.as W.F H x p) (ry : Rep K W.as W.F H y q) (h : eqD W.st p q = some k) :
    ∃ d e, Dp K H x d ∧ Dp K H y e ∧ SeqAt.shaped d = true ∧ SeqAt.shaped e = true ∧ PyData.eqv d e = k := by
  unfold eqD at h
  split at h
  · rename_i d e h1 h2
    split at h
    · rename_i hs
      obtain ⟨s1, s2⟩ := Bool.and_eq_true_iff.mp hs
      cases h
      exact ⟨d, e, toDn_ok A 3 rx h1, toDn_ok A 3 ry h2, s1, s2, (eqvS_eq d e).symm⟩
    · cases h
  · cases h
theorem eq_ok (hu : X.A.units + 64 < cLine) : OpR X (compareOp .Eq) (r2 X.K E (eqV false)) := by
  refine OpR.by ?_
  rintro x y H Q ⟨W, p, q, A, rx, ry, P⟩
  unfold eqV at P
  split at P
  · rename_i k e
    obtain ⟨h1, h2⟩ := eqF_ok rx ry e
    refine ⟨_, op_eq, h1, ?_⟩
    rw [h2]
    have P' := Post.here A P (.bl (k != false))
    simpa using P'
  split at P
  · rename_i k e
    obtain ⟨d, e, h1, h2, h3, h4, h5⟩ := eqD_ok A rx ry e
    refine ⟨_, op_eqD hu, d, e, h1, h2, h3, h4, ?_⟩
    rw [h5]
    have P' := Post.here A P (.bl (k != false))
    simpa using P'
  · exact P.elim
theorem ne_ok (hu : X.A.units + 64 < cLine) : OpR X (compareOp .NotEq) (r2 X.K E (eqV true)) := by
  refine OpR.by ?_
  rintro x y H Q ⟨W, p, q, A, rx, ry, P⟩
  unfold eqV at P
  split at P
  · rename_i k e
    obtain ⟨h1, h2⟩ := eqF_ok rx ry e
    refine ⟨_, op_ne, h1, ?_⟩
    rw [h2]
    have P' := Post.here A P (.bl (k != true))
    simpa using P'
  split at P
  · rename_i k e
    obtain ⟨d, e, h1, h2, h3, h4, h5⟩ := eqD_ok A rx ry e
    refine ⟨_, op_neD hu, d, e, h1, h2, h3, h4, ?_⟩
    rw [h5]
    have P' := Post.here A P (.bl (k != true))
    simpa using P'
  · exact P.elim
end
end PL

/-! PL, part C: membership, subscripts, slices, built-ins, methods. -/
namespace PL
open PySem PySem.Spec PyProof.Rows L2

/-! ### the module -/
structure Glb where
  vals : List (Str × PV)
  dicts : List (Str × List (Str × PV))
  blt : List Str
/-- a value that stands in the written part, whatever the heap -/
def KRep (K : PySem.W.Frag) (v : V) (p : PV) : Prop := ∀ as F H, Rep K as F H v p
structure GOk (G : Glb) (P : Program) (w : World) (K : PySem.W.Frag) (mg : Str → Option Value) : Prop where
  val : ∀ x p, G.vals.lookup x = some p → ∃ v u, mg x = some u ∧ RelV v u ∧ KRep K v p
  dict : ∀ x kvs, G.dicts.lookup x = some kvs → ∃ es n, KDict K w (He.ga K x) es n ∧ ∀ z : Str, match kvs.lookup z with
    | some p => ∃ v u, PySem.W.nsIn K (He.ga K x) z = some (some u) ∧ RelV v u ∧ KRep K v p
    | none => PySem.W.nsIn K (He.ga K x) z = some none
  blt : ∀ x, x ∈ G.blt → mg x = none
/-- the context of a run: what the rules want of it -/
structure CtxOk (G : Glb) (X : Cx) : Prop where
  calm : X.calm = true
  nd : X.N.Nodup
  units : X.A.units + 100 < cLine
  guards : X.A.guards = some []
  glb : GOk G X.prog X.w X.K X.mg

section
variable {X : Cx} {E : XK} {G : Glb}
/-! ### in -/
def flatP : PV → Bool
  | .non => true | .bl _ => true | .int _ => true | .str _ => true
  | _ => false
def flatEq : PV → PV → Bool
  | .non, .non => true
  | .bl a, .bl b => a == b
  | .bl a, .int b => (if a then 1 else 0) == b
  | .int a, .bl b => a == (if b then 1 else 0)
  | .int a, .int b => a == b
  | .str a, .str b => a == b
  | _, _ => false
theorem flat_of {K : PySem.W.Frag} {as F : List Addr} {H : Hp} {v : V} {p : PV} (r : Rep K as F H v p) (f : flatP p = true) : flatV v = true := by
  cases r <;> first | rfl | cases f
theorem flats_of {K : PySem.W.Frag} {as F : List Addr} {H : Hp} : ∀ {vs : List V} {ps : List PV}, RepL K as F H vs ps → ps.all flatP = true → vs.all flatV = true
  | _, _, .nil, _ => rfl
  | _, _, .cons r t, f => by
    rw [List.all_cons, Bool.and_eq_true] at f
    rw [List.all_cons, flat_of r f.1, flats_of t f.2]; rfl
theorem flatEq_of {K : PySem.W.Frag} {as F : List Addr} {H : Hp} {v u : V} {p q : PV} (r : Rep K as F H v p) (s : Rep K as F H u q) (f : flatP p = true) (g : flatP q = true) : L2.eqV v u = flatEq p q := by
  cases r <;> first | (cases f; done) | (cases s <;> first | rfl | cases g)
theorem inV_of {K : PySem.W.Frag} {as F : List Addr} {H : Hp} {v : V} {p : PV} (r : Rep K as F H v p) (f : flatP p = true) : ∀ {vs : List V} {ps : List PV}, RepL K as F H vs ps → ps.all flatP = true → L2.inV v vs = ps.any fun q => flatEq q p
  | _, _, .nil, _ => rfl
  | _, _, .cons s t, g => by
    rw [List.all_cons, Bool.and_eq_true] at g
    unfold L2.inV
    rw [List.any_cons, List.any_cons, flatEq_of s r g.1 f]
    have := inV_of r f t g.2
    unfold L2.inV at this
    rw [this]
/-- keys of a dict -/
def keyP : PV → Option Key
  | .int i => some (.inl i)
  | .str x => some (.inr x)
  | _ => none
theorem keyP_of {K : PySem.W.Frag} {as F : List Addr} {H : Hp} {v : V} {p : PV} {k : Key} (r : Rep K as F H v p) (h : keyP p = some k) : v = kV k := by
  cases r <;> first | (cases h; rfl) | cases h
def valP {κ : Type} [DecidableEq κ] : List (κ × PV) → κ → Option PV
  | [], _ => none
  | p :: r, k => if p.1 = k then some p.2 else valP r k
theorem valP_of {κ : Type} [DecidableEq κ] {K : PySem.W.Frag} {as F : List Addr} {H : Hp} : ∀ {vs : List (κ × V)} {ps : List (κ × PV)} (k : κ), RepKV K as F H vs ps →
    (valP ps k = none → valV vs k = none) ∧ ∀ p, valP ps k = some p → ∃ v, valV vs k = some v ∧ Rep K as F H v p
  | _, _, k, .nil => ⟨fun _ => rfl, fun _ h => by cases h⟩
  | (k1, v) :: vs, (k2, p) :: ps, k, .cons r t => by
    obtain ⟨e, rr⟩ := r
    simp only at e rr
    subst e
    unfold valP
    by_cases h : k1 = k
    · refine ⟨fun z => ?_, fun q z => ?_⟩
      · rw [if_pos h] at z; cases z
      · rw [if_pos h] at z; cases z
        exact ⟨v, valV_pos (p := (k1, v)) h, rr⟩
    · obtain ⟨i1, i2⟩ := valP_of k t
      refine ⟨fun z => ?_, fun q z => ?_⟩
      · rw [if_neg h] at z
        rw [valV_neg (p := (k1, v)) h]; exact i1 z
      · rw [if_neg h] at z
        obtain ⟨v', h1, h2⟩ := i2 q z
        exact ⟨v', by rw [valV_neg (p := (k1, v)) h]; exact h1, h2⟩
/-- x in y; None: not told -/
def inD (G : Glb) (st : Stor) (x y : PV) : Option Bool := match x, y with
  | .str a, .str b => if a.cps.size = 1 then some (decide (a.cps.getD 0 0 ∈ b.cps.toList)) else none
  | .str a, .kd d => (G.dicts.lookup d).map fun kvs => (kvs.lookup a).isSome
  | x, y => match seqA st y with
    | some ps => if flatP x && ps.all flatP then some (ps.any fun q => flatEq q x) else
      (match seqL st y, toDn 3 st x, toDn 3 st y with
        | some _, some d, some (.list ds) => if SeqAt.shaped d && SeqAt.shaped (.list ds) then some (ds.any fun z => eqvS z d) else none
        | _, _, _ => none)
    | none => match y, keyP x with
      | .ref l, some k => (match st[l]? with
        | some (.dct kvs) => some (valP kvs k).isSome
        | _ => none)
      | _, _ => none
def inOp (G : Glb) (neg : Bool) (x y : PV) : M PV := fun st => match inD G st x y with
  | some k => .ok (.bl (k != neg)) st
  | none => .bad
theorem one_sign {a : Str} (h : a.cps.size = 1) : a = ⟨#[a.cps.getD 0 0]⟩ := by
  obtain ⟨⟨l⟩⟩ := a
  match l, h with
  | [c], _ => rfl
theorem dict_get {K : PySem.W.Frag} {W : Wd} {H : Hp} {v : V} {l : Nat} {kvs : List (Key × PV)} (A : Ab K W H) (r : Rep K W.as W.F H v (.ref l)) (e : W.st[l]? = some (.dct kvs)) :
    ∃ a vs, v = .ref a ∧ W.as[l]? = some a ∧ H a = some (.dK vs) ∧ RepKV K W.as W.F H vs kvs := by
  cases r with
  | @ref a _ hl =>
    obtain ⟨u, h3, ro⟩ := A.obj l a _ hl e
    cases ro with
    | dct ro => exact ⟨a, _, rfl, hl, h3, ro⟩
theorem op_in_dk (hu : X.A.units + 1 < cLine) : OpR X (compareOp .In) (fun x y H Q => ∃ a o, y = .ref a ∧ DGet H a x o ∧ Q (.bl o.isSome) H) := by
  intro pins s σ H x y v u Q I rx ry h
  obtain ⟨a, o, rfl, g, q⟩ := h
  cases ry
  exact d_in hu I g rx fun s' I' => ⟨.bl _, H, I', rfl, q⟩
theorem op_notIn_dk (hu : X.A.units + 1 < cLine) : OpR X (compareOp .NotIn) (fun x y H Q => ∃ a o, y = .ref a ∧ DGet H a x o ∧ Q (.bl (!o.isSome)) H) := by
  intro pins s σ H x y v u Q I rx ry h
  obtain ⟨a, o, rfl, g, q⟩ := h
  cases ry
  exact d_notIn hu I g rx fun s' I' => ⟨.bl _, H, I', rfl, q⟩
theorem in_ok (C : CtxOk G X) : OpR X (compareOp .In) (r2 X.K E (inOp G false)) := by
  have hu := C.units
  refine OpR.by ?_
  rintro x y H Q ⟨W, p, q, A, rx, ry, P⟩
  unfold inOp at P
  split at P
  · rename_i k e
    have P' : Q (.bl k) H := by have P' := Post.here A P (.bl (k != false)); simpa using P'
    clear P
    unfold inD at e
    split at e
    · rename_i a b
      cases rx; cases ry
      split at e
      · rename_i h1
        cases e
        refine ⟨_, op_in_sign, a.cps.getD 0 0, b, ?_, rfl, P'⟩
        rw [← one_sign h1]
      · cases e
    · rename_i a d
      cases rx; cases ry
      obtain ⟨kvs, e1, e2⟩ := Option.map_eq_some_iff.mp e
      obtain ⟨es, n, D, look⟩ := C.glb.dict d kvs e1
      have hl := look a
      refine ⟨_, op_in_kd D, ?_⟩
      cases q : kvs.lookup a with
      | some p =>
        rw [q] at hl e2
        obtain ⟨v, u, h1, _⟩ := hl
        refine ⟨a, some u, rfl, rfl, h1, ?_⟩
        rw [show (some u).isSome = true from rfl]
        cases e2; exact P'
      | none =>
        rw [q] at hl e2
        refine ⟨a, none, rfl, rfl, hl, ?_⟩
        cases e2; exact P'
    · split at e
      · rename_i ps e1
        split at e
        · rename_i hf
          obtain ⟨f1, f2⟩ := Bool.and_eq_true_iff.mp hf
          obtain ⟨a, vs, rfl, hs, rs⟩ := seqA_ok A ry e1
          cases e
          refine ⟨_, op_in_seq, a, vs, rfl, hs, flat_of rx f1, flats_of rs f2, ?_⟩
          rw [inV_of rx f1 rs f2]
          exact P'
        · split at e
          · rename_i d ds e2 e3 e4
            split at e
            · rename_i hs
              obtain ⟨s1, s2⟩ := Bool.and_eq_true_iff.mp hs
              cases e
              exact ⟨_, op_inD (by omega), d, ds, toDn_ok A 3 rx e3, toDn_ok A 3 ry e4, s1, s2, by simpa only [eqvS_eq] using P'⟩
            · cases e
          · cases e
      · split at e
        · rename_i l k' ek _ _ _
          split at e
          · rename_i kvs e3
            obtain ⟨a, vs, rfl, _, h3, rk⟩ := dict_get A ry e3
            cases e
            refine ⟨_, op_in_dk (by omega), a, valV vs k', rfl, ?_, ?_⟩
            · rw [keyP_of rx ek]; exact DGet.k h3
            · obtain ⟨i1, i2⟩ := valP_of k' rk
              cases z : valP kvs k' with
              | none => rw [i1 z]; rw [z] at P'; exact P'
              | some p =>
                obtain ⟨v, h1, _⟩ := i2 p z
                rw [h1]; rw [z] at P'; exact P'
          · cases e
        · cases e
  · exact P.elim
theorem notIn_ok (C : CtxOk G X) : OpR X (compareOp .NotIn) (r2 X.K E (inOp G true)) := by
  have hu := C.units
  refine OpR.by ?_
  rintro x y H Q ⟨W, p, q, A, rx, ry, P⟩
  unfold inOp at P
  split at P
  · rename_i k e
    have P' : Q (.bl (!k)) H := by have P' := Post.here A P (.bl (k != true)); simpa using P'
    clear P
    unfold inD at e
    split at e
    · rename_i a b
      cases rx; cases ry
      split at e
      · rename_i h1
        cases e
        refine ⟨_, op_notIn_sign, a.cps.getD 0 0, b, ?_, rfl, P'⟩
        rw [← one_sign h1]
      · cases e
    · rename_i a d
      cases rx; cases ry
      obtain ⟨kvs, e1, e2⟩ := Option.map_eq_some_iff.mp e
      obtain ⟨es, n, D, look⟩ := C.glb.dict d kvs e1
      have hl := look a
      refine ⟨_, op_notIn_kd D, ?_⟩
      cases q : kvs.lookup a with
      | some p =>
        rw [q] at hl e2
        obtain ⟨v, u, h1, _⟩ := hl
        refine ⟨a, some u, rfl, rfl, h1, ?_⟩
        rw [show (some u).isSome = true from rfl]
        cases e2; exact P'
      | none =>
        rw [q] at hl e2
        refine ⟨a, none, rfl, rfl, hl, ?_⟩
        cases e2; exact P'
    · split at e
      · rename_i ps e1
        split at e
        · rename_i hf
          obtain ⟨f1, f2⟩ := Bool.and_eq_true_iff.mp hf
          obtain ⟨a, vs, rfl, hs, rs⟩ := seqA_ok A ry e1
          cases e
          refine ⟨_, op_notIn_seq, a, vs, rfl, hs, flat_of rx f1, flats_of rs f2, ?_⟩
          rw [inV_of rx f1 rs f2]
          exact P'
        · split at e
          · rename_i d ds e2 e3 e4
            split at e
            · rename_i hs
              obtain ⟨s1, s2⟩ := Bool.and_eq_true_iff.mp hs
              cases e
              exact ⟨_, op_notInD (by omega), d, ds, toDn_ok A 3 rx e3, toDn_ok A 3 ry e4, s1, s2, by simpa only [eqvS_eq] using P'⟩
            · cases e
          · cases e
      · split at e
        · rename_i l k' ek _ _ _
          split at e
          · rename_i kvs e3
            obtain ⟨a, vs, rfl, _, h3, rk⟩ := dict_get A ry e3
            cases e
            refine ⟨_, op_notIn_dk (by omega), a, valV vs k', rfl, ?_, ?_⟩
            · rw [keyP_of rx ek]; exact DGet.k h3
            · obtain ⟨i1, i2⟩ := valP_of k' rk
              cases z : valP kvs k' with
              | none => rw [i1 z]; rw [z] at P'; exact P'
              | some p =>
                obtain ⟨v, h1, _⟩ := i2 p z
                rw [h1]; rw [z] at P'; exact P'
          · cases e
        · cases e
  · exact P.elim

inductive COp where
  | lt | le | gt | ge | eq | ne | isin | notin
def COp.op : COp → CmpOp
  | .lt => .Lt | .le => .LtE | .gt => .Gt | .ge => .GtE | .eq => .Eq | .ne => .NotEq | .isin => .In | .notin => .NotIn
def COp.f (G : Glb) : COp → PV → PV → M PV
  | .lt => cmpI fun i j => decide (i < j)
  | .le => cmpI fun i j => decide (i ≤ j)
  | .gt => cmpI fun i j => decide (j < i)
  | .ge => cmpI fun i j => decide (j ≤ i)
  | .eq => eqV false | .ne => eqV true | .isin => inOp G false | .notin => inOp G true
theorem cmp_ok (C : CtxOk G X) (o : COp) : OpR X (compareOp o.op) (r2 X.K E (o.f G)) := by
  have hu := C.units
  cases o
  · exact cmpI_ok op_lt
  · exact cmpI_ok op_le
  · exact cmpI_ok op_gt
  · exact cmpI_ok op_ge
  · exact eq_ok (by omega)
  · exact ne_ok (by omega)
  · exact in_ok C
  · exact notIn_ok C
end
end PL

/-! PL, part D: subscripts, slices, built-ins, methods. -/
namespace PL
open PySem PySem.Spec PyProof.Rows L2
section
variable {X : Cx} {E : XK} {G : Glb}

/-! ### subscripts -/
theorem IxR.by {r' : R2} (i : ∀ x y H Q, r' x y H Q → ∃ r, IxR X r ∧ r x y H Q) : IxR X r' :=
  fun value slice pins s σ H x y v u Q I rx ry q hs => by
    obtain ⟨r, h, z⟩ := i _ _ _ _ q
    exact h value slice pins s σ H x y v u Q I rx ry z hs
theorem atI_rep {K : PySem.W.Frag} {as F : List Addr} {H : Hp} {vs : List V} {ps : List PV} {i : Int} {p : PV} (r : RepL K as F H vs ps) (h : atI ps i = some p) : ∃ v, atI vs i = some v ∧ Rep K as F H v p := by
  unfold atI at h ⊢
  rw [r.length]
  cases e : ixN ps.length i with
  | none => rw [e] at h; cases h
  | some j =>
    rw [e] at h
    exact r.get (show ps[j]? = some p from h)
def ixD (G : Glb) (st : Stor) (a i : PV) : Option PV := match a, i with
  | .kd d, .str z => (G.dicts.lookup d).bind fun kvs => kvs.lookup z
  | .str z, .int i => if z.length ≤ sizeLine then (atI z.cps.toList i).map fun c => .str ⟨#[c]⟩ else none
  | .ref l, i => match st[l]?, i with
    | some (.lst xs), .int i => atI xs i
    | some (.dct kvs), i => (keyP i).bind fun k => valP kvs k
    | _, _ => none
  | a, .int i => (seqA st a).bind fun xs => atI xs i
  | _, _ => none
def ixV (G : Glb) (a i : PV) : M PV := fun st => match ixD G st a i with
  | some p => .ok p st
  | none => .bad
theorem ix_dk (hu : X.A.units + 1 < cLine) : IxR X (fun x y H Q => ∃ a v, x = .ref a ∧ DGet H a y (some v) ∧ Q v H) := by
  intro value slice pins s σ H x y v u Q I rx ry h hs
  obtain ⟨a, v', rfl, g, q⟩ := h
  cases rx
  exact tail_any (dict_typeIs I g) slot_dict_getitem.lookup (d_getItem hu I g ry fun w' s' I' r => ⟨v', H, I', r, q⟩) hs
theorem ix_ok (C : CtxOk G X) : IxR X (r2 X.K E (ixV G)) := by
  have hu := C.units
  refine IxR.by ?_
  rintro x y H Q ⟨W, p, q, A, rx, ry, P⟩
  unfold ixV at P
  split at P
  · rename_i e0 e
    have lists : ∀ (a : PV) (i : Int), Rep X.K W.as W.F H x a → y = .int i → (seqA W.st a).bind (fun xs => atI xs i) = some e0 → ∃ r, IxR X r ∧ r x y H Q := by
      intro a i ra hy h
      obtain ⟨xs, e1, e2⟩ := Option.bind_eq_some_iff.mp h
      obtain ⟨b, vs, rfl, hs, rs⟩ := seqA_ok A ra e1
      obtain ⟨v, h1, h2⟩ := atI_rep rs e2
      refine ⟨_, ix_seq, ?_⟩
      rcases hs with hs | hs
      · exact .inl ⟨b, vs, i, v, rfl, hy, hs, h1, Post.here A P h2⟩
      · exact .inr (.inl ⟨b, vs, i, v, rfl, hy, hs, h1, Post.here A P h2⟩)
    unfold ixD at e
    split at e
    · rename_i d z
      cases rx; cases ry
      obtain ⟨kvs, e1, e2⟩ := Option.bind_eq_some_iff.mp e
      obtain ⟨es, n, D, look⟩ := C.glb.dict d kvs e1
      have hl := look z
      rw [e2] at hl
      obtain ⟨v, u, h1, h2, h3⟩ := hl
      exact ⟨_, ix_kdict, _, z, v, rfl, rfl, ⟨es, n, u, D.at_, D.lit, h1, h2⟩, Post.here A P (h3 _ _ _)⟩
    · rename_i z i
      cases rx; cases ry
      split at e
      · rename_i hz
        obtain ⟨c, e1, rfl⟩ := Option.map_eq_some_iff.mp e
        exact ⟨_, ix_str, z, i, c, rfl, rfl, hz, e1, Post.here A P (.str _)⟩
      · cases e
    · rename_i l
      split at e
      · rename_i xs i e1
        cases ry
        refine lists (.ref l) i rx rfl ?_
        simp only [seqA, seqL, seqM, e1]
        exact e
      · rename_i kvs _ e1
        obtain ⟨a, vs, rfl, _, h3, rk⟩ := dict_get A rx e1
        obtain ⟨k, e2, e3⟩ := Option.bind_eq_some_iff.mp e
        obtain ⟨i1, i2⟩ := valP_of k rk
        obtain ⟨v, h1, h2⟩ := i2 _ e3
        refine ⟨_, ix_dk (by omega), a, v, rfl, ?_, Post.here A P h2⟩
        rw [keyP_of ry e2, ← h1]
        exact DGet.k h3
      · cases e
    · rename_i a i _ _ _
      cases ry
      exact lists _ _ rx rfl e
    · cases e
  · exact P.elim

/-! ### slices -/
def cutP (xs : List PV) (lo hi : Option Int) : List PV := (xs.drop (HT.sIx xs.length 0 lo)).take (HT.sIx xs.length xs.length hi - HT.sIx xs.length 0 lo)
theorem cut_rep {K : PySem.W.Frag} {as F : List Addr} {H : Hp} {vs : List V} {ps : List PV} (lo hi : Option Int) (r : RepL K as F H vs ps) : RepL K as F H (cutV vs lo hi) (cutP ps lo hi) := by
  unfold cutV cutP
  rw [r.length]
  exact (r.drop _).take _
def slV (nw : Bool) (a : PV) (lo hi : Option Int) : M PV := fun st => match a with
  | .str z => if z.length ≤ sizeLine then .ok (.str (Txt.slice z lo hi)) st else .bad
  | .tup xs => mkT (cutP xs lo hi) st
  | a => match seqL st a with
    | some xs => mkL nw (cutP xs lo hi) st
    | none => .bad
def rS (K : PySem.W.Frag) (E : XK) (f : PV → Option Int → Option Int → M PV) : V → Option Int → Option Int → Hp → VK → Prop :=
  fun x lo hi H Q => ∃ W p, Ab K W H ∧ Rep K W.as W.F H x p ∧ Post K E (RV K) W H (f p lo hi W.st) Q
theorem SlR.by {r' : V → Option Int → Option Int → Hp → VK → Prop} (i : ∀ x lo hi H Q, r' x lo hi H Q → ∃ r, SlR X r ∧ r x lo hi H Q) : SlR X r' :=
  fun pins s σ H x v vl vu lo hi sl Q I rx hs pl pu q => by
    obtain ⟨r, h, z⟩ := i _ _ _ _ _ q
    exact h pins s σ H x v vl vu lo hi sl Q I rx hs pl pu z
theorem cut_whole {xs : List PV} {lo hi : Option Int} (h : HT.sIx xs.length 0 lo = 0 ∧ HT.sIx xs.length xs.length hi = xs.length) : cutP xs lo hi = xs := by
  unfold cutP
  rw [h.1, h.2]
  simp
theorem sl_ok {nw : Bool} : SlR X (rS X.K E (slV nw)) := by
  refine SlR.by ?_
  rintro x lo hi H Q ⟨W, p, A, rx, P⟩
  unfold slV at P
  split at P
  · rename_i z
    cases rx
    split at P
    · rename_i hz
      exact ⟨_, C8.sl_txt, z, rfl, hz, Post.here A P (.str _)⟩
    · exact P.elim
  · rename_i xs
    obtain ⟨a, vs, rfl, hs, rs⟩ := seqT_ok rx rfl
    obtain ⟨_, k⟩ := new_tup A (cut_rep lo hi rs) P
    refine ⟨_, sl_tupA, a, vs, rfl, hs, fun hw => ?_, fun _ => k⟩
    rw [rs.length] at hw
    rw [cut_whole hw] at P
    unfold mkT at P
    split at P
    · exact Post.here A P rx
    · exact P.elim
  · split at P
    · rename_i xs e
      obtain ⟨a, vs, rfl, hs, rs⟩ := seqL_ok A rx e
      obtain ⟨_, k⟩ := new_lst A (cut_rep lo hi rs) P
      exact ⟨_, sl_list, a, vs, rfl, hs, k⟩
    · exact P.elim

/-! ### built-ins -/
theorem CallR.by {f : Value} {r' : List V → Hp → VK → Prop} (i : ∀ xs H Q, r' xs H Q → ∃ r, CallR X f r ∧ r xs H Q) : CallR X f r' :=
  fun pins s σ H xs us Q I r q => by
    obtain ⟨r', h, z⟩ := i _ _ _ q
    exact h pins s σ H xs us Q I r z
theorem rep1 {K : PySem.W.Frag} {as F : List Addr} {H : Hp} {vs : List V} {p : PV} (r : RepL K as F H vs [p]) : ∃ v, vs = [v] ∧ Rep K as F H v p := by
  cases r with
  | cons h t => cases t; exact ⟨_, rfl, h⟩
theorem rep2 {K : PySem.W.Frag} {as F : List Addr} {H : Hp} {vs : List V} {p q : PV} (r : RepL K as F H vs [p, q]) : ∃ v u, vs = [v, u] ∧ Rep K as F H v p ∧ Rep K as F H u q := by
  cases r with
  | cons h t =>
    obtain ⟨u, rfl, h2⟩ := rep1 t
    exact ⟨_, _, rfl, h, h2⟩
def lenD (st : Stor) : PV → Option Nat
  | .str z => if z.length ≤ sizeLine then some z.length else none
  | .ref l => match st[l]? with
    | some (.lst xs) => some xs.length
    | some (.dct kvs) => some kvs.length
    | _ => none
  | p => (seqA st p).map (·.length)
def lenV (ps : List PV) : M PV := fun st => match ps with
  | [p] => (match lenD st p with
    | some n => .ok (.int n) st
    | none => .bad)
  | _ => .bad
theorem len_ok : CallR X (.builtin "len") (rN X.K E lenV) := by
  refine CallR.by ?_
  rintro xs H Q ⟨W, ps, A, rs, P⟩
  unfold lenV at P
  split at P
  · rename_i p
    obtain ⟨v, rfl, rx⟩ := rep1 rs
    split at P
    · rename_i n e
      have P' := Post.here A P (.int n)
      have seqs : ∀ ys, seqA W.st p = some ys → ys.length = n → ∃ r, CallR X (.builtin "len") r ∧ r [v] H Q := by
        intro ys e1 e2
        obtain ⟨a, vs, rfl, hs, rr⟩ := seqA_ok A rx e1
        refine ⟨_, call_len_seq, a, vs, rfl, hs, ?_⟩
        rw [rr.length, e2]; exact P'
      unfold lenD at e
      split at e
      · rename_i z
        cases rx
        split at e
        · rename_i hz
          cases e
          exact ⟨_, call_len_str, z, rfl, hz, P'⟩
        · cases e
      · rename_i l
        split at e
        · rename_i ys e1
          refine seqs ys ?_ (Option.some.inj e)
          simp only [seqA, seqL, seqM, e1]
        · rename_i kvs e1
          obtain ⟨a, vs, rfl, _, h3, rk⟩ := dict_get A rx e1
          cases e
          refine ⟨_, call_lenD, a, vs, rfl, h3, ?_⟩
          have : vs.length = kvs.length := Paired.length rk
          rw [this]; exact P'
        · cases e
      · obtain ⟨ys, e1, e2⟩ := Option.map_eq_some_iff.mp e
        exact seqs ys e1 e2
    · exact P.elim
  · exact P.elim
def absV' (ps : List PV) : M PV := fun st => match ps with
  | [.int i] => .ok (.int (if i < 0 then -i else i)) st
  | _ => .bad
theorem abs_ok : CallR X (.builtin "abs") (rN X.K E absV') := by
  refine CallR.by ?_
  rintro xs H Q ⟨W, ps, A, rs, P⟩
  unfold absV' at P
  split at P
  · obtain ⟨v, rfl, rx⟩ := rep1 rs
    cases rx
    exact ⟨_, call_abs, _, rfl, Post.here A P (.int _)⟩
  · exact P.elim
def bools : List PV → Option (List Bool)
  | [] => some []
  | .bl b :: r => (bools r).map (b :: ·)
  | _ :: _ => none
theorem bools_ok {K : PySem.W.Frag} {as F : List Addr} {H : Hp} : ∀ {ps : List PV} {vs : List V} {bs : List Bool}, RepL K as F H vs ps → bools ps = some bs → vs = bs.map V.bl
  | [], _, _, .nil, h => by cases h; rfl
  | p :: ps, _, bs, .cons r t, h => by
    unfold bools at h
    split at h
    · rename_i e; cases e
    · rename_i b r' e
      injection e with e1 e2
      subst e1 e2
      obtain ⟨bs', e3, rfl⟩ := Option.map_eq_some_iff.mp h
      cases r
      rw [bools_ok t e3]; rfl
    · cases h
def allV (any : Bool) (ps : List PV) : M PV := fun st => match ps with
  | [p] => (match (seqL st p).bind bools with
    | some bs => .ok (.bl (if any then bs.any id else bs.all id)) st
    | none => .bad)
  | _ => .bad
theorem all_ok (hc : X.calm = true) : CallR X (.builtin "all") (rN X.K E (allV false)) := by
  refine CallR.by ?_
  rintro xs H Q ⟨W, ps, A, rs, P⟩
  unfold allV at P
  split at P
  · obtain ⟨v, rfl, rx⟩ := rep1 rs
    split at P
    · rename_i bs e
      obtain ⟨ys, e1, e2⟩ := Option.bind_eq_some_iff.mp e
      obtain ⟨a, vs, rfl, hs, rr⟩ := seqL_ok A rx e1
      refine ⟨_, cr_all hc, a, bs, rfl, ?_, Post.here A P (.bl _)⟩
      rw [← bools_ok rr e2]; exact hs
    · exact P.elim
  · exact P.elim
theorem any_ok (hc : X.calm = true) : CallR X (.builtin "any") (rN X.K E (allV true)) := by
  refine CallR.by ?_
  rintro xs H Q ⟨W, ps, A, rs, P⟩
  unfold allV at P
  split at P
  · obtain ⟨v, rfl, rx⟩ := rep1 rs
    split at P
    · rename_i bs e
      obtain ⟨ys, e1, e2⟩ := Option.bind_eq_some_iff.mp e
      obtain ⟨a, vs, rfl, hs, rr⟩ := seqL_ok A rx e1
      refine ⟨_, cr_any hc, a, bs, rfl, ?_, Post.here A P (.bl _)⟩
      rw [← bools_ok rr e2]; exact hs
    · exact P.elim
  · exact P.elim
def intsP : List PV → Option (List Int)
  | [] => some []
  | .int b :: r => (intsP r).map (b :: ·)
  | _ :: _ => none
theorem intsP_ok {K : PySem.W.Frag} {as F : List Addr} {H : Hp} : ∀ {ps : List PV} {vs : List V} {bs : List Int}, RepL K as F H vs ps → intsP ps = some bs → vs = bs.map V.int
  | [], _, _, .nil, h => by cases h; rfl
  | p :: ps, _, bs, .cons r t, h => by
    unfold intsP at h
    split at h
    · rename_i e; cases e
    · rename_i b r' e
      injection e with e1 e2
      subst e1 e2
      obtain ⟨bs', e3, rfl⟩ := Option.map_eq_some_iff.mp h
      cases r
      rw [intsP_ok t e3]; rfl
    · cases h
def sumV (ps : List PV) : M PV := fun st => match ps with
  | [p] => (match (seqL st p).bind intsP with
    | some bs => .ok (.int bs.sum) st
    | none => .bad)
  | _ => .bad
theorem sum_ok (hc : X.calm = true) : CallR X (.builtin "sum") (rN X.K E sumV) := by
  refine CallR.by ?_
  rintro xs H Q ⟨W, ps, A, rs, P⟩
  unfold sumV at P
  split at P
  · obtain ⟨v, rfl, rx⟩ := rep1 rs
    split at P
    · rename_i bs e
      obtain ⟨ys, e1, e2⟩ := Option.bind_eq_some_iff.mp e
      obtain ⟨a, vs, rfl, hs, rr⟩ := seqL_ok A rx e1
      refine ⟨_, cr_sum hc, a, bs, rfl, ?_, Post.here A P (.int _)⟩
      rw [← intsP_ok rr e2]; exact hs
    · exact P.elim
  · exact P.elim
def tupleV (ps : List PV) : M PV := fun st => match ps with
  | [.tup xs] => .ok (.tup xs) st
  | [p] => (match seqL st p with
    | some xs => mkT xs st
    | none => .bad)
  | _ => .bad
theorem tuple_ok : CallR X (.type "tuple") (rN X.K E tupleV) := by
  refine CallR.by ?_
  rintro xs H Q ⟨W, ps, A, rs, P⟩
  unfold tupleV at P
  split at P
  · obtain ⟨v, rfl, rx⟩ := rep1 rs
    obtain ⟨a, vs, rfl, hs, rr⟩ := seqT_ok rx rfl
    exact ⟨_, call_tuple_of, a, vs, rfl, .inr ⟨hs, Post.here A P rx⟩⟩
  · obtain ⟨v, rfl, rx⟩ := rep1 rs
    split at P
    · rename_i ys e
      obtain ⟨a, vs, rfl, hs, rr⟩ := seqL_ok A rx e
      obtain ⟨_, k⟩ := new_tup A rr P
      exact ⟨_, call_tuple_of, a, vs, rfl, .inl ⟨hs, k⟩⟩
    · exact P.elim
  · exact P.elim
def listV (nw : Bool) (ps : List PV) : M PV := fun st => match ps with
  | [p] => (match seqA st p with
    | some xs => mkL nw xs st
    | none => .bad)
  | _ => .bad
theorem list_ok {nw : Bool} : CallR X (.type "list") (rN X.K E (listV nw)) := by
  refine CallR.by ?_
  rintro xs H Q ⟨W, ps, A, rs, P⟩
  unfold listV at P
  split at P
  · obtain ⟨v, rfl, rx⟩ := rep1 rs
    split at P
    · rename_i ys e
      obtain ⟨a, vs, rfl, hs, rr⟩ := seqA_ok A rx e
      obtain ⟨_, k⟩ := new_lst A rr P
      exact ⟨_, call_list_of, a, vs, rfl, hs, k⟩
    · exact P.elim
  · exact P.elim
def numStr (i : Int) : Str := Str.ofString (toString i)
def strV (ps : List PV) : M PV := fun st => match ps with
  | [.int i] => if i.natAbs.log2 < 1920 then .ok (.str (numStr i)) st else .bad
  | [.str x] => .ok (.str x) st
  | _ => .bad
theorem str_ok : CallR X (.type "str") (rN X.K E strV) := by
  refine CallR.by ?_
  rintro xs H Q ⟨W, ps, A, rs, P⟩
  unfold strV at P
  split at P
  · rename_i i
    obtain ⟨v, rfl, rx⟩ := rep1 rs
    cases rx
    split at P
    · rename_i h
      exact ⟨_, call_str_int, i, rfl, h, Post.here A P (.str _)⟩
    · exact P.elim
  · rename_i x
    obtain ⟨v, rfl, rx⟩ := rep1 rs
    cases rx
    exact ⟨_, SkE.call_str_str, x, rfl, Post.here A P (.str _)⟩
  · exact P.elim
def intV (ps : List PV) : M PV := fun st => match ps with
  | [.int i] => .ok (.int i) st
  | [.bl b] => .ok (.int (if b then 1 else 0)) st
  | [.str x] => if x.length ≤ 640 then (match PySem.intText? x with
    | some n => .ok (.int n) st
    | none => .bad) else .bad
  | _ => .bad
theorem int_ok : CallR X (.type "int") (rN X.K E intV) := by
  refine CallR.by ?_
  rintro xs H Q ⟨W, ps, A, rs, P⟩
  unfold intV at P
  split at P
  · rename_i i
    obtain ⟨v, rfl, rx⟩ := rep1 rs
    cases rx
    exact ⟨_, call_int1, .inl ⟨i, rfl, Post.here A P (.int _)⟩⟩
  · rename_i b
    obtain ⟨v, rfl, rx⟩ := rep1 rs
    cases rx
    exact ⟨_, call_int1, .inr ⟨b, rfl, Post.here A P (.int _)⟩⟩
  · rename_i x
    obtain ⟨v, rfl, rx⟩ := rep1 rs
    cases rx
    split at P
    · rename_i hl
      split at P
      · rename_i n e
        exact ⟨_, call_int_str, x, n, rfl, e, hl, Post.here A P (.int _)⟩
      · exact P.elim
    · exact P.elim
  · exact P.elim
end
end PL

/-! PL, part E: methods of built-in types. -/
namespace PL
open PySem PySem.Spec PyProof.Rows L2
section
variable {X : Cx} {E : XK} {G : Glb}
/-- a value of a built-in type, for its methods -/
def tyW (P : Program) (w : World) (K : PySem.W.Frag) (T : String) (x : V) (H : Hp) : Prop := tyV K T x H ∨ (T = "dict" ∧ ∃ a es n, x = .ref a ∧ KDict K w a es n)
theorem tyW_is {pins : List (Addr × Obj)} {σ : L2.St} {H : Hp} {s : Shared} {T : String} {x : V} {v : Value} (I : Inv X pins σ H s) (r : RelV x v) (ty : tyW X.prog X.w X.K T x H) :
    s.TypeIs v T ∧ ∀ a, v = .ref a → ∃ ob, s.heap.get? a = some ob ∧ ob.dict = none := by
  rcases ty with ty | ⟨rfl, a, es, n, rfl, D⟩
  · exact tyV_is I r ty
  · cases r
    refine ⟨kd_type D I, fun b e => ?_⟩
    cases e
    exact ⟨_, I.kIn _ _ D.at_, rfl⟩
structure MOk (T : String) (name : Str) (id : String) : Prop where
  pa : PlainAttrs T
  slot : Slot T name id
  ty : typeOf (.builtin id) = pure (.type "method_descriptor")
def tM (P : Program) (w : World) (K : PySem.W.Frag) (T : String) (r : V → List V → Hp → VK → Prop) (to : TE) (t : TA) : TE := fun σ H Q => to σ H fun x H1 => tyW P w K T x H1 ∧ t σ H1 fun xs H2 => r x xs H2 Q
theorem pe_mt {o e : Expr} {es : List Expr} {to : TE} {t : TA} {name : Str} {apos cpos : Pos} {T id : String} {r : V → List V → Hp → VK → Prop} (ok : MOk T name id) (hm : MtR X id r) (ho : PE X o to) (ha : PA X (e :: es) t)
    (hbase : attributeBase o name X.env (eval o X.env) = eval o X.env)
    (hfew : ((backTo cpos (starEach (e :: es) X.env)).all (fun x => !x.1) && (backToKw cpos (keywordEach [] X.env)).all (fun x => x.1.isSome)
      && decide ((e :: es).length + ([] : List Keyword).length + (if ([] : List Keyword).isEmpty then 0 else 1) < 30)) = true)
    (hline : (apos.endLine == cpos.line) = true) (hs : starEach (e :: es) X.env = (false, eval e X.env) :: starEach es X.env) (hplain : (backTo cpos (starEach es X.env)).any (·.1) = false) :
    PE X (.Call (.Attribute o name apos) (e :: es) [] cpos) (tM X.prog X.w X.K T r to t) := by
  refine ⟨fun pins s σ H Q I h => wpAny_Call_method_late hbase hfew hline rfl (thn (ho.run pins s σ H _ I h) ?_)⟩
  rintro v s1 ⟨x, H1, I1, rx, ty, q1⟩
  have h12 := tyW_is I1 rx ty
  have hA := ha.run cpos pins s1 σ H1 _ I1 q1
  rw [hs] at hA
  refine ⟨T, id, ok.pa, ok.slot, ok.ty, h12.1, h12.2, ?_⟩
  rw [hs]
  have np : ((false, eval e X.env) :: backTo cpos (starEach es X.env)).any (·.1) = false := by rw [List.any_cons, hplain]; rfl
  exact Calls.callWith_builtin np (Calls.evalArgs_plain (thn hA fun us s2 ⟨vs, H2, I2, rv, q2⟩ => hm pins s2 σ H2 x vs v us Q I2 rx rv q2))

theorem MtR.by {id : String} {r' : V → List V → Hp → VK → Prop} (i : ∀ x xs H Q, r' x xs H Q → ∃ r, MtR X id r ∧ r x xs H Q) : MtR X id r' :=
  fun pins s σ H x xs v us Q I rx rv q => by
    obtain ⟨r, h, z⟩ := i _ _ _ _ q
    exact h pins s σ H x xs v us Q I rx rv z

/-! ### lists -/
theorem lst_get {K : PySem.W.Frag} {W : Wd} {H : Hp} {v : V} {l : Nat} {xs : List PV} (A : Ab K W H) (r : Rep K W.as W.F H v (.ref l)) (e : W.st[l]? = some (.lst xs)) :
    ∃ a vs, v = .ref a ∧ W.as[l]? = some a ∧ H a = some (.lst vs) ∧ RepL K W.as W.F H vs xs := by
  cases r with
  | @ref a _ hl =>
    obtain ⟨u, h3, ro⟩ := A.obj l a _ hl e
    cases ro with
    | lst ro => exact ⟨a, _, rfl, hl, h3, ro⟩
def appendV (o : PV) (ps : List PV) : M PV := fun st => match o, ps with
  | .ref l, [p] => (match st[l]? with
    | some (.lst xs) => if xs.length < sizeLine then .ok .non (st.set l (.lst (xs ++ [p]))) else .bad
    | _ => .bad)
  | _, _ => .bad
/-- a place of the store changed: the end of a deed -/
theorem Post.put {K : PySem.W.Frag} {W : Wd} {H : Hp} {Q : VK} {l : Nat} {a : Addr} {u : HO} {o : PO} {p : PV} {v : V} (A : Ab K W H) (hl : W.as[l]? = some a) (r : RepO K W.as W.F H u o)
    (P : Post K E (RV K) W H (.ok p (W.st.set l o)) Q) (hv : ∀ as F H, Rep K as F H v p) : Q v (upd H a u) := by
  obtain ⟨A', e⟩ := A.put hl r
  exact P (W.put l o) _ v rfl A' e (hv _ _ _)
theorem append_ok : MtR X "list.append" (rM X.K E appendV) := by
  refine MtR.by ?_
  rintro x xs H Q ⟨W, p, ps, A, rx, rs, P⟩
  unfold appendV at P
  split at P
  · rename_i l q
    obtain ⟨v, rfl, rq⟩ := rep1 rs
    split at P
    · rename_i ys e
      split at P
      · rename_i hz
        obtain ⟨a, vs, rfl, hl, h3, rr⟩ := lst_get A rx e
        refine ⟨_, mt_append, a, vs, v, rfl, rfl, h3, by rw [rr.length]; exact hz, Post.put A hl (.lst (rr.append (.cons rq .nil))) P fun _ _ _ => .non⟩
      · exact P.elim
    · exact P.elim
  · exact P.elim
theorem extend_tup (l : Addr) (items : Array Value) (n : Nat) (b : Addr) (items2 : Array Value) (n2 : Nat) (dd : Option Addr) (sl : Array (Option Value)) (hs0 : ¬(!items.isEmpty && Builtin.List.listTooLong (items.size + items2.size)) = true) (hs1 : items.size ≤ sizeLine)
    (hs2 : items.size + items2.size ≤ sizeLine + 1) :
    Meets (Builtin.«list.extend» ⟨[.ref l, .ref b], []⟩) (fun _ R s => s.heap.get? l = some { cls := .type "list", dict := none, data := .seq items n, slots := #[] } ∧ s.heap.get? b = some { cls := .type "tuple", dict := dd, data := .seq items2 n2, slots := sl } ∧
      R (.ok (.ret Value.none)) { s with heap := s.heap.update l (Obj.mapSeq fun x => x ++ items2), toks := s.toks }) := by
  refine .of_wp fun prog w A R s h => ?_
  obtain ⟨hp, g, d, tk, os⟩ := s
  obtain ⟨hl, hb, h⟩ := h
  have f1 := AutoSeq1.idx_int
  have f2 := AutoSeq1.sub_tuple_tuple
  have f3 := AutoSeq1.sub_list_list
  have f4 := AutoSeq1.sub_tuple_list
  have f5 := AutoSeq1.sub_list_tuple
  have hz : (items ++ items2).size ≤ sizeLine + 1 := by rw [Array.size_append]; exact hs2
  wp_walk using (wpAny_updateSeq hl rfl (hz := hs1) (_hz' := hz)), wpAny_loadPart' hl, wpAny_loadPart' hb
  exact ⟨_, rfl, h⟩
theorem mt_extendT : MtR X "list.extend" (fun x vs H Q => ∃ l b xs zs, x = .ref l ∧ vs = [.ref b] ∧ H l = some (.lst xs) ∧ SqT X.K H b zs ∧ xs.length + zs.length ≤ sizeLine ∧ Q .non (upd H l (.lst (xs ++ zs)))) := by
  rintro pins s σ H x vs v us Q I rx rv ⟨l, b, xs, zs, rfl, rfl, hH, hB, hz, q⟩
  cases rx
  obtain ⟨u, rfl, ru⟩ := rv.one
  cases ru
  obtain ⟨z, its, n, r, hl, e⟩ := I.lstM hH
  obtain ⟨its2, r2, ⟨o2, e2, c2, n2, d2⟩, z2⟩ := I.tuple hB
  have l2 := r2.length
  obtain ⟨oc, od, dt, sl⟩ := o2
  simp only at c2 d2
  subst c2 d2
  have hsz : its.toArray.size + its2.toArray.size ≤ sizeLine := by simp only [List.size_toArray]; omega
  have hlong : ¬ (!its.toArray.isEmpty && Builtin.List.listTooLong (its.toArray.size + its2.toArray.size)) = true := by rw [notLongL hsz, Bool.and_false]; exact Bool.false_ne_true
  refine call_meets F.slot_list_extend ⟨_, e, rfl⟩ F.entry_list_extend (F.args_list_extend_2 _ _)
    (extend_tup l its.toArray n b its2.toArray n2 od sl hlong (by simp only [List.size_toArray]; omega) (by omega)) ⟨e, e2, ?_⟩
  exact ⟨.non, _, I.lset (its' := its ++ its2) hH e (by simp) (r.append r2) (by rw [List.length_append]; omega), rfl, q⟩
def extendV (o : PV) (ps : List PV) : M PV := fun st => match o, ps with
  | .ref l, [p] => (match st[l]?, (match p with | .tup ys => some ys | p => seqM st p) with
    | some (.lst xs), some ys => if xs.length + ys.length ≤ sizeLine then .ok .non (st.set l (.lst (xs ++ ys))) else .bad
    | _, _ => .bad)
  | _, _ => .bad
theorem extend_ok : MtR X "list.extend" (rM X.K E extendV) := by
  refine MtR.by ?_
  rintro x xs H Q ⟨W, p, ps, A, rx, rs, P⟩
  unfold extendV at P
  split at P
  · rename_i l q
    obtain ⟨v, rfl, rq⟩ := rep1 rs
    split at P
    · rename_i ys zs e e2
      split at P
      · rename_i hz
        obtain ⟨a, vs, rfl, hl, h3, rr⟩ := lst_get A rx e
        split at e2
        · rename_i ws
          cases e2
          obtain ⟨b, us, rfl, hs, rr2⟩ := seqT_ok rq rfl
          exact ⟨_, mt_extendT, a, b, vs, us, rfl, rfl, h3, hs, by rw [rr.length, rr2.length]; exact hz, Post.put A hl (.lst (rr.append rr2)) P fun _ _ _ => .non⟩
        · obtain ⟨b, us, rfl, h4, rr2⟩ := seqM_ok A rq e2
          exact ⟨_, mt_extend, a, b, vs, us, rfl, rfl, h3, h4, by rw [rr.length, rr2.length]; exact hz, Post.put A hl (.lst (rr.append rr2)) P fun _ _ _ => .non⟩
      · exact P.elim
    · exact P.elim
  · exact P.elim

/-! ### texts -/
def texts : List PV → Option (List Str)
  | [] => some []
  | .str x :: r => (texts r).map (x :: ·)
  | _ :: _ => none
theorem texts_ok {K : PySem.W.Frag} {as F : List Addr} {H : Hp} : ∀ {ps : List PV} {vs : List V} {bs : List Str}, RepL K as F H vs ps → texts ps = some bs → vs = bs.map V.str
  | [], _, _, .nil, h => by cases h; rfl
  | p :: ps, _, bs, .cons r t, h => by
    unfold texts at h
    split at h
    · rename_i e; cases e
    · rename_i b r' e
      injection e with e1 e2
      subst e1 e2
      obtain ⟨bs', e3, rfl⟩ := Option.map_eq_some_iff.mp h
      cases r
      rw [texts_ok t e3]; rfl
    · cases h
def joinV (o : PV) (ps : List PV) : M PV := fun st => match o, ps with
  | .str a, [p] => (match (seqA st p).bind texts with
    | some ys => if (ys.map (·.length)).sum + ys.length * a.length ≤ 16777216 then .ok (.str (Txt.join a ys)) st else .bad
    | none => .bad)
  | _, _ => .bad
theorem join_ok : MtR X "str.join" (rM X.K E joinV) := by
  refine MtR.by ?_
  rintro x xs H Q ⟨W, p, ps, A, rx, rs, P⟩
  unfold joinV at P
  split at P
  · rename_i a q
    cases rx
    obtain ⟨v, rfl, rq⟩ := rep1 rs
    split at P
    · rename_i ys e
      obtain ⟨zs, e1, e2⟩ := Option.bind_eq_some_iff.mp e
      obtain ⟨b, vs, rfl, hs, rr⟩ := seqA_ok A rq e1
      split at P
      · rename_i hz
        refine ⟨_, mt_join, a, b, ys, rfl, rfl, ?_, hz, Post.here A P (.str _)⟩
        rw [← texts_ok rr e2]; exact hs
      · exact P.elim
    · exact P.elim
  · exact P.elim
theorem repL_strs {K : PySem.W.Frag} {as F : List Addr} {H : Hp} (ns : List Str) : RepL K as F H (ns.map V.str) (ns.map PV.str) := by
  induction ns with
  | nil => exact .nil
  | cons n ns ih => exact .cons (.str n) ih
def splitV (o : PV) (ps : List PV) : M PV := fun st => match o, ps with
  | .str a, [.str b] => if (b.length == 0) = false ∧ a.length + 2 ≤ sizeLine then mkL false ((Txt.split a b).map .str) st else .bad
  | _, _ => .bad
theorem split_ok : MtR X "str.split" (rM X.K E splitV) := by
  refine MtR.by ?_
  rintro x xs H Q ⟨W, p, ps, A, rx, rs, P⟩
  unfold splitV at P
  split at P
  · rename_i a b
    cases rx
    obtain ⟨v, rfl, rq⟩ := rep1 rs
    cases rq
    split at P
    · rename_i hz
      obtain ⟨_, k⟩ := new_lst A (repL_strs (Txt.split a b)) P
      exact ⟨_, mt_split, a, b, rfl, rfl, hz.1, hz.2, k⟩
    · exact P.elim
  · exact P.elim
def partitionV (o : PV) (ps : List PV) : M PV := fun st => match o, ps with
  | .str a, [.str b] => if (b.length == 0) = false ∧ a.length ≤ sizeLine then mkT [.str (Txt.partition a b).1, .str (Txt.partition a b).2.1, .str (Txt.partition a b).2.2] st else .bad
  | _, _ => .bad
theorem partition_ok : MtR X "str.partition" (rM X.K E partitionV) := by
  refine MtR.by ?_
  rintro x xs H Q ⟨W, p, ps, A, rx, rs, P⟩
  unfold partitionV at P
  split at P
  · rename_i a b
    cases rx
    obtain ⟨v, rfl, rq⟩ := rep1 rs
    cases rq
    split at P
    · rename_i hz
      obtain ⟨_, k⟩ := new_tup A (.cons (.str _) (.cons (.str _) (.cons (.str _) .nil))) P
      exact ⟨_, mt_partition, a, b, rfl, rfl, hz.1, hz.2, k⟩
    · exact P.elim
  · exact P.elim
def startsV (o : PV) (ps : List PV) : M PV := fun st => match o, ps with
  | .str a, [.str b] => .ok (.bl (Txt.startswith a b)) st
  | _, _ => .bad
theorem starts_ok : MtR X "str.startswith" (rM X.K E startsV) := by
  refine MtR.by ?_
  rintro x xs H Q ⟨W, p, ps, A, rx, rs, P⟩
  unfold startsV at P
  split at P
  · cases rx
    obtain ⟨v, rfl, rq⟩ := rep1 rs
    cases rq
    exact ⟨_, mt_startswith, _, _, rfl, rfl, Post.here A P (.bl _)⟩
  · exact P.elim

/-! ### dicts -/
def getV (G : Glb) (o : PV) (ps : List PV) : M PV := fun st => match o, ps with
  | .kd d, [.str z, p] => (match G.dicts.lookup d with
    | some kvs => .ok ((kvs.lookup z).getD p) st
    | none => .bad)
  | .ref l, k :: ps => (match st[l]?, keyP k, ps with
    | some (.dct kvs), some k, [] => .ok ((valP kvs k).getD .non) st
    | some (.dct kvs), some k, [p] => .ok ((valP kvs k).getD p) st
    | _, _, _ => .bad)
  | _, _ => .bad
theorem mt_getK {d : Addr} {es : Array DictEntry} {n : Nat} (D : KDict X.K X.w d es n) : MtR X "dict.get" (fun x vs H Q => ∃ z y, x = .ref d ∧ vs = [.str z, y] ∧
    ((∃ u0 v0, PySem.W.nsIn X.K d z = some (some u0) ∧ RelV v0 u0 ∧ Q v0 H) ∨ (PySem.W.nsIn X.K d z = some none ∧ Q y H))) := by
  rintro pins s σ H x vs v us Q I rx rv ⟨z, y, rfl, rfl, q⟩
  cases rx
  obtain ⟨u1, u2, rfl, ⟨t, rfl⟩, ry⟩ := rv.two
  have hm := PySem.W.mapOf_K (prog := X.prog) (w := X.w) I.kIn D.at_ D.lit
  refine call_meetsIn PySem.F.slot_dict_get hm.typeIs PySem.F.entry_dict_get (PySem.F.args_dict_get_3 _ _ _) (meets_dict_get_default (strKind X.prog X.w) d (strKind_is X.prog X.w z t) D.low u2) ⟨_, hm, ?_⟩
  rcases q with ⟨u0, v0, e, r, q⟩ | ⟨e, q⟩
  · rw [PySem.W.find_K D.at_ e]
    exact ⟨v0, H, I.tok _, r, q⟩
  · rw [PySem.W.find_K D.at_ e]
    exact ⟨y, H, I.tok _, ry, q⟩
theorem mt_get1 (hu : X.A.units + 1 < cLine) : MtR X "dict.get" (fun x vs H Q => ∃ a y o, x = .ref a ∧ vs = [y] ∧ DGet H a y o ∧ Q (o.getD .non) H) := by
  rintro pins s σ H x vs v us Q I rx rv ⟨a, y, o, rfl, rfl, g, q⟩
  cases rx
  obtain ⟨u, rfl, ru⟩ := rv.one
  exact d_get1 hu I g ru fun w' s' I' r => ⟨_, H, I', r, q⟩
theorem mt_get2 (hu : X.A.units + 1 < cLine) : MtR X "dict.get" (fun x vs H Q => ∃ a y z o, x = .ref a ∧ vs = [y, z] ∧ DGet H a y o ∧ Q (o.getD z) H) := by
  rintro pins s σ H x vs v us Q I rx rv ⟨a, y, z, o, rfl, rfl, g, q⟩
  cases rx
  obtain ⟨u1, u2, rfl, r1, r2⟩ := rv.two
  exact d_get2 hu I g r1 r2 fun w' s' I' r => ⟨_, H, I', r, q⟩
theorem get_ok (C : CtxOk G X) : MtR X "dict.get" (rM X.K E (getV G)) := by
  have hu := C.units
  refine MtR.by ?_
  rintro x xs H Q ⟨W, p, ps, A, rx, rs, P⟩
  unfold getV at P
  split at P
  · rename_i d z q
    cases rx
    obtain ⟨v, u, rfl, rz, rq⟩ := rep2 rs
    cases rz
    split at P
    · rename_i kvs e1
      obtain ⟨es, n, D, look⟩ := C.glb.dict d kvs e1
      have hl := look z
      refine ⟨_, mt_getK D, z, u, rfl, rfl, ?_⟩
      cases e : kvs.lookup z with
      | some p =>
        rw [e] at hl P
        obtain ⟨v0, u0, h1, h2, h3⟩ := hl
        exact .inl ⟨u0, v0, h1, h2, Post.here A P (h3 _ _ _)⟩
      | none =>
        rw [e] at hl P
        exact .inr ⟨hl, Post.here A P rq⟩
    · exact P.elim
  · rename_i l k ps
    cases rs with
    | cons rk rs =>
      split at P
      · rename_i kvs k' e1 e2
        obtain ⟨a, vs, rfl, _, h3, rkv⟩ := dict_get A rx e1
        cases rs
        obtain ⟨i1, i2⟩ := valP_of k' rkv
        refine ⟨_, mt_get1 (by omega), a, kV k', valV vs k', rfl, ?_, DGet.k h3, ?_⟩
        · rw [keyP_of rk e2]
        · cases z : valP kvs k' with
          | none => rw [i1 z]; rw [z] at P; exact Post.here A P .non
          | some p =>
            obtain ⟨v, h1, h2⟩ := i2 p z
            rw [h1]; rw [z] at P; exact Post.here A P h2
      · rename_i kvs k' q e1 e2
        obtain ⟨a, vs, rfl, _, h3, rkv⟩ := dict_get A rx e1
        obtain ⟨v, rfl, rq⟩ := rep1 rs
        obtain ⟨i1, i2⟩ := valP_of k' rkv
        refine ⟨_, mt_get2 (by omega), a, kV k', v, valV vs k', rfl, ?_, DGet.k h3, ?_⟩
        · rw [keyP_of rk e2]
        · cases z : valP kvs k' with
          | none => rw [i1 z]; rw [z] at P; exact Post.here A P rq
          | some p =>
            obtain ⟨v, h1, h2⟩ := i2 p z
            rw [h1]; rw [z] at P; exact Post.here A P h2
      · exact P.elim
  · exact P.elim
/-- d[k] = v of pairs -/
def putP {κ : Type} [DecidableEq κ] (kvs : List (κ × PV)) (k : κ) (v : PV) : List (κ × PV) :=
  if (kvs.any fun kv => decide (kv.1 = k)) = true then kvs.map (fun kv => if kv.1 = k then (kv.1, v) else kv) else kvs ++ [(k, v)]
def mergeP (kvs more : List (Key × PV)) : List (Key × PV) := more.foldl (fun acc kv => putP acc kv.1 kv.2) kvs
theorem RepKV.app {κ : Type} {K : PySem.W.Frag} {as F : List Addr} {H : Hp} : ∀ {a : List (κ × V)} {b : List (κ × PV)} {c : List (κ × V)} {d : List (κ × PV)}, RepKV K as F H a b → RepKV K as F H c d → RepKV K as F H (a ++ c) (b ++ d)
  | _, _, _, _, .nil, s => s
  | _, _, _, _, .cons r t, s => .cons r (RepKV.app t s)
theorem put_rep {κ : Type} [DecidableEq κ] {K : PySem.W.Frag} {as F : List Addr} {H : Hp} {vs : List (κ × V)} {ps : List (κ × PV)} {k : κ} {v : V} {p : PV} (r : RepKV K as F H vs ps) (rv : Rep K as F H v p) : RepKV K as F H (putK vs k v) (putP ps k p) := by
  have anyE : ∀ {vs : List (κ × V)} {ps : List (κ × PV)}, RepKV K as F H vs ps → (vs.any fun kv => decide (kv.1 = k)) = ps.any fun kv => decide (kv.1 = k) := by
    intro vs ps r
    induction r with
    | nil => rfl
    | cons h t ih => rw [List.any_cons, List.any_cons, ih, h.1]
  have mapE : ∀ {vs : List (κ × V)} {ps : List (κ × PV)}, RepKV K as F H vs ps → RepKV K as F H (vs.map fun kv => if kv.1 = k then (kv.1, v) else kv) (ps.map fun kv => if kv.1 = k then (kv.1, p) else kv) := by
    intro vs ps r
    induction r with
    | nil => exact .nil
    | @cons a b _ _ h t ih =>
      rw [List.map_cons, List.map_cons]
      refine .cons ?_ ih
      obtain ⟨h1, h2⟩ := h
      by_cases e : a.1 = k
      · rw [if_pos e, if_pos (h1 ▸ e)]; exact ⟨h1, rv⟩
      · rw [if_neg e, if_neg (h1 ▸ e)]; exact ⟨h1, h2⟩
  unfold putK putP
  rw [anyE r]
  by_cases e : (ps.any fun kv => decide (kv.1 = k)) = true
  · rw [if_pos e, if_pos e]; exact mapE r
  · rw [if_neg e, if_neg e]; exact r.app (.cons ⟨rfl, rv⟩ .nil)
theorem merge_rep {K : PySem.W.Frag} {as F : List Addr} {H : Hp} : ∀ {mv : List (Key × V)} {mp : List (Key × PV)} {vs : List (Key × V)} {ps : List (Key × PV)}, RepKV K as F H mv mp → RepKV K as F H vs ps → RepKV K as F H (mergeK vs mv) (mergeP ps mp)
  | _, _, _, _, .nil, r => r
  | (k, v) :: mv, (k2, p) :: mp, vs, ps, .cons h t, r => by
    obtain ⟨h1, h2⟩ := h
    simp only at h1 h2
    subst h1
    have t' : RepKV K as F H mv mp := t
    show RepKV K as F H (mergeK (putK vs k v) mv) (mergeP (putP ps k p) mp)
    exact merge_rep t' (put_rep r h2)
theorem RepKV.len {κ : Type} {K : PySem.W.Frag} {as F : List Addr} {H : Hp} {vs : List (κ × V)} {ps : List (κ × PV)} (r : RepKV K as F H vs ps) : vs.length = ps.length := Paired.length r
/-- d.update(e) -/
theorem mt_update : MtR X "dict.update" (fun x vs H Q => ∃ a b kvs more, x = .ref a ∧ vs = [.ref b] ∧ a ≠ b ∧ H a = some (.dK kvs) ∧ H b = some (.dK more) ∧ kvs.length + more.length ≤ sizeLine ∧ Q .non (upd H a (.dK (mergeK kvs more)))) := by
  rintro pins s σ H x vs v us Q I rx rv ⟨a, b, kvs, more, rfl, rfl, ab, ha, hb, hz, q⟩
  cases rx
  obtain ⟨u, rfl, ru⟩ := rv.one
  cases ru
  obtain ⟨z1, hd1, vs1, rel1, dd1⟩ := dk_of I.hok ha
  obtain ⟨z2, hd2, vs2, rel2, dd2⟩ := dk_of I.hok hb
  have l1 : kvs.length = vs1.length := Paired.length rel1
  have l2 : more.length = vs2.length := Paired.length rel2
  refine call_meetsIn PySem.F.slot_dict_update dd1.typeIs PySem.F.entry_dict_update (PySem.F.args_dict_update_2 _ _) (meets_dict_update (mixKind X.prog X.w) a b ab hd2) ⟨vs1, vs2, dd1, dd2, by omega, fun h' d1 d2 sb => ?_⟩
  have he : ∃ q, h'.get? a = some q := let ⟨q, _, _, hq, _⟩ := d1; ⟨q, hq⟩
  have hl : (mergeK kvs more).length ≤ sizeLine := Nat.le_trans (length_mergeK more kvs) hz
  exact ⟨.non, _, d_write I (by rw [ha]; exact True.intro) sb he (dk_new hl hd1 (KV.merge rel2 rel1) d1), rfl, q⟩
def updateV (o : PV) (ps : List PV) : M PV := fun st => match o, ps with
  | .ref l, [.ref m] => (match st[l]?, st[m]? with
    | some (.dct kvs), some (.dct more) => if l ≠ m ∧ kvs.length + more.length ≤ sizeLine then .ok .non (st.set l (.dct (mergeP kvs more))) else .bad
    | _, _ => .bad)
  | _, _ => .bad
theorem ix_ne {K : PySem.W.Frag} {W : Wd} {H : Hp} {l m : Nat} {a b : Addr} (A : Ab K W H) (h1 : W.as[l]? = some a) (h2 : W.as[m]? = some b) (n : l ≠ m) : a ≠ b := by
  rintro rfl
  obtain ⟨k1, q1⟩ := List.getElem?_eq_some_iff.mp h1
  obtain ⟨k2, q2⟩ := List.getElem?_eq_some_iff.mp h2
  exact n ((List.getElem_inj A.nd).mp (q1.trans q2.symm))
theorem update_ok : MtR X "dict.update" (rM X.K E updateV) := by
  refine MtR.by ?_
  rintro x xs H Q ⟨W, p, ps, A, rx, rs, P⟩
  unfold updateV at P
  split at P
  · rename_i l m
    obtain ⟨v, rfl, rq⟩ := rep1 rs
    split at P
    · rename_i kvs more e1 e2
      split at P
      · rename_i hz
        obtain ⟨a, vs, rfl, hl, h3, r1⟩ := dict_get A rx e1
        obtain ⟨b, us, rfl, hm, h4, r2⟩ := dict_get A rq e2
        exact ⟨_, mt_update, a, b, vs, us, rfl, rfl, ix_ne A hl hm hz.1, h3, h4, by rw [r1.len, r2.len]; exact hz.2, Post.put A hl (.dct (merge_rep r2 r1)) P fun _ _ _ => .non⟩
      · exact P.elim
    · exact P.elim
  · exact P.elim

/-! ### o[i] = v -/
def setV (o i v : PV) : M Unit := fun st => match o with
  | .ref l => (match st[l]?, i with
    | some (.lst xs), .int k => (match ixN xs.length k with
      | some j => .ok () (st.set l (.lst (xs.set j v)))
      | none => .bad)
    | some (.dct kvs), i => (match keyP i with
      | some k => if kvs.length < sizeLine then .ok () (st.set l (.dct (putP kvs k v))) else .bad
      | none => .bad)
    | _, _ => .bad)
  | _ => .bad
abbrev RU : Wd → Hp → Unit → Unit → Prop := fun _ _ _ _ => True
def rSet (K : PySem.W.Frag) (E : XK) (f : PV → PV → PV → M Unit) : TSet := fun o i v H Q => ∃ W p q r, Ab K W H ∧ Rep K W.as W.F H o p ∧ Rep K W.as W.F H i q ∧ Rep K W.as W.F H v r ∧
  Post K E RU W H (f p q r W.st) (fun _ H' => Q H')
theorem PSet.by {t' : TSet} (i : ∀ o k v H Q, t' o k v H Q → ∃ t, PSet X t ∧ t o k v H Q) : PSet X t' :=
  fun pins s σ H o k v ov iv u Q I ro rk rv q => by
    obtain ⟨t, h, z⟩ := i _ _ _ _ _ q
    exact h pins s σ H o k v ov iv u Q I ro rk rv z
theorem set_ok (C : CtxOk G X) : PSet X (rSet X.K E setV) := by
  have hu := C.units
  refine PSet.by ?_
  rintro o i v H Q ⟨W, p, q, r, A, ro, ri, rv, P⟩
  unfold setV at P
  split at P
  · rename_i l
    split at P
    · rename_i xs k e1
      cases ri
      split at P
      · rename_i j e2
        obtain ⟨a, vs, rfl, hl, h3, rr⟩ := lst_get A ro e1
        refine ⟨_, set_list, a, vs, k, j, rfl, rfl, h3, by rw [rr.length]; exact e2, ?_⟩
        obtain ⟨A', e⟩ := A.put hl (.lst (rr.set rv j))
        exact P (W.put l _) _ () rfl A' e True.intro
      · exact P.elim
    · rename_i kvs _ e1
      split at P
      · rename_i k e2
        split at P
        · rename_i hz
          obtain ⟨a, vs, rfl, hl, h3, rr⟩ := dict_get A ro e1
          refine ⟨_, set_dict (by omega), a, upd H a (.dK (putK vs k v)), rfl, ?_, ?_⟩
          · rw [keyP_of ri e2]; exact DPut.k h3 (by rw [rr.len]; exact hz)
          · obtain ⟨A', e⟩ := A.put hl (.dct (put_rep rr rv))
            exact P (W.put l _) _ () rfl A' e True.intro
        · exact P.elim
      · exact P.elim
    · exact P.elim
  · exact P.elim
end
end PL

/-! PL, part F: an own small syntax, and what it reckons. -/
namespace PL
open PySem PySem.Spec PyProof.Rows L2

inductive BI where
  | len | abs | all | any | sum | tuple | list (nw : Bool) | str | int | repr
inductive MT where
  | append | extend | join | split | partition | startswith | get | update
inductive Ty where
  | none | bool | int | str | tuple | list | dict
  deriving DecidableEq
mutual
/-- targets -/
inductive LT where
  | nm (i : Nat)
  | tup (ts : LTs)
  | star (pre : LTs) (j : Nat) (post : LTs)
inductive LTs where
  | nil | cons (t : LT) (r : LTs)
end
mutual
inductive LE where
  | var (i : Nat) | int (i : Int) | bl (b : Bool) | non | str (x : Str)
  | glob (x : Str) (p : PV)
  | fnv (x : Str) | kdv (x : Str)
  | bin (nw : Bool) (o : BOp) (a b : LE)
  | neg (a : LE)
  | cmp (o : COp) (a b : LE)
  | isN (ng : Bool) (a : LE)
  | chain (o o' : COp) (a b c : LE)
  | and (a b : LE) | or (a b : LE) | not (a : LE)
  | ite (c a b : LE)
  | tup (es : LEs) | lst (nw : Bool) (es : LEs) | dct (kvs : LPs)
  | ix (a i : LE) | sl (nw : Bool) (a : LE) (lo hi : LO)
  | call (pu : Bool) (x : Str) (es : LEs)
  | callv (pu : Bool) (i : Nat) (es : LEs)
  | bi (b : BI) (es : LEs)
  | isi (a : LE) (t : Ty)
  | mt (m : MT) (o : LE) (es : LEs)
  | comp (nw : Bool) (own : List (Str × Nat)) (elt : LE) (tg : LT) (it : LI) (cs : LEs)
inductive LEs where
  | nil | cons (e : LE) (es : LEs)
inductive LPs where
  | nil | cons (k v : LE) (r : LPs)
inductive LO where
  | none | some (e : LE)
/-- what is walked -/
inductive LI where
  | seq (e : LE) | range1 (a : LE) | range2 (a b : LE) | enum (e : LE) | zip (strict : Bool) (a b : LE)
end
mutual
inductive LS where
  | expr (e : LE)
  | asg (t : LT) (e : LE)
  | par (i j : Nat) (a b : LE)
  | setix (o i v : LE)
  | aug (i : Nat) (o : BOp) (e : LE)
  | ret (e : LE) | retN
  | ifs (c : LE) (a b : LSs)
  | whl (c : LE) (body : LSs)
  | fr (t : LT) (it : LI) (body : LSs)
  | pass | brk | cont | never
inductive LSs where
  | nil | cons (s : LS) (r : LSs)
end

/-! ### values -/
abbrev Env' := List (Option PV)
mutual
def noRef : PV → Bool
  | .tup xs => noRefs xs
  | .lst xs => noRefs xs
  | .ref _ => false
  | _ => true
def noRefs : List PV → Bool
  | [] => true
  | x :: xs => noRef x && noRefs xs
end
def truthD (st : Stor) : PV → Option Bool
  | .non => some false
  | .bl b => some b
  | .int i => some (i != 0)
  | .str y => if y.length ≤ sizeLine then some ((y.length : Int) != 0) else none
  | .ref l => match st[l]? with
    | some (.lst xs) => some (!xs.isEmpty)
    | some (.dct kvs) => some (!kvs.isEmpty)
    | _ => none
  | p => (seqA st p).map fun xs => !xs.isEmpty
def truthV (p : PV) : M Bool := fun st => match truthD st p with
  | some k => .ok k st
  | none => .bad
def tyD (st : Stor) : PV → Option Ty
  | .non => some .none | .bl _ => some .bool | .int _ => some .int | .str _ => some .str | .tup _ => some .tuple | .lst _ => some .list | .scr _ => some .list
  | .ref l => match st[l]? with
    | some (.lst _) => some .list
    | some (.dct _) => some .dict
    | _ => none
  | .kd _ => none
  | .fn _ => none
def Ty.is (t u : Ty) : Bool := decide (t = u) || (decide (t = .bool) && decide (u = .int))
def isiV (t : Ty) (p : PV) : M PV := fun st => match tyD st p with
  | some u => .ok (.bl (u.is t)) st
  | none => .bad
def negV (p : PV) : M PV := fun st => match p with
  | .int i => .ok (.int (-i)) st
  | _ => .bad
def isNV (ng : Bool) (p : PV) : M PV := fun st => .ok (.bl ((match p with | .non => true | _ => false) != ng)) st
def augV : BOp → PV → PV → M PV
  | .add, .int i, .int j => pureR (.int (i + j))
  | .sub, .int i, .int j => pureR (.int (i - j))
  | _, _, _ => M.fail
def boolOf (p : PV) : M Bool := fun st => match p with
  | .bl k => .ok k st
  | _ => .bad
def look (env : Env') (i : Nat) : M PV := fun st => match env[i]? with
  | some (some p) => .ok p st
  | _ => .bad
/-- a call whose arguments and answer hold nothing that can change: run with a store of its own -/
def pureCall (g : List PV → M PV) (ps : List PV) : M PV := fun st =>
  if noRefs ps then (match g ps [] with
    | .ok p _ => if noRef p then .ok p st else .bad
    | _ => .bad) else .bad
structure Cfg where
  G : Glb
  fns : List Str
  calls : Str → Option (List PV → M PV)
def Cfg.call (C : Cfg) (pu : Bool) (x : Str) (ps : List PV) : M PV := match C.calls x with
  | some g => if pu then pureCall g ps else g ps
  | none => M.fail
def fnOf (C : Cfg) (f : PV) : M Str := fun st => match f with
  | .fn x => if C.fns.contains x then .ok x st else .bad
  | _ => .bad
/-- repr of data, as a text: told by the function R -/
def reprV (R : PyData → Option Str) (ps : List PV) : M PV := fun st => match ps with
  | [p] => (match (toDn 3 st p).bind R with
    | some z => .ok (.str z) st
    | none => .bad)
  | _ => .bad
def biV (R : PyData → Option Str) : BI → List PV → M PV
  | .len => lenV | .abs => absV' | .all => allV false | .any => allV true | .sum => sumV | .tuple => tupleV | .list nw => listV nw | .str => strV | .int => intV | .repr => reprV R
def tyM (G : Glb) (st : Stor) (m : MT) (p : PV) : Bool := match m with
  | .append | .extend => (match p with
    | .ref l => (match st[l]? with
      | some (.lst _) => true
      | _ => false)
    | _ => false)
  | .join | .split | .partition | .startswith => (match p with
    | .str _ => true
    | _ => false)
  | .get => (match p with
    | .kd d => (G.dicts.lookup d).isSome
    | .ref l => (match st[l]? with
      | some (.dct _) => true
      | _ => false)
    | _ => false)
  | .update => (match p with
    | .ref l => (match st[l]? with
      | some (.dct _) => true
      | _ => false)
    | _ => false)
def chkM (G : Glb) (m : MT) (p : PV) : M Unit := fun st => if tyM G st m p then .ok () st else .bad
def mtV (G : Glb) : MT → PV → List PV → M PV
  | .append => appendV | .extend => extendV | .join => joinV | .split => splitV | .partition => partitionV | .startswith => startsV | .get => getV G | .update => updateV
/-- a slice's part -/
def partOf (p : PV) : M (Option Int) := fun st => match p with
  | .int i => .ok (some i) st
  | _ => .bad
def mkD (kvs : List (PV × PV)) : M PV := fun st => match kvs.mapM (fun q => (keyP q.1).map fun k => (k, q.2)) with
  | some ps => if ps.length ≤ 15 then .ok (.ref st.length) (st ++ [.dct (mergeP [] ps)]) else .bad
  | none => .bad

/-! ### what is walked -/
/-- the items, and the places of the store that must stay as they are meanwhile -/
structure Src where
  items : List PV
  locs : List (Nat × List PV)
mutual
def eqPV : PV → PV → Bool
  | .non, .non => true
  | .bl a, .bl b => a == b
  | .int a, .int b => decide (a = b)
  | .str a, .str b => decide (a = b)
  | .tup a, .tup b => eqPVs a b
  | .lst a, .lst b => eqPVs a b
  | .ref a, .ref b => decide (a = b)
  | .fn a, .fn b => decide (a = b)
  | .kd a, .kd b => decide (a = b)
  | .scr a, .scr b => decide (a = b)
  | _, _ => false
def eqPVs : List PV → List PV → Bool
  | [], [] => true
  | x :: xs, y :: ys => eqPV x y && eqPVs xs ys
  | _, _ => false
end
def locOk (st : Stor) (q : Nat × List PV) : Bool := match st[q.1]? with
  | some (.lst ys) => eqPVs ys q.2
  | _ => false
def Src.ok (s : Src) (st : Stor) : Bool := s.locs.all (locOk st)
def signs (x : Str) : List PV := x.cps.toList.map fun c => .str ⟨#[c]⟩
/-- the places that must stay -/
def locsOf (xs : List PV) : PV → List (Nat × List PV)
  | .ref l => [(l, xs)]
  | _ => []
/-- a list, a tuple -/
def srcA (p : PV) : M Src := fun st => match seqA st p with
  | some xs => .ok ⟨xs, locsOf xs p⟩ st
  | none => .bad
def srcV (p : PV) : M Src := fun st => match p with
  | .str x => .ok ⟨signs x, []⟩ st
  | p => srcA p st
def rangeI (lo : Int) (n : Nat) : List PV := (List.range n).map fun k => .int (lo + (k : Nat))
def inR (i : Int) : Bool := decide (-(2 ^ 62) ≤ i) && decide (i < 2 ^ 62)
def srcR1 (p : PV) : M Src := fun st => match p with
  | .int j => if inR j then .ok ⟨rangeI 0 j.toNat, []⟩ st else .bad
  | _ => .bad
def srcR2 (p q : PV) : M Src := fun st => match p, q with
  | .int i, .int j => if inR i && inR j then .ok ⟨rangeI i (j - i).toNat, []⟩ st else .bad
  | _, _ => .bad
def enumL : Int → List PV → List PV
  | _, [] => []
  | k, x :: xs => .tup [.int k, x] :: enumL (k + 1) xs
def zipL : List PV → List PV → List PV
  | x :: xs, y :: ys => .tup [x, y] :: zipL xs ys
  | _, _ => []
def srcEn (s : Src) : M Src := pureR ⟨enumL 0 s.items, s.locs⟩
def srcZip (strict : Bool) (s t : Src) : M Src := if strict && decide (s.items.length ≠ t.items.length) then M.fail else pureR ⟨zipL s.items t.items, s.locs ++ t.locs⟩

/-! ### the evaluator -/
/-- exceptions are not let out -/
def noExc {α : Type} (m : M α) : M α := fun st => match m st with
  | .exc _ _ _ => .bad
  | o => o
def ltsLen : LTs → Nat
  | .nil => 0
  | .cons _ r => ltsLen r + 1
mutual
def asgT : LT → PV → Env' → M Env'
  | .nm i, p, env => pureR (env.set i (some p))
  | .tup ts, p, env => fun st => match seqA st p with
    | some xs => if xs.length = ltsLen ts then asgTs ts xs env st else .bad
    | none => .bad
  | .star pre j post, p, env => fun st => match seqA st p with
    | some xs => if ltsLen pre + ltsLen post ≤ xs.length then
        (do
          let env1 ← asgTs pre (xs.take (ltsLen pre)) env
          asgTs post (xs.drop (xs.length - ltsLen post)) (env1.set j (some (.lst ((xs.drop (ltsLen pre)).take (xs.length - ltsLen pre - ltsLen post))))) : M Env') st
      else .bad
    | none => .bad
def asgTs : LTs → List PV → Env' → M Env'
  | .nil, [], env => pureR env
  | .cons t r, x :: xs, env => do
    let env1 ← asgT t x env
    asgTs r xs env1
  | _, _, _ => M.fail
end
def wipeE (env : Env') : List Nat → Env'
  | [] => env
  | v :: vs => (wipeE env vs).set v none
def lcL (src : Src) (tg : PV → Env' → M Env') (cond : Env' → M Bool) (elt : Env' → M PV) (env0 : Env') : List PV → List PV → M (List PV)
  | [], acc => fun st => if src.ok st then .ok acc st else .bad
  | x :: xs, acc => fun st => if src.ok st then
      (do
        let env1 ← noExc (tg x env0)
        let k ← noExc (cond env1)
        if k then do
          let y ← noExc (elt env1)
          if acc.length < sizeLine then lcL src tg cond elt env0 xs (acc ++ [y]) else M.fail
        else lcL src tg cond elt env0 xs acc : M (List PV)) st
    else .bad
structure EV where
  e : Env' → M PV
  t : Env' → M Bool
def EV.mk' (f : Env' → M PV) : EV := ⟨f, fun env => do truthV (← f env)⟩
def EV.cmp (f : Env' → M PV) : EV := ⟨f, fun env => do boolOf (← f env)⟩
section
variable (C : Cfg) (R : PyData → Option Str)
mutual
def ev : LE → EV
  | .var i => .mk' fun env => look env i
  | .int i => .mk' fun _ => pureR (.int i)
  | .bl b => .mk' fun _ => pureR (.bl b)
  | .non => .mk' fun _ => pureR .non
  | .str x => .mk' fun _ => pureR (.str x)
  | .glob _ p => .mk' fun _ => pureR p
  | .fnv x => .mk' fun _ => pureR (.fn x)
  | .kdv x => .mk' fun _ => pureR (.kd x)
  | .bin nw o a b => .mk' fun env => do
    let x ← (ev a).e env
    let y ← (ev b).e env
    o.f nw x y
  | .neg a => .mk' fun env => do negV (← (ev a).e env)
  | .cmp o a b => .cmp fun env => do
    let x ← (ev a).e env
    let y ← (ev b).e env
    o.f C.G x y
  | .isN ng a => .cmp fun env => do isNV ng (← (ev a).e env)
  | .chain o o' a b c => .cmp fun env => do
    let x ← (ev a).e env
    let y ← (ev b).e env
    let k ← boolOf (← o.f C.G x y)
    if k then do
      let z ← (ev c).e env
      o'.f C.G y z
    else pureR (.bl false)
  | .and a b => ⟨fun env => do
      let x ← (ev a).e env
      let k ← truthV x
      if k then (ev b).e env else pureR x,
    fun env => do
      let k ← (ev a).t env
      if k then (ev b).t env else pureR false⟩
  | .or a b => ⟨fun env => do
      let x ← (ev a).e env
      let k ← truthV x
      if k then pureR x else (ev b).e env,
    fun env => do
      let k ← (ev a).t env
      if k then pureR true else (ev b).t env⟩
  | .not a => ⟨fun env => do
      let x ← (ev a).e env
      let k ← truthV x
      pureR (.bl (!k)),
    fun env => do
      let k ← (ev a).t env
      pureR (!k)⟩
  | .ite c a b => ⟨fun env => do
    let k ← (ev c).t env
    if k then (ev a).e env else (ev b).e env, fun _ => M.fail⟩
  | .tup es => .mk' fun env => do mkT (← evs es env)
  | .lst nw es => .mk' fun env => do mkL nw (← evs es env)
  | .dct kvs => .mk' fun env => do mkD (← evps kvs env)
  | .ix a i => .mk' fun env => do
    let x ← (ev a).e env
    let y ← (ev i).e env
    ixV C.G x y
  | .sl nw a lo hi => .mk' fun env => do
    let x ← (ev a).e env
    let l ← evo lo env
    let h ← evo hi env
    slV nw x l h
  | .call pu x es => .mk' fun env => do C.call pu x (← evs es env)
  | .callv pu i es => .mk' fun env => do
    let x ← fnOf C (← look env i)
    let ps ← evs es env
    C.call pu x ps
  | .bi b es => .mk' fun env => do biV R b (← evs es env)
  | .isi a t => .mk' fun env => do isiV t (← (ev a).e env)
  | .mt m o es => .mk' fun env => do
    let p ← (ev o).e env
    chkM C.G m p
    let ps ← evs es env
    mtV C.G m p ps
  | .comp nw own elt tg it cs => .mk' fun env => do
    let s ← evi it env
    let ys ← lcL s (asgT tg) (evc cs) (ev elt).e (wipeE env (own.map (·.2))) s.items []
    mkL nw ys
def evs : LEs → Env' → M (List PV)
  | .nil, _ => pureR []
  | .cons e r, env => do
    let x ← (ev e).e env
    let xs ← evs r env
    pureR (x :: xs)
def evc : LEs → Env' → M Bool
  | .nil, _ => pureR true
  | .cons e _, env => (ev e).t env
def evps : LPs → Env' → M (List (PV × PV))
  | .nil, _ => pureR []
  | .cons k v r, env => do
    let x ← (ev k).e env
    let y ← (ev v).e env
    let xs ← evps r env
    pureR ((x, y) :: xs)
def evo : LO → Env' → M (Option Int)
  | .none, _ => pureR none
  | .some e, env => do partOf (← (ev e).e env)
def evi : LI → Env' → M Src
  | .seq e, env => do srcV (← (ev e).e env)
  | .range1 a, env => do srcR1 (← (ev a).e env)
  | .range2 a b, env => do
    let x ← (ev a).e env
    let y ← (ev b).e env
    srcR2 x y
  | .enum e, env => do
    let s ← srcA (← (ev e).e env)
    srcEn s
  | .zip strict a b, env => do
    let x ← (ev a).e env
    let y ← (ev b).e env
    let s ← srcA x
    let t ← srcA y
    srcZip strict s t
end
/-! ### statements -/
inductive Fl where
  | nx (env : Env') | ret (p : PV) | bk (env : Env') | ct (env : Env')
def forL (src : Src) (tg : PV → Env' → M Env') (body : Env' → M Fl) : List PV → Env' → M Fl
  | [], env => fun st => if src.ok st then .ok (.nx env) st else .bad
  | x :: xs, env => fun st => if src.ok st then
      (do
        let env1 ← tg x env
        match ← body env1 with
        | .nx e => forL src tg body xs e
        | .ct e => forL src tg body xs e
        | .bk e => pureR (.nx e)
        | .ret p => pureR (.ret p) : M Fl) st
    else .bad
def whileL (c : Env' → M Bool) (body : Env' → M Fl) : Nat → Env' → M Fl
  | 0, _ => M.fail
  | n + 1, env => do
    let k ← c env
    if k then do
      match ← body env with
      | .nx e => whileL c body n e
      | .ct e => whileL c body n e
      | .bk e => pureR (.nx e)
      | .ret p => pureR (.ret p)
    else pureR (.nx env)
variable (wf : Nat)
mutual
def evS : LS → Env' → M Fl
  | .expr e, env => do
    let _ ← (ev C R e).e env
    pureR (.nx env)
  | .asg t e, env => do
    let p ← (ev C R e).e env
    let env1 ← asgT t p env
    pureR (.nx env1)
  | .par i j a b, env => do
    let x ← (ev C R a).e env
    let y ← (ev C R b).e env
    pureR (.nx ((env.set i (some x)).set j (some y)))
  | .setix o i v, env => do
    let y ← (ev C R v).e env
    let p ← (ev C R o).e env
    let q ← (ev C R i).e env
    let _ ← setV p q y
    pureR (.nx env)
  | .aug i o e, env => do
    let x ← look env i
    let y ← (ev C R e).e env
    let z ← augV o x y
    pureR (.nx (env.set i (some z)))
  | .ret e, env => do
    let p ← (ev C R e).e env
    pureR (.ret p)
  | .retN, _ => pureR (.ret .non)
  | .ifs c a b, env => do
    let k ← (ev C R c).t env
    if k then evSs a env else evSs b env
  | .whl c body, env => whileL (ev C R c).t (evSs body) wf env
  | .fr t it body, env => do
    let s ← evi C R it env
    forL s (asgT t) (evSs body) s.items env
  | .pass, env => pureR (.nx env)
  | .brk, env => pureR (.bk env)
  | .cont, env => pureR (.ct env)
  | .never, _ => M.fail
def evSs : LSs → Env' → M Fl
  | .nil, env => pureR (.nx env)
  | .cons s r, env => do
    match ← evS s env with
    | .nx e => evSs r e
    | f => pureR f
end
end
/-! ### defs -/
structure Def where
  name : Str
  params : List Str
  slots : List Str
  body : LSs
/-- a def's run: its parameters, then its body -/
def runDef (C : Cfg) (R : PyData → Option Str) (wf : Nat) (d : Def) (ps : List PV) : M PV := fun st =>
  if ps.length = d.params.length then
    (match evSs C R wf d.body (ps.map some ++ List.replicate (d.slots.length - ps.length) none) st with
      | .ok (.ret p) st' => .ok p st'
      | .ok (.nx _) st' => .ok .non st'
      | .ok _ _ => .bad
      | .exc c fs s => .exc c fs s
      | .bad => .bad)
  else .bad
/-- calls so deep -/
def callsN (G : Glb) (R : PyData → Option Str) (wf : Nat) (defs : List Def) : Nat → Str → Option (List PV → M PV)
  | 0, _ => none
  | n + 1, x => (defs.find? fun d => decide (d.name = x)).map fun d => runDef ⟨G, defs.map (·.name), callsN G R wf defs n⟩ R wf d
end PL

/-! PL, part G: the checker: does the own syntax say what the text's tree says? -/
namespace PL
open PySem PySem.Spec PyProof.Rows L2

/-- where one stands: the slots' names, the block's scope, the names whose cells are the block's own -/
structure Kx where
  N : List Str
  sc : Scope
  fn : Str → Bool
def Kx.kind (k : Kx) (x : Str) : Option NameKind := k.sc.names.lookup x
def isK (a : Option NameKind) (b : NameKind) : Bool := match a with
  | some c => c == b
  | none => false
def Kx.vis (k : Kx) (x : Str) : Bool := isK (k.kind x) .local || isK (k.kind x) .cell || isK (k.kind x) .free
def Kx.loc (k : Kx) (x : Str) : Bool := isK (k.kind x) .local || (isK (k.kind x) .cell && k.fn x)
def Kx.gl (k : Kx) (x : Str) : Bool := isK (k.kind x) .globalImplicit
def Kx.at (k : Kx) (i : Nat) (x : Str) : Bool := decide (k.N[i]? = some x)
/-- the block of a comprehension -/
def Kx.blk (k : Kx) (scope : Scope) : Kx := ⟨k.N, relS scope k.sc, fun x => scope.names.lookup x == some .cell⟩
def okName (x : Str) : Bool := !(x == ("__debug__" : Str)) && !(x == ("__classdict__" : Str)) && decide (x ≠ "__name__")

def BI.nm : BI → Str
  | .len => "len" | .abs => "abs" | .all => "all" | .any => "any" | .sum => "sum" | .tuple => "tuple" | .list _ => "list" | .str => "str" | .int => "int" | .repr => "repr"
def BI.val : BI → Value
  | .len => .builtin "len" | .abs => .builtin "abs" | .all => .builtin "all" | .any => .builtin "any" | .sum => .builtin "sum"
  | .tuple => .type "tuple" | .list _ => .type "list" | .str => .type "str" | .int => .type "int" | .repr => .builtin "repr"
def MT.nm : MT → Str
  | .append => "append" | .extend => "extend" | .join => "join" | .split => "split" | .partition => "partition" | .startswith => "startswith" | .get => "get" | .update => "update"
def MT.T : MT → String
  | .append | .extend => "list"
  | .join | .split | .partition | .startswith => "str"
  | .get | .update => "dict"
def MT.id : MT → String
  | .append => "list.append" | .extend => "list.extend" | .join => "str.join" | .split => "str.split" | .partition => "str.partition" | .startswith => "str.startswith" | .get => "dict.get" | .update => "dict.update"
def Ty.nm : Ty → Str
  | .none => "NoneType" | .bool => "bool" | .int => "int" | .str => "str" | .tuple => "tuple" | .list => "list" | .dict => "dict"
def Ty.ty : Ty → String
  | .none => "NoneType" | .bool => "bool" | .int => "int" | .str => "str" | .tuple => "tuple" | .list => "list" | .dict => "dict"
def COp.eq? (o : COp) (p : CmpOp) : Bool := o.op == p
def BOp.eq? (o : BOp) (p : Operator) : Bool := o.op == p
def plainE : Expr → Bool
  | .Starred _ _ => false
  | _ => true
/-- no call without arguments: nothing that could be super() -/
def notSuper : Expr → Bool
  | .Call (.Name _ _) [] [] _ => false
  | _ => true
def notComp : Expr → Bool
  | .ListComp .. => false | .SetComp .. => false | .DictComp .. => false
  | _ => true
/-- a subscript that is no slice and no constant of its own kind: seen by its head -/
def ixHead : Expr → Bool
  | .Slice .. => false
  | _ => true
def swP (sc : Scope) (ts vs : List Expr) : Option (Option (List Str)) :=
  if (!(ts.length == 2 || ts.length == 3) || vs.length != ts.length) = true then some none
  else if (vs.any fun | .Starred .. => true | _ => false) = true then some none
  else
    let line := (ts.head?.map (·.pos.line)).getD 0
    let names := ts.filterMap fun
      | .Name id pos => if sc.names.lookup id == some .local && pos.line == line then some id else none
      | _ => none
    if (names.length != ts.length || names.eraseDups.length != names.length) = true then some none
    else if vs.all (foldedForSure 8) = true then some none
    else if vs.all (constantsAlone 8) = true then none
    else some (some names)
section
variable (G : Glb) (fns : List Str)
mutual
def mT (k : Kx) : LT → Expr → Bool
  | .nm i, e => match e with
    | .Name x _ => k.at i x && k.loc x
    | _ => false
  | .tup ts, e => match e with
    | .Tuple es _ _ => mTs k ts es
    | _ => false
  | .star pre j post, e => match e with
    | .Tuple es _ _ => mStar k pre j post es
    | _ => false
def mTs (k : Kx) : LTs → List Expr → Bool
  | .nil, es => es.isEmpty
  | .cons t r, es => match es with
    | e :: es => plainE e && mT k t e && mTs k r es
    | [] => false
/-- the targets ahead of a star, the star's, those behind -/
def mStar (k : Kx) : LTs → Nat → LTs → List Expr → Bool
  | .nil, j, post, ts => match ts with
    | .Starred (.Name x _) _ :: r => k.at j x && k.loc x && mTs k post r
    | _ => false
  | .cons t r, j, post, ts => match ts with
    | e :: es => plainE e && mT k t e && mStar k r j post es
    | [] => false
end
/-- the slots that a target stores -/
def slotsT : LT → List Nat
  | .nm i => [i]
  | .tup ts => slotsTs ts
  | .star pre j post => slotsTs pre ++ j :: slotsTs post
where slotsTs : LTs → List Nat
  | .nil => []
  | .cons t r => slotsT t ++ slotsTs r
mutual
def mE : Kx → LE → Expr → Bool
  | k, .var i, e => match e with
    | .Name x _ => k.at i x && k.vis x && okName x
    | _ => false
  | _, .int i, e => match e with
    | .Constant (.int j) _ _ => decide (i = j)
    | _ => false
  | _, .bl b, e => match e with
    | .Constant (.bool c) _ _ => b == c
    | _ => false
  | _, .non, e => match e with
    | .Constant .none _ _ => true
    | _ => false
  | _, .str x, e => match e with
    | .Constant (.str y) _ _ => decide (x = y)
    | _ => false
  | k, .glob x p, e => match e with
    | .Name y _ => decide (x = y) && k.gl x && okName x && (match G.vals.lookup x with | some q => eqPV q p | none => false)
    | _ => false
  | k, .fnv x, e => match e with
    | .Name y _ => decide (x = y) && k.gl x && okName x && fns.contains x
    | _ => false
  | k, .kdv x, e => match e with
    | .Name y _ => decide (x = y) && k.gl x && okName x && (G.dicts.lookup x).isSome
    | _ => false
  | k, .bin _ o a b, e => match e with
    | .BinOp x p y _ => o.eq? p && mE k a x && mE k b y
    | _ => false
  | k, .neg a, e => match e with
    | .UnaryOp .USub x _ => mE k a x
    | _ => false
  | k, .cmp o a b, e => match e with
    | .Compare x [p] [y] _ => o.eq? p && mE k a x && mE k b y && !behindInMarks p y
    | _ => false
  | k, .isN ng a, e => match e with
    | .Compare x [.Is] [.Constant .none _ _] _ => !ng && mE k a x
    | .Compare x [.IsNot] [.Constant .none _ _] _ => ng && mE k a x
    | _ => false
  | k, .chain o o' a b c, e => match e with
    | .Compare x [p, p'] [y, z] _ => o.eq? p && o'.eq? p' && mE k a x && mE k b y && mE k c z && !behindInMarks p' z
    | _ => false
  | k, .and a b, e => match e with
    | .BoolOp .And (x :: y :: r) p => mE k a x && (match r with
      | [] => mE k b y
      | _ :: _ => (match b with | .and _ _ => true | _ => false) && mE k b (.BoolOp .And (y :: r) p))
    | _ => false
  | k, .or a b, e => match e with
    | .BoolOp .Or (x :: y :: r) p => mE k a x && (match r with
      | [] => mE k b y
      | _ :: _ => (match b with | .or _ _ => true | _ => false) && mE k b (.BoolOp .Or (y :: r) p))
    | _ => false
  | k, .not a, e => match e with
    | .UnaryOp .Not x _ => mE k a x
    | _ => false
  | k, .ite c a b, e => match e with
    | .IfExp z x y _ => mE k c z && mE k a x && mE k b y
    | _ => false
  | k, .tup es, e => match e with
    | .Tuple xs _ _ => mEs k es xs
    | _ => false
  | k, .lst _ es, e => match e with
    | .List xs _ => mEs k es xs
    | _ => false
  | k, .dct kvs, e => match e with
    | .Dict ks vs _ => mPs k kvs ks vs && !ks.isEmpty && decide (ks.length ≤ 15)
    | _ => false
  | k, .ix a i, e => match e with
    | .Subscript x y _ => mE k a x && mE k i y
    | _ => false
  | k, .sl _ a lo hi, e => match e with
    | .Subscript x (.Slice l h none _) _ => mE k a x && mO k lo l && mO k hi h
    | _ => false
  | k, .call _ x es, e => match e with
    | .Call (.Name y _) as [] _ => decide (x = y) && k.gl x && okName x && fns.contains x && mEs k es as
    | _ => false
  | k, .callv _ i es, e => match e with
    | .Call (.Name y _) as [] _ => k.at i y && k.vis y && okName y && mEs k es as && !as.isEmpty
    | _ => false
  | k, .bi b es, e => match e with
    | .Call (.Name y _) as [] _ => decide (y = b.nm) && k.gl y && okName y && G.blt.contains y && mEs k es as && !as.isEmpty
    | _ => false
  | k, .isi a t, e => match e with
    | .Call (.Name y _) [x, .Name z _] [] _ => decide (t ≠ .none) && plainE x && okName z && decide (y = "isinstance") && k.gl y && G.blt.contains y && decide (z = t.nm) && k.gl z && G.blt.contains z && mE k a x
    | _ => false
  | k, .mt m o es, e => match e with
    | .Call (.Attribute x n ap) as [] cp => decide (n = m.nm) && notSuper x && mE k o x && mEs k es as && !as.isEmpty && decide (as.length < 30) && (ap.endLine == cp.line)
    | _ => false
  | k, .comp _ own elt tg it cs, e => match e with
    | .ListComp x [⟨t, i, ifs, 0⟩] scope _ => blkC k.N k.sc scope own && (slotsT tg).all (fun s => (own.map (·.2)).contains s) && mE (k.blk scope) elt x && mT (k.blk scope) tg t && mI k it i t && mC (k.blk scope) cs ifs
    | _ => false
def mEs : Kx → LEs → List Expr → Bool
  | _, .nil, es => es.isEmpty
  | k, .cons a r, es => match es with
    | e :: es => plainE e && mE k a e && mEs k r es
    | [] => false
def mC : Kx → LEs → List Expr → Bool
  | _, .nil, es => es.isEmpty
  | k, .cons a .nil, es => match es with
    | [e] => mE k a e
    | _ => false
  | _, .cons _ (.cons _ _), _ => false
def mPs : Kx → LPs → List (Option Expr) → List Expr → Bool
  | _, .nil, ks, vs => ks.isEmpty && vs.isEmpty
  | k, .cons a b r, ks, vs => match ks, vs with
    | some x :: ks, y :: vs => mE k a x && mE k b y && mPs k r ks vs
    | _, _ => false
def mO : Kx → LO → Option Expr → Bool
  | _, .none, e => e.isNone
  | k, .some a, e => match e with
    | some x => mE k a x
    | none => false
/-- t: the target -/
def mI : Kx → LI → Expr → Expr → Bool
  | k, .seq a, e, _ => mE k a e && (match e with | .Set .. => false | _ => true)
  | k, .range1 a, e, _ => match e with
    | .Call (.Name y _) [x] [] _ => decide (y = "range") && k.gl y && G.blt.contains y && plainE x && mE k a x
    | _ => false
  | k, .range2 a b, e, _ => match e with
    | .Call (.Name y _) [x, z] [] _ => decide (y = "range") && k.gl y && G.blt.contains y && plainE x && plainE z && mE k a x && mE k b z
    | _ => false
  | k, .enum a, e, t => match e with
    | .Call (.Name y _) [x] [] _ => decide (y = "enumerate") && k.gl y && G.blt.contains y && plainE x && mE k a x && (match t with | .Tuple .. => true | _ => false)
    | _ => false
  | k, .zip strict a b, e, t => (match t with | .Tuple .. => true | _ => false) && (match e with
    | .Call (.Name y _) [x, z] ks _ => decide (y = "zip") && k.gl y && G.blt.contains y && plainE x && plainE z && mE k a x && mE k b z && (match ks, strict with
      | [], false => true
      | [⟨some n, .Constant (.bool true) _ _, _⟩], true => decide (n = "strict")
      | _, _ => false)
    | _ => false)
end
mutual
def mS : Kx → LS → Stmt → Bool
  | k, .expr e, s => match s with
    | .Expr x _ => mE G fns k e x && notComp x
    | _ => false
  | k, .asg t e, s => match s with
    | .Assign [tg] x pos => mE G fns k e x && plainE tg && (match t with
      | .nm i => mT k t tg && (match tg with
        | .Name y py => notComp x || (match x with
          | .ListComp _ _ scope lp => if isK (k.kind y) .local && (py.line == lp.line) && !(scope.names.any fun (n, k) => n == y && (k == .local || k == .cell)) then py.line == pos.line || true else true
          | _ => false)
        | _ => false)
      | .tup _ => mT k t tg && (match tg, x with
        | .Tuple ts _ _, .Tuple vs _ _ => (match swP k.sc ts vs with | some none => true | _ => false)
        | _, _ => true)
      | .star _ _ _ => mT k t tg && (match x with | .Tuple .. => false | _ => true))
    | _ => false
  | k, .par i j a b, s => match s with
    | .Assign [.Tuple [.Name x px, .Name y py] kt pt] (.Tuple [u, v] k2 pt2) pos => k.at i x && k.at j y && isK (k.kind x) .local && isK (k.kind y) .local && decide (i ≠ j) && plainE u && plainE v && mE G fns k a u && mE G fns k b v &&
      (match swP k.sc [.Name x px, .Name y py] [u, v] with | some (some [z, w]) => decide (z = x) && decide (w = y) | _ => false)
    | _ => false
  | k, .setix o i v, s => match s with
    | .Assign [.Subscript x y _] z _ => mE G fns k o x && mE G fns k i y && mE G fns k v z
    | _ => false
  | k, .aug i o e, s => match s with
    | .AugAssign (.Name x _) p y _ => k.at i x && k.loc x && o.eq? p && mE G fns k e y
    | _ => false
  | k, .ret e, s => match s with
    | .Return (some x) _ => mE G fns k e x
    | _ => false
  | _, .retN, s => match s with
    | .Return none _ => true
    | _ => false
  | k, .ifs c a b, s => match s with
    | .If x p q _ => mE G fns k c x && mSs k a p && mSs k b q
    | _ => false
  | k, .whl c body, s => match s with
    | .While x p [] _ => mE G fns k c x && mSs k body p
    | _ => false
  | k, .fr t it body, s => match s with
    | .For tg i p [] _ => mT k t tg && mI G fns k it i tg && mSs k body p
    | _ => false
  | _, .pass, s => match s with
    | .Pass _ => true
    | _ => false
  | _, .brk, s => match s with
    | .Break _ => true
    | _ => false
  | _, .cont, s => match s with
    | .Continue _ => true
    | _ => false
  | _, .never, _ => true
def mSs : Kx → LSs → List Stmt → Bool
  | _, .nil, ss => ss.isEmpty
  | k, .cons a r, ss => match ss with
    | s :: ss => mS k a s && mSs k r ss
    | [] => false
end
end
end PL

/-! PL, part H: the rules, one for each form of the own syntax. -/
namespace PL
open PySem PySem.Spec PyProof.Rows L2

/-- the slots of a run and the own environment -/
def RepS (K : PySem.W.Frag) (W : Wd) (H : Hp) (σ : L2.St) (env : Env') : Prop := σ.length = env.length ∧ ∀ (i : Nat) (p : PV), env[i]? = some (some p) → ∃ v, σ[i]? = some (some v) ∧ Rep K W.as W.F H v p
section
variable {K : PySem.W.Frag} {W W' : Wd} {H H' : Hp} {σ : L2.St} {env : Env'}
theorem RepS.ext (r : RepS K W H σ env) (e : Ext W H W' H') (hs : ∀ a ∈ W.as, a ∈ W.F) : RepS K W' H' σ env :=
  ⟨r.1, fun i p h => let ⟨v, h1, h2⟩ := r.2 i p h; ⟨v, h1, h2.ext e hs⟩⟩
theorem RepS.set {v : V} {p : PV} (r : RepS K W H σ env) (i : Nat) (rv : Rep K W.as W.F H v p) : RepS K W H (σ.set i (some v)) (env.set i (some p)) := by
  refine ⟨by rw [List.length_set, List.length_set]; exact r.1, fun j q h => ?_⟩
  by_cases e : i = j
  · subst e
    by_cases hl : i < env.length
    · rw [List.getElem?_set_self hl] at h
      cases h
      exact ⟨v, List.getElem?_set_self (by rw [r.1]; exact hl), rv⟩
    · rw [List.getElem?_eq_none_iff.mpr (by rw [List.length_set]; omega)] at h
      cases h
  · rw [List.getElem?_set_ne e] at h
    obtain ⟨u, h1, h2⟩ := r.2 j q h
    exact ⟨u, by rw [List.getElem?_set_ne e]; exact h1, h2⟩
theorem RepS.drop (r : RepS K W H σ env) (i : Nat) : RepS K W H (σ.set i none) (env.set i none) := by
  refine ⟨by rw [List.length_set, List.length_set]; exact r.1, fun j q h => ?_⟩
  by_cases e : i = j
  · subst e
    by_cases hl : i < env.length
    · rw [List.getElem?_set_self hl] at h
      cases h
    · rw [List.getElem?_eq_none_iff.mpr (by rw [List.length_set]; omega)] at h
      cases h
  · rw [List.getElem?_set_ne e] at h
    obtain ⟨u, h1, h2⟩ := r.2 j q h
    exact ⟨u, by rw [List.getElem?_set_ne e]; exact h1, h2⟩
theorem RepS.wipe (r : RepS K W H σ env) : ∀ vs : List Nat, RepS K W H (L2.wipe σ vs) (wipeE env vs)
  | [] => r
  | v :: vs => (RepS.wipe r vs).drop v
end

/-- what a run of the own syntax says to the layer -/
def tR {α β : Type} (K : PySem.W.Frag) (E : XK) (R : Wd → Hp → β → α → Prop) (f : Env' → M α) : L2.St → Hp → (β → Hp → Prop) → Prop := fun σ H Q => ∃ W env, Ab K W H ∧ RepS K W H σ env ∧ Post K E R W H (f env W.st) Q
abbrev RO : Wd → Hp → Option Int → Option Int → Prop := fun _ _ a b => a = b
abbrev tG (K : PySem.W.Frag) (E : XK) (f : Env' → M PV) : TE := tR K E (RV K) f
abbrev tGT (K : PySem.W.Frag) (E : XK) (f : Env' → M Bool) : TT := tR K E RB f
abbrev tGA (K : PySem.W.Frag) (E : XK) (f : Env' → M (List PV)) : TA := tR K E (RVs K) f
abbrev tGO (K : PySem.W.Frag) (E : XK) (f : Env' → M (Option Int)) : TO := tR K E RO f
section
variable {α β γ δ : Type} {K : PySem.W.Frag} {E : XK} {R : Wd → Hp → β → α → Prop} {S : Wd → Hp → δ → γ → Prop} {σ : L2.St} {H : Hp}
theorem tR.bind {f : Env' → M α} {k : Env' → α → M γ} {Q : δ → Hp → Prop} {Q1 : β → Hp → Prop} (h : tR K E S (fun env => f env >>= k env) σ H Q)
    (hk : ∀ (W1 : Wd) (H1 : Hp) (b : β) (a : α) (env : Env'), Ab K W1 H1 → RepS K W1 H1 σ env → R W1 H1 b a → Post K E S W1 H1 (k env a W1.st) Q → Q1 b H1) : tR K E R f σ H Q1 := by
  obtain ⟨W, env, A, rs, P⟩ := h
  exact ⟨W, env, A, rs, Post.bind A P fun W1 H1 b a A1 e1 r1 P1 => hk W1 H1 b a env A1 (rs.ext e1 A.sub) r1 P1⟩
end
section
variable {X : Cx} {e : Expr}
theorem PEimp {t t' : TE} (h : PE X e t) (i : ∀ σ H Q, t' σ H Q → t σ H Q) : PE X e t' := ⟨fun pins s σ H Q I q => h.run pins s σ H Q I (i _ _ _ q)⟩
theorem PTimp {t t' : TT} (h : PT X e t) (i : ∀ σ H Q, t' σ H Q → t σ H Q) : PT X e t' := ⟨fun pins s σ H Q I q => h.run pins s σ H Q I (i _ _ _ q)⟩
theorem PWimp {t t' : TT} (h : PW X e t) (i : ∀ σ H Q, t' σ H Q → t σ H Q) : PW X e t' := ⟨fun w pins s σ H Q I q => h.run w pins s σ H Q I (i _ _ _ q)⟩
theorem PTof {t : TT} (h : PW X e t) : PT X e t := ⟨fun pins s σ H Q I q => h.run _ pins s σ H Q I q⟩
theorem PAimp {es : List Expr} {t t' : TA} (h : PA X es t) (i : ∀ σ H Q, t' σ H Q → t σ H Q) : PA X es t' := ⟨fun p pins s σ H Q I q => h.run p pins s σ H Q I (i _ _ _ q)⟩
end

section
variable {X : Cx} {E : XK} {G : Glb} {a b c : Expr} {pos : Pos} {fa fb fc : Env' → M PV} {ga gb gc : Env' → M Bool}
/-! ### truth -/
theorem truth_ok {K : PySem.W.Frag} {W : Wd} {H : Hp} {v : V} {p : PV} {k : Bool} (A : Ab K W H) (r : Rep K W.as W.F H v p) (h : truthD W.st p = some k) : TruV K v H k := by
  have ie : ∀ {vs : List V} {xs : List PV}, RepL K W.as W.F H vs xs → xs.isEmpty = vs.isEmpty := fun r => by cases r <;> rfl
  have seqs : (seqA W.st p).map (fun xs => !xs.isEmpty) = some k → TruV K v H k := fun h => by
    obtain ⟨xs, e1, e2⟩ := Option.map_eq_some_iff.mp h
    obtain ⟨a, vs, rfl, hs, rr⟩ := seqA_ok A r e1
    rw [ie rr] at e2
    rcases hs with hs | hs
    · exact .inl ⟨vs, hs, e2.symm⟩
    · exact .inr (.inl ⟨vs, hs, e2.symm⟩)
  unfold truthD at h
  split at h
  · cases r; cases h; rfl
  · cases r; cases h; rfl
  · cases r; cases h; rfl
  · cases r
    split at h
    · rename_i hz
      cases h; exact ⟨hz, rfl⟩
    · cases h
  · split at h
    · rename_i xs e1
      refine seqs ?_
      rw [← h]
      simp only [seqA, seqL, seqM, e1, Option.map_some]
    · rename_i kvs e1
      obtain ⟨a, vs, rfl, _, h3, rk⟩ := dict_get A r e1
      cases h
      refine .inr (.inr ⟨vs, h3, ?_⟩)
      cases rk <;> rfl
    · cases h
  · exact seqs h
theorem boolOf_ok {K : PySem.W.Frag} {W : Wd} {H : Hp} {v : V} {p : PV} {Q : Bool → Hp → Prop} (A : Ab K W H) (r : Rep K W.as W.F H v p) (P : Post K E RB W H (boolOf p W.st) Q) : ∃ k, v = .bl k ∧ p = .bl k ∧ Q k H := by
  unfold boolOf at P
  split at P
  · cases r
    exact ⟨_, rfl, rfl, Post.here A P rfl⟩
  · exact P.elim
theorem truthV_ok {K : PySem.W.Frag} {W : Wd} {H : Hp} {v : V} {p : PV} {Q : Bool → Hp → Prop} (A : Ab K W H) (r : Rep K W.as W.F H v p) (P : Post K E RB W H (truthV p W.st) Q) : ∃ k, TruV K v H k ∧ Q k H := by
  unfold truthV at P
  split at P
  · rename_i k e
    exact ⟨k, truth_ok A r e, Post.here A P rfl⟩
  · exact P.elim
/-- a test by its value -/
theorem sTruth (h : PE X a (tG X.K E fa)) (he : ∀ whole, isTrue a X.env whole = (do let v ← whole; standAt a.pos; holding [v] (truthy v))) : PT X a (tGT X.K E fun env => do truthV (← fa env)) :=
  PTimp (pt_truth h he) fun σ H Q q => tR.bind q fun W1 H1 v p env A1 S1 rv P1 => truthV_ok A1 rv P1
/-- a value and a test alike -/
def PB (X : Cx) (E : XK) (a : Expr) (f : EV) : Prop := PE X a (tG X.K E f.e) ∧ PT X a (tGT X.K E f.t)
theorem sVal (h : PE X a (tG X.K E fa)) (he : ∀ whole, isTrue a X.env whole = (do let v ← whole; standAt a.pos; holding [v] (truthy v))) : PB X E a (EV.mk' fa) := ⟨h, sTruth h he⟩

/-! ### names, constants -/
theorem sPure {v : V} {p : PV} (h : PE X a (tC v)) (r : KRep X.K v p) : PE X a (tG X.K E fun _ => pureR p) :=
  PEimp h fun σ H Q ⟨W, env, A, rs, P⟩ => Post.here A P (r _ _ _)
theorem sVar {i : Nat} {x : Str} (hN : X.N[i]? = some x) (hv : Vis X.env.scope x) (hd : (x == ("__debug__" : Str)) = false) (hcd : (x == ("__classdict__" : Str)) = false) : PE X (.Name x pos) (tG X.K E fun env => look env i) :=
  PEimp (pe_var hN hv hd hcd) fun σ H Q ⟨W, env, A, rs, P⟩ => by
    unfold look at P
    dsimp only at P
    split at P
    · rename_i p e
      obtain ⟨v, h1, h2⟩ := rs.2 i p e
      exact ⟨v, h1, Post.here A P h2⟩
    · exact P.elim

/-! ### operators -/
theorem sBin {nw : Bool} (o : BOp) (ha : PE X a (tG X.K E fa)) (hb : PE X b (tG X.K E fb)) : PE X (.BinOp a o.op b pos) (tG X.K E fun env => do
    let x ← fa env
    let y ← fb env
    o.f nw x y) :=
  PEimp (pe_op (bin_ok (nw := nw) (E := E) o) ha hb) fun σ H Q q => tR.bind q fun W1 H1 x p env A1 S1 rx P1 => ⟨W1, env, A1, S1, Post.bind A1 P1 fun W2 H2 y q A2 e2 ry P2 => ⟨W2, p, q, A2, rx.ext e2 A1.sub, ry, P2⟩⟩
theorem sNeg (ha : PE X a (tG X.K E fa)) : PE X (.UnaryOp .USub a pos) (tG X.K E fun env => do negV (← fa env)) :=
  PEimp (pe_un un_neg ha) fun σ H Q q => tR.bind q fun W1 H1 x p env A1 S1 rx P1 => by
    unfold negV at P1
    split at P1
    · cases rx
      exact ⟨_, rfl, Post.here A1 P1 (.int _)⟩
    · exact P1.elim
theorem two_op {f : PV → PV → M PV} (σ : L2.St) (H : Hp) (Q : VK) (q : tG X.K E (fun env => do
    let x ← fa env
    let y ← fb env
    f x y) σ H Q) : tOp (r2 X.K E f) (tG X.K E fa) (tG X.K E fb) σ H Q :=
  tR.bind q fun W1 H1 x p env A1 S1 rx P1 => ⟨W1, env, A1, S1, Post.bind A1 P1 fun W2 H2 y q A2 e2 ry P2 => ⟨W2, p, q, A2, rx.ext e2 A1.sub, ry, P2⟩⟩
/-- a test that is a bool -/
theorem tB_of {f : Env' → M PV} {t : TE} (h : ∀ σ H Q, tG X.K E f σ H Q → t σ H Q) (σ : L2.St) (H : Hp) (Q : Bool → Hp → Prop) (q : tGT X.K E (EV.cmp f).t σ H Q) : t σ H fun x H' => ∃ k, x = .bl k ∧ Q k H' :=
  h _ _ _ (tR.bind q fun W1 H1 x p env A1 S1 rx P1 => let ⟨k, h1, _, h2⟩ := boolOf_ok A1 rx P1; ⟨k, h1, h2⟩)
theorem sCmp (C : CtxOk G X) (o : COp) (ha : PE X a (tG X.K E fa)) (hb : PE X b (tG X.K E fb)) (hm : behindInMarks o.op b = false) : PB X E (.Compare a [o.op] [b] pos) (.cmp fun env => do
    let x ← fa env
    let y ← fb env
    o.f G x y) :=
  ⟨PEimp (pe_cmpR (cmp_ok C o) ha hb hm) two_op, PTimp (pt_cmpR (cmp_ok C o) ha hb hm) (tB_of two_op)⟩
theorem sChain (C : CtxOk G X) (o o' : COp) (ha : PE X a (tG X.K E fa)) (hb : PE X b (tG X.K E fb)) (hc : PE X c (tG X.K E fc)) (hm : lastMarks [o.op, o'.op] [b, c] = false) : PB X E (.Compare a [o.op, o'.op] [b, c] pos) (.cmp fun env => do
    let x ← fa env
    let y ← fb env
    let k ← boolOf (← o.f G x y)
    if k then do
      let z ← fc env
      o'.f G y z
    else pureR (.bl false)) := by
  have key : ∀ σ H Q, tG X.K E (fun env => do
      let x ← fa env
      let y ← fb env
      let k ← boolOf (← o.f G x y)
      if k then do
        let z ← fc env
        o'.f G y z
      else pureR (.bl false)) σ H Q → tChain (r2 X.K E (o.f G)) (r2 X.K E (o'.f G)) (tG X.K E fa) (tG X.K E fb) (tG X.K E fc) σ H Q := fun σ H Q q =>
    tR.bind q fun W1 H1 x p env A1 S1 rx P1 => ⟨W1, env, A1, S1, Post.bind A1 P1 fun W2 H2 y p2 A2 e2 ry P2 => ⟨W2, p, p2, A2, rx.ext e2 A1.sub, ry, Post.bind A2 P2 fun W3 H3 z p3 A3 e3 rz P3 => by
      rw [M.bind_def] at P3
      unfold boolOf at P3
      split at P3
      · rename_i k s' e
        split at e
        · cases e
          cases rz
          refine ⟨_, rfl, ?_⟩
          split at P3
          · rename_i hk
            rw [if_pos hk]
            exact ⟨W3, env, A3, (S1.ext e2 A1.sub).ext e3 A2.sub, Post.bind A3 P3 fun W4 H4 u p4 A4 e4 ru P4 => ⟨W4, p2, p4, A4, (ry.ext e3 A2.sub).ext e4 A3.sub, ru, P4⟩⟩
          · rename_i hk
            rw [if_neg hk]
            exact Post.here A3 P3 (.bl false)
        · cases e
      · rename_i e
        split at e <;> cases e
      · exact P3.elim⟩⟩
  exact ⟨PEimp (pe_chain (cmp_ok C o) (cmp_ok C o') ha hb hc hm) key, PTimp (pt_chain (cmp_ok C o) (cmp_ok C o') ha hb hc hm) (tB_of key)⟩
theorem isN_key {ng : Bool} (σ : L2.St) (H : Hp) (Q : VK) (q : tG X.K E (fun env => do isNV ng (← fa env)) σ H Q) : tG X.K E fa σ H fun x H1 => Q (.bl ((decide (x = .non)) != ng)) H1 :=
  tR.bind q fun W1 H1 x p env A1 S1 rx P1 => by
    have P2 := Post.here A1 P1 (.bl _)
    cases rx <;> exact P2
theorem sIsN {j : Nat} {p2 : Pos} (ha : PE X a (tG X.K E fa)) : PB X E (.Compare a [.Is] [.Constant .none j p2] pos) (.cmp fun env => do isNV false (← fa env)) := by
  have key : ∀ σ H Q, tG X.K E (fun env => do isNV false (← fa env)) σ H Q → tIsN (tG X.K E fa) σ H Q := fun σ H Q q => by
    have h := isN_key σ H Q q
    simp only [Bool.bne_false] at h
    exact h
  exact ⟨PEimp (pe_cmp (pc_isN ha) rfl) key, PTimp (pt_cmp (pc_isN ha) rfl) (tB_of key)⟩
theorem sNotN {j : Nat} {p2 : Pos} (ha : PE X a (tG X.K E fa)) : PB X E (.Compare a [.IsNot] [.Constant .none j p2] pos) (.cmp fun env => do isNV true (← fa env)) := by
  have key : ∀ σ H Q, tG X.K E (fun env => do isNV true (← fa env)) σ H Q → tNotN (tG X.K E fa) σ H Q := fun σ H Q q => by
    have h := isN_key σ H Q q
    simp only [Bool.bne_true] at h
    exact h
  exact ⟨PEimp (pe_cmp (pc_notN ha) rfl) key, PTimp (pt_cmp (pc_notN ha) rfl) (tB_of key)⟩

/-! ### and, or, not -/
theorem andT_key (σ : L2.St) (H : Hp) (Q : Bool → Hp → Prop) (q : tGT X.K E (fun env => do
      let k ← ga env
      if k then gb env else pureR false) σ H Q) : tAnd (tGT X.K E ga) (tGT X.K E gb) σ H Q :=
  tR.bind q fun W1 H1 k k' env A1 S1 rk P1 => by
    cases rk
    split at P1
    · rename_i h; rw [if_pos h]; exact ⟨W1, env, A1, S1, P1⟩
    · rename_i h; rw [if_neg h]; exact Post.here A1 P1 rfl
theorem orT_key (σ : L2.St) (H : Hp) (Q : Bool → Hp → Prop) (q : tGT X.K E (fun env => do
      let k ← ga env
      if k then pureR true else gb env) σ H Q) : tOr (tGT X.K E ga) (tGT X.K E gb) σ H Q :=
  tR.bind q fun W1 H1 k k' env A1 S1 rk P1 => by
    cases rk
    split at P1
    · rename_i h; rw [if_pos h]; exact Post.here A1 P1 rfl
    · rename_i h; rw [if_neg h]; exact ⟨W1, env, A1, S1, P1⟩
theorem andV_key (σ : L2.St) (H : Hp) (Q : VK) (q : tG X.K E (fun env => do
      let x ← fa env
      let k ← truthV x
      if k then fb env else pureR x) σ H Q) : tAndT X.K (tG X.K E fa) (tG X.K E fb) σ H Q :=
  tR.bind q fun W1 H1 x p env A1 S1 rx P1 => by
    rw [M.bind_def] at P1
    unfold truthV at P1
    split at P1
    · rename_i k s' e
      split at e
      · rename_i k' e2
        cases e
        refine ⟨_, truth_ok A1 rx e2, ?_⟩
        split at P1
        · rename_i h; rw [if_pos h]; exact ⟨W1, env, A1, S1, P1⟩
        · rename_i h; rw [if_neg h]; exact Post.here A1 P1 rx
      · cases e
    · rename_i e
      split at e <;> cases e
    · exact P1.elim
theorem orV_key (σ : L2.St) (H : Hp) (Q : VK) (q : tG X.K E (fun env => do
      let x ← fa env
      let k ← truthV x
      if k then pureR x else fb env) σ H Q) : tOrT X.K (tG X.K E fa) (tG X.K E fb) σ H Q :=
  tR.bind q fun W1 H1 x p env A1 S1 rx P1 => by
    rw [M.bind_def] at P1
    unfold truthV at P1
    split at P1
    · rename_i k s' e
      split at e
      · rename_i k' e2
        cases e
        refine ⟨_, truth_ok A1 rx e2, ?_⟩
        split at P1
        · rename_i h; rw [if_pos h]; exact Post.here A1 P1 rx
        · rename_i h; rw [if_neg h]; exact ⟨W1, env, A1, S1, P1⟩
      · cases e
    · rename_i e
      split at e <;> cases e
    · exact P1.elim
theorem sNot (ha : PE X a (tG X.K E fa)) (ht : PT X a (tGT X.K E ga)) : PB X E (.UnaryOp .Not a pos) ⟨fun env => do
      let x ← fa env
      let k ← truthV x
      pureR (.bl (!k)),
    fun env => do
      let k ← ga env
      pureR (!k)⟩ := by
  refine ⟨PEimp (pe_notT ha) fun σ H Q q => tR.bind q fun W1 H1 x p env A1 S1 rx P1 => ?_, PTimp (pt_not ht) fun σ H Q q => tR.bind q fun W1 H1 k k' env A1 S1 rk P1 => ?_⟩
  · rw [M.bind_def] at P1
    unfold truthV at P1
    split at P1
    · rename_i k s' e
      split at e
      · rename_i k' e2
        cases e
        exact ⟨_, truth_ok A1 rx e2, Post.here A1 P1 (.bl _)⟩
      · cases e
    · rename_i e
      split at e <;> cases e
    · exact P1.elim
  · cases rk
    exact Post.here A1 P1 rfl
theorem no_t {t : TT} : ∀ σ H Q, tGT X.K E (fun _ => M.fail) σ H Q → t σ H Q := fun σ H Q ⟨_, _, _, _, P⟩ => P.elim
theorem sIf (hc : PT X c (tGT X.K E gc)) (ha : PE X a (tG X.K E fa)) (hb : PE X b (tG X.K E fb)) : PE X (.IfExp c a b pos) (tG X.K E fun env => do
    let k ← gc env
    if k then fa env else fb env) :=
  PEimp (pe_ifExp hc ha hb) fun σ H Q q => tR.bind q fun W1 H1 k k' env A1 S1 rk P1 => by
    cases rk
    split at P1
    · rename_i h; rw [if_pos h]; exact ⟨W1, env, A1, S1, P1⟩
    · rename_i h; rw [if_neg h]; exact ⟨W1, env, A1, S1, P1⟩
theorem ptNo (t : Env' → M Bool) (h : ∀ env, t env = M.fail) : PT X a (tGT X.K E t) := ⟨fun pins s σ H Q I ⟨W, env, A, rs, P⟩ => by rw [h] at P; exact P.elim⟩

/-! ### arguments, displays -/
theorem star_plain (h : plainE a = true) (es : List Expr) (env : Env) : starEach (a :: es) env = (false, eval a env) :: starEach es env := by
  cases a <;> first | rfl | cases h
theorem sNil : PA X [] (tGA X.K E fun _ => pureR []) := PAimp pa_nil fun σ H Q ⟨W, env, A, rs, P⟩ => Post.here A P .nil
theorem sCons {es : List Expr} {fs : Env' → M (List PV)} (hp : plainE a = true) (ha : PE X a (tG X.K E fa)) (hr : PA X es (tGA X.K E fs)) : PA X (a :: es) (tGA X.K E fun env => do
    let x ← fa env
    let xs ← fs env
    pureR (x :: xs)) :=
  PAimp (pa_cons ha hr (star_plain hp _ _)) fun σ H Q q => tR.bind q fun W1 H1 x p env A1 S1 rx P1 => ⟨W1, env, A1, S1, Post.bind A1 P1 fun W2 H2 y q A2 e2 ry P2 => Post.here A2 P2 (.cons (rx.ext e2 A1.sub) ry)⟩
variable {es : List Expr} {fs : Env' → M (List PV)}
theorem sTup {k : Nat} (h : PA X es (tGA X.K E fs)) : PE X (.Tuple es k pos) (tG X.K E fun env => do mkT (← fs env)) :=
  PEimp (pe_tup h) fun σ H Q q => tR.bind q fun W1 H1 x p env A1 S1 rx P1 => new_tup A1 rx P1
theorem sLst {nw : Bool} (h : PA X es (tGA X.K E fs)) : PE X (.List es pos) (tG X.K E fun env => do mkL nw (← fs env)) :=
  PEimp (pe_lst h) fun σ H Q q => tR.bind q fun W1 H1 x p env A1 S1 rx P1 => new_lst A1 rx P1

/-! ### subscripts, slices -/
theorem sIx (C : CtxOk G X) (ha : PE X a (tG X.K E fa)) (hb : PE X b (tG X.K E fb)) (hs : PlainIx b) : PE X (.Subscript a b pos) (tG X.K E fun env => do
    let x ← fa env
    let y ← fb env
    ixV G x y) :=
  PEimp (pe_ix (ix_ok C) ha hb hs) two_op
theorem sNoPart : L2.PO X none (tGO X.K E fun _ => pureR none) :=
  ⟨fun pins s σ H Q I ⟨W, env, A, rs, P⟩ => po_none.run pins s σ H Q I (Post.here A P rfl)⟩
theorem sPart (h : PE X a (tG X.K E fa)) : L2.PO X (some a) (tGO X.K E fun env => do partOf (← fa env)) :=
  ⟨fun pins s σ H Q I q => (po_some h).run pins s σ H Q I (tR.bind q fun W1 H1 x p env A1 S1 rx P1 => by
    unfold partOf at P1
    split at P1
    · cases rx
      exact ⟨_, rfl, Post.here A1 P1 rfl⟩
    · exact P1.elim)⟩
theorem sSl {nw : Bool} {lo hi : Option Expr} {fl fh : Env' → M (Option Int)} {p2 : Pos} (ha : PE X a (tG X.K E fa)) (hl : L2.PO X lo (tGO X.K E fl)) (hh : L2.PO X hi (tGO X.K E fh)) : PE X (.Subscript a (.Slice lo hi none p2) pos) (tG X.K E fun env => do
    let x ← fa env
    let l ← fl env
    let h ← fh env
    slV nw x l h) :=
  PEimp (pe_slice (sl_ok (nw := nw) (E := E)) ha hl hh) fun σ H Q q => tR.bind q fun W1 H1 x p env A1 S1 rx P1 => ⟨W1, env, A1, S1, Post.bind A1 P1 fun W2 H2 l l' A2 e2 rl P2 => by
    cases rl
    exact ⟨W2, env, A2, S1.ext e2 A1.sub, Post.bind A2 P2 fun W3 H3 h h' A3 e3 rh P3 => by
      cases rh
      exact ⟨W3, p, A3, (rx.ext e2 A1.sub).ext e3 A2.sub, P3⟩⟩⟩
end
end PL

/-! PL, part I0: zip and enumerate of lists and tuples alike, strict or not, at the library's level. -/
namespace PL
open PySem PySem.Spec PyProof.Rows L2
open PySem.Sem (wp)

/-- an iterator of a list (false), of a tuple (true) -/
def ItAt (h : Heap) : Bool → Addr → Addr → Nat → Prop
  | false => h.IsListIter
  | true => h.IsTupleIter
def ObAt (h : Heap) : Bool → Addr → Array Value → Prop
  | false => h.IsList
  | true => h.IsTuple
section
variable {h h' : Heap} {k : Bool} {a b l : Addr} {i : Nat} {xs : Array Value}
theorem ItAt.extBut (x : ItAt h k a l i) (hs : Heap.ExtBut b h h') (n : a ≠ b) : ItAt h' k a l i := by
  cases k
  · exact Heap.IsListIter.extBut x hs n
  · exact Heap.IsTupleIter.extBut x hs n
theorem ItAt.at (x : ItAt h k a l i) (e : ∀ o, h.get? a = some o → h'.get? a = some o) : ItAt h' k a l i := by
  cases k
  · exact Heap.IsListIter.at x e
  · exact Heap.IsTupleIter.at x e
theorem ItAt.obj (x : ItAt h k a l i) : ∃ o vs, h.get? a = some o ∧ o.data = .fields vs := by
  cases k <;> (obtain ⟨o, e, _, d⟩ := x; exact ⟨o, _, e, d⟩)
theorem ObAt.extBut (x : ObAt h k a xs) (hs : Heap.ExtBut b h h') (n : a ≠ b) : ObAt h' k a xs := by
  cases k
  · exact Heap.IsList.extBut x hs n
  · exact Heap.IsTuple.extBut x hs n
theorem ObAt.push (x : ObAt h k a xs) (o : Obj) : ObAt (h.push o) k a xs := by
  cases k
  · exact Heap.IsList.push x o
  · exact Heap.IsTuple.push x o
theorem ObAt.lt (x : ObAt h k a xs) : a < h.objs.size := by
  cases k <;> (obtain ⟨o, e, _⟩ := x; exact Heap.lt_size e)
end
section
variable {prog : Program} {w : World} {A : Around} {E : Value → Shared → Prop} {s : Shared}
theorem nextOf_item {k : Bool} {it l : Addr} {i : Nat} {items : Array Value} {x : Value} {Q : Value → Shared → Prop} (hit : ItAt s.heap k it l i) (hl : ObAt s.heap k l items) (hx : items[i]? = some x)
    (hQ : ∀ h', ItAt h' k it l (i + 1) → Heap.SameBut it s.heap h' → Q x { s with heap := h' }) : wpAny (model prog w) A (Builtin.SmallTypes.nextOf (.ref it)) Q E s := by
  cases k
  · exact wpAny_nextOf_list_item hit hl hx hQ
  · exact RZ.nextOf_tuple_item hit hl hx hQ
theorem nextOf_end {k : Bool} {it l : Addr} {i : Nat} {items : Array Value} {Q : Value → Shared → Prop} (hh : A.handled = none) (hit : ItAt s.heap k it l i) (hl : ObAt s.heap k l items) (hx : items[i]? = none)
    (hE : ∀ h' e, Heap.ExtBut it s.heap h' → (∃ o, h'.get? e = some o ∧ o.cls = .type "StopIteration") → E (.ref e) { s with heap := h' }) : wpAny (model prog w) A (Builtin.SmallTypes.nextOf (.ref it)) Q E s := by
  cases k
  · exact wpAny_nextOf_list_end hh hit hl hx hE
  · exact RZ.nextOf_tuple_end hh hit hl hx hE
theorem nextOrEnd_item {k : Bool} {it l : Addr} {i : Nat} {items : Array Value} {x : Value} {Q : Option Value → Shared → Prop} (hit : ItAt s.heap k it l i) (hl : ObAt s.heap k l items) (hx : items[i]? = some x)
    (hQ : ∀ h', ItAt h' k it l (i + 1) → Heap.SameBut it s.heap h' → Q (some x) { s with heap := h' }) : wpAny (model prog w) A (Builtin.SmallTypes.nextOrEnd (.ref it)) Q E s := by
  unfold Builtin.SmallTypes.nextOrEnd
  exact wpAny_bind (wpAny_attempt (nextOf_item hit hl hx fun h' a b => wpAny_pure (hQ h' a b)))
theorem nextOrEnd_end {k : Bool} {it l : Addr} {i : Nat} {items : Array Value} {Q : Option Value → Shared → Prop} (hh : A.handled = none) (hit : ItAt s.heap k it l i) (hl : ObAt s.heap k l items) (hx : items[i]? = none)
    (hQ : ∀ h', Heap.ExtBut it s.heap h' → Q none { s with heap := h' }) : wpAny (model prog w) A (Builtin.SmallTypes.nextOrEnd (.ref it)) Q E s := by
  unfold Builtin.SmallTypes.nextOrEnd
  refine wpAny_bind (wpAny_attempt (nextOf_end hh hit hl hx fun h' e hs he => ?_))
  obtain ⟨o, ho, hc⟩ := he
  exact wpAny_bind (wpAny_isInstance (T := "StopIteration") (b := true) ⟨o, ho, hc⟩ isSubtype_stop (wpAny_pure (hQ h' hs)))
/-- a draw of zip: some item -/
theorem draw_item {st k : Bool} {it l : Addr} {i : Nat} {items : Array Value} {x : Value} {Q : Option Value → Shared → Prop} (hit : ItAt s.heap k it l i) (hl : ObAt s.heap k l items) (hx : items[i]? = some x)
    (hQ : ∀ h', ItAt h' k it l (i + 1) → Heap.SameBut it s.heap h' → Q (some x) { s with heap := h' }) :
    wpAny (model prog w) A (if st = true then Builtin.SmallTypes.nextOrEnd (.ref it) else do return some (← Builtin.SmallTypes.nextOf (.ref it))) Q E s := by
  cases st
  · rw [if_neg Bool.false_ne_true]
    exact wpAny_bind (nextOf_item hit hl hx fun h' a b => wpAny_pure (hQ h' a b))
  · rw [if_pos rfl]
    exact nextOrEnd_item hit hl hx hQ

abbrev ZipAt (h : Heap) (st : Bool) (z TI TO : Addr) (f0 : Value) : Prop :=
  h.get? z = some { cls := .type "zip", dict := none, data := .fields #[f0, .bool false, .bool st, .ref TI, .ref TO], slots := #[] }
theorem zip_item {st k k' : Bool} {z TI TO i1 i2 l1 l2 : Addr} {n1 n2 : Nat} {xs ys : Array Value} {x y a b : Value} {Q : Value → Shared → Prop} (D : ZipApart z TI TO i1 i2 l1 l2)
    (hz : ZipAt s.heap st z TI TO .none) (hTI : IsPair s.heap TI (.ref i1) (.ref i2)) (hTO : IsPair s.heap TO a b)
    (h1 : ItAt s.heap k i1 l1 n1) (h2 : ItAt s.heap k' i2 l2 n2) (o1 : ObAt s.heap k l1 xs) (o2 : ObAt s.heap k' l2 ys) (hx : xs[n1]? = some x) (hy : ys[n2]? = some y)
    (hQ : ∀ h', ZipAt h' st z TI TO (rawInt s.heap.objs.size) → IsPair h' TO x y → ItAt h' k i1 l1 (n1 + 1) → ItAt h' k' i2 l2 (n2 + 1) → IsPair h' s.heap.objs.size x y → h'.objs.size = s.heap.objs.size + 1 →
      (∀ c o, c ≠ z → c ≠ TO → c ≠ i1 → c ≠ i2 → s.heap.get? c = some o → h'.get? c = some o) → Q (.ref s.heap.objs.size) { s with heap := h' }) :
    wpAny (model prog w) A (Builtin.«zip.__next__» ⟨[.ref z], []⟩) (fun fin s' => ∃ v, fin = .done (.ret v) ∧ Q v s') E s := by
  show wpAny _ _ (field (.ref z) 2 >>= _) _ _ _
  refine wpAny_bind (wpAny_field hz rfl (x := .bool st) rfl ?_)
  show wpAny _ _ (field (.ref z) 3 >>= _) _ _ _
  refine wpAny_bind (wpAny_field hz rfl (x := .ref TI) rfl ?_)
  refine wpAny_bind (wpAny_seqItems hTI rfl ?_)
  show wpAny _ _ (Builtin.SmallTypes.ownedTupleIsFree (.ref z) >>= _) _ _ _
  refine wpAny_bind ?_
  unfold Builtin.SmallTypes.ownedTupleIsFree
  refine wpAny_bind (wpAny_field hz rfl (x := .none) rfl (wpAny_pure ?_))
  simp only [if_true]
  refine wpAny_bind (wpAny_rule (wpAny_bind (wpAny_field hz rfl (x := .ref TO) rfl (wpAny_bind (wpAny_setField_rec hz (by simp) fun g1 z1 s1 => ?_)))))
  replace z1 : ZipAt g1 st z TI TO .ellipsis := z1
  refine wpAny_bind ?_
  simp only [List.zipIdx_cons, List.zipIdx_nil, List.forIn_cons, List.forIn_nil]
  have st' : (Value.bool st == Value.bool true) = st := by cases st <;> rfl
  rw [st']
  refine wpAny_bind (wpAny_bind (wpAny_onRaise ?_))
  refine draw_item (st := st) (h1.extBut s1.extBut D.i1z) (o1.extBut s1.extBut D.l1z) hx fun g2 a2 s2 => ?_
  have t2 : IsPair g2 TO a b := s2.extBut _ _ D.TOi1 (s1.extBut _ _ D.TOz hTO)
  refine wpAny_bind (wpAny_seqItems t2 rfl (wpAny_bind (wpAny_updateSeq_pair t2 fun g3 t3 s3 => ?_)))
  replace t3 : IsPair g3 TO x b := t3
  refine wpAny_bind (wpAny_letGo (wpAny_pure ?_))
  refine wpAny_bind (wpAny_bind (wpAny_onRaise ?_))
  refine draw_item (st := st) (((h2.extBut s1.extBut D.i2z).extBut s2.extBut D.i12.symm).extBut s3.extBut D.TOi2.symm) (((o2.extBut s1.extBut D.l2z).extBut s2.extBut D.l2i1).extBut s3.extBut D.l2TO) hy fun g4 a4 s4 => ?_
  have t4 : IsPair g4 TO x b := s4.extBut _ _ D.TOi2 t3
  refine wpAny_bind (wpAny_seqItems t4 rfl (wpAny_bind (wpAny_updateSeq_pair t4 fun g5 t5 s5 => ?_)))
  replace t5 : IsPair g5 TO x y := t5
  refine wpAny_bind (wpAny_letGo (wpAny_pure (wpAny_pure ?_)))
  refine wpAny_bind (wpAny_seqItems t5 rfl (wpAny_bind (wpAny_newTuple ?_)))
  have hsz : g5.objs.size = s.heap.objs.size := by rw [s5.1, s4.1, s3.1, s2.1, s1.1]
  have z5 : ZipAt g5 st z TI TO .ellipsis := s5.extBut _ _ D.TOz.symm (s4.extBut _ _ D.i2z.symm (s3.extBut _ _ D.TOz.symm (s2.extBut _ _ D.i1z.symm z1)))
  have keep5 : ∀ c o, c ≠ z → c ≠ TO → c ≠ i1 → c ≠ i2 → s.heap.get? c = some o → g5.get? c = some o := fun c o c1 c2 c3 c4 e =>
    s5.extBut _ _ c2 (s4.extBut _ _ c4 (s3.extBut _ _ c2 (s2.extBut _ _ c3 (s1.extBut _ _ c1 e))))
  have a5 : ItAt g5 k i1 l1 (n1 + 1) := ((a2.extBut s3.extBut D.TOi1.symm).extBut s4.extBut D.i12).extBut s5.extBut D.TOi1.symm
  have b5 : ItAt g5 k' i2 l2 (n2 + 1) := a4.extBut s5.extBut D.TOi2.symm
  have ltz : z < g5.objs.size := Heap.lt_size z5
  show wpAny _ _ (Builtin.SmallTypes.ownedTupleHandOut (.ref z) (.ref g5.objs.size) >>= _) _ _ _
  refine wpAny_bind ?_
  unfold Builtin.SmallTypes.ownedTupleHandOut
  have z6 : ZipAt (g5.push { cls := .type "tuple", data := .seq #[x, y] }) st z TI TO .ellipsis := Heap.get?_push_of_some _ z5
  refine wpAny_bind (wpAny_setField_rec z6 (by simp) fun g7 z7 s7 => ?_)
  replace z7 : ZipAt g7 st z TI TO (rawInt g5.objs.size) := z7
  refine wpAny_setField_rec z7 (by simp) fun g8 z8 s8 => ?_
  replace z8 : ZipAt g8 st z TI TO (rawInt g5.objs.size) := z8
  have up : ∀ c o, c ≠ z → g5.get? c = some o → g8.get? c = some o := fun c o c1 e => s8.extBut _ _ c1 (s7.extBut _ _ c1 (Heap.get?_push_of_some _ e))
  have p8 : IsPair g8 g5.objs.size x y := s8.extBut _ _ (Nat.ne_of_gt ltz) (s7.extBut _ _ (Nat.ne_of_gt ltz) (Heap.get?_push_size _ rfl))
  have q8 : g8.objs.size = g5.objs.size + 1 := by rw [s8.1, s7.1, Heap.size_push]
  rw [hsz] at z8 p8 q8
  refine wpAny_pure ⟨_, rfl, ?_⟩
  show Q (.ref g5.objs.size) _
  rw [hsz]
  exact hQ g8 z8 (up _ _ D.TOz t5) (a5.at fun o e => up _ o D.i1z e) (b5.at fun o e => up _ o D.i2z e) p8 q8 fun c o c1 c2 c3 c4 e => up c o c1 (keep5 c o c1 c2 c3 c4 e)

/-- both have come to their ends: strict alike -/
theorem zip_stop {st k k' : Bool} {z TI TO i1 i2 l1 l2 : Addr} {n1 n2 : Nat} {xs ys : Array Value} {a b : Value} {Q : Fin → Shared → Prop} (hh : A.handled = none) (D : ZipApart z TI TO i1 i2 l1 l2)
    (hz : ZipAt s.heap st z TI TO .none) (hTI : IsPair s.heap TI (.ref i1) (.ref i2)) (hTO : IsPair s.heap TO a b)
    (h1 : ItAt s.heap k i1 l1 n1) (h2 : ItAt s.heap k' i2 l2 n2) (o1 : ObAt s.heap k l1 xs) (o2 : ObAt s.heap k' l2 ys) (hend : if st = true then xs[n1]? = none ∧ ys[n2]? = none else xs[n1]? = none ∨ ys[n2]? = none)
    (hE : ∀ h' e, (∀ c o, c ≠ z → c ≠ TO → c ≠ i1 → c ≠ i2 → s.heap.get? c = some o → h'.get? c = some o) → (∃ o, h'.get? e = some o ∧ o.cls = .type "StopIteration") → E (.ref e) { s with heap := h' }) :
    wpAny (model prog w) A (Builtin.«zip.__next__» ⟨[.ref z], []⟩) Q E s := by
  show wpAny _ _ (field (.ref z) 2 >>= _) _ _ _
  refine wpAny_bind (wpAny_field hz rfl (x := .bool st) rfl ?_)
  show wpAny _ _ (field (.ref z) 3 >>= _) _ _ _
  refine wpAny_bind (wpAny_field hz rfl (x := .ref TI) rfl ?_)
  refine wpAny_bind (wpAny_seqItems hTI rfl ?_)
  show wpAny _ _ (Builtin.SmallTypes.ownedTupleIsFree (.ref z) >>= _) _ _ _
  refine wpAny_bind ?_
  unfold Builtin.SmallTypes.ownedTupleIsFree
  refine wpAny_bind (wpAny_field hz rfl (x := .none) rfl (wpAny_pure ?_))
  simp only [if_true]
  refine wpAny_bind (wpAny_rule (wpAny_bind (wpAny_field hz rfl (x := .ref TO) rfl (wpAny_bind (wpAny_setField_rec hz (by simp) fun g1 z1 s1 => ?_)))))
  replace z1 : ZipAt g1 st z TI TO .ellipsis := z1
  refine wpAny_bind ?_
  simp only [List.zipIdx_cons, List.zipIdx_nil, List.forIn_cons, List.forIn_nil]
  have st' : (Value.bool st == Value.bool true) = st := by cases st <;> rfl
  rw [st']
  refine wpAny_bind (wpAny_bind (wpAny_onRaise ?_))
  cases st with
  | false =>
    show wpAny _ _ (Builtin.SmallTypes.nextOf (.ref i1) >>= _) _ _ _
    have hend : xs[n1]? = none ∨ ys[n2]? = none := hend
    cases hx : xs[n1]? with
    | none =>
      refine wpAny_bind (nextOf_end hh (h1.extBut s1.extBut D.i1z) (o1.extBut s1.extBut D.l1z) hx fun g2 e s2 he => ?_)
      obtain ⟨oe, hoe, hce⟩ := he
      have z2 : ZipAt g2 false z TI TO .ellipsis := s2 _ _ D.i1z.symm z1
      have nez : e ≠ z := fun y => by subst y; rw [z2] at hoe; cases hoe; simp at hce
      exact wpAny_setField_rec z2 (by simp) fun g3 _ s3 => hE g3 e (fun c o c1 _ c3 _ y => s3.extBut _ _ c1 (s2 _ _ c3 (s1.extBut _ _ c1 y))) ⟨oe, s3.extBut _ _ nez hoe, hce⟩
    | some x =>
      have hy : ys[n2]? = none := by
        rcases hend with q | q
        · rw [hx] at q; cases q
        · exact q
      refine wpAny_bind (nextOf_item (h1.extBut s1.extBut D.i1z) (o1.extBut s1.extBut D.l1z) hx fun g2 a2 s2 => wpAny_pure ?_)
      have t2 : IsPair g2 TO a b := s2.extBut _ _ D.TOi1 (s1.extBut _ _ D.TOz hTO)
      refine wpAny_bind (wpAny_seqItems t2 rfl (wpAny_bind (wpAny_updateSeq_pair t2 fun g3 t3 s3 => wpAny_bind (wpAny_letGo (wpAny_pure ?_)))))
      refine wpAny_bind (wpAny_bind (wpAny_onRaise ?_))
      show wpAny _ _ (Builtin.SmallTypes.nextOf (.ref i2) >>= _) _ _ _
      refine wpAny_bind (nextOf_end hh (((h2.extBut s1.extBut D.i2z).extBut s2.extBut D.i12.symm).extBut s3.extBut D.TOi2.symm) (((o2.extBut s1.extBut D.l2z).extBut s2.extBut D.l2i1).extBut s3.extBut D.l2TO) hy fun g4 e s4 he => ?_)
      obtain ⟨oe, hoe, hce⟩ := he
      have z4 : ZipAt g4 false z TI TO .ellipsis := s4 _ _ D.i2z.symm (s3.extBut _ _ D.TOz.symm (s2.extBut _ _ D.i1z.symm z1))
      have nez : e ≠ z := fun y => by subst y; rw [z4] at hoe; cases hoe; simp at hce
      exact wpAny_setField_rec z4 (by simp) fun g5 _ s5 => hE g5 e (fun c o c1 c2 c3 c4 y => s5.extBut _ _ c1 (s4 _ _ c4 (s3.extBut _ _ c2 (s2.extBut _ _ c3 (s1.extBut _ _ c1 y))))) ⟨oe, s5.extBut _ _ nez hoe, hce⟩
  | true =>
    obtain ⟨hx, hy⟩ : xs[n1]? = none ∧ ys[n2]? = none := hend
    show wpAny _ _ (Builtin.SmallTypes.nextOrEnd (.ref i1)) _ _ _
    refine nextOrEnd_end hh (h1.extBut s1.extBut D.i1z) (o1.extBut s1.extBut D.l1z) hx fun g2 s2 => ?_
    have z2 : ZipAt g2 true z TI TO .ellipsis := s2 _ _ D.i1z.symm z1
    refine wpAny_bind (wpAny_setField_rec z2 (by simp) fun g3 z3 s3 => ?_)
    refine wpAny_bind ?_
    show wpAny _ _ (forIn [(Value.ref i2, 1)] _ _ >>= _) _ _ _
    simp only [List.forIn_cons, List.forIn_nil]
    refine wpAny_bind (wpAny_bind (wpAny_bind (nextOrEnd_end hh (((h2.extBut s1.extBut D.i2z).extBut s2 D.i12.symm).extBut s3.extBut D.i2z) (((o2.extBut s1.extBut D.l2z).extBut s2 D.l2i1).extBut s3.extBut D.l2z) hy fun g4 s4 => ?_)))
    rw [if_neg (by exact Bool.false_ne_true)]
    refine wpAny_pure (wpAny_pure (wpAny_bind (wpAny_rule ?_)))
    show wpAny _ _ (newExc (.type "StopIteration") [] >>= fun e => raiseNew e) _ _ _
    refine wpAny_bind ?_
    simp only [newExc, newTuple]
    refine wpAny_bind (wpAny_newObj_type ?_ (by size_fits))
    refine wpAny_bind (m := firstArgMember _ _) (wpAny_of_eq (a := Value.none) (by first | rfl | (simp only [firstArgMember]; rfl)) ?_)
    refine wpAny_newObj_type ?_ (by size_fits)
    simp only [raiseNew]
    refine wpAny_bind (wpAny_handled ?_)
    first | rw [show A.in1.handled = none from hh] | rw [hh]
    refine wpAny_bind (wpAny_pure (wpAny_throw ?_))
    refine hE _ _ (fun c o c1 c2 c3 c4 y => ?_) ⟨_, Heap.get?_push_size _ rfl, rfl⟩
    exact Heap.get?_push_of_some _ (Heap.get?_push_of_some _ (s4 _ _ c4 (s3.extBut _ _ c1 (s2 _ _ c3 (s1.extBut _ _ c1 y)))))
end
end PL

/-! PL, part I1: zip and enumerate made. -/
namespace PL
open PySem PySem.Spec PyProof.Rows L2
open PySem.Sem (wp)
section
variable {prog : Program} {w : World} {A : Around} {E : Value → Shared → Prop} {s : Shared}
theorem zip_next {st k k' : Bool} {z TI TO i1 i2 l1 l2 : Addr} {n1 n2 : Nat} {xs ys : Array Value} {x y a b : Value} {Q : Option Value → Shared → Prop} (D : ZipApart z TI TO i1 i2 l1 l2)
    (hz : ZipAt s.heap st z TI TO .none) (hTI : IsPair s.heap TI (.ref i1) (.ref i2)) (hTO : IsPair s.heap TO a b)
    (h1 : ItAt s.heap k i1 l1 n1) (h2 : ItAt s.heap k' i2 l2 n2) (o1 : ObAt s.heap k l1 xs) (o2 : ObAt s.heap k' l2 ys) (hx : xs[n1]? = some x) (hy : ys[n2]? = some y)
    (hQ : ∀ h', ZipAt h' st z TI TO (rawInt s.heap.objs.size) → IsPair h' TO x y → ItAt h' k i1 l1 (n1 + 1) → ItAt h' k' i2 l2 (n2 + 1) → IsPair h' s.heap.objs.size x y → h'.objs.size = s.heap.objs.size + 1 →
      (∀ c o, c ≠ z → c ≠ TO → c ≠ i1 → c ≠ i2 → s.heap.get? c = some o → h'.get? c = some o) → Q (some (.ref s.heap.objs.size)) { s with heap := h' }) :
    wpAny (model prog w) A (pyNext (.ref z)) Q E s := by
  have ty : s.TypeIs (.ref z) "zip" := ⟨_, hz, rfl⟩
  unfold pyNext
  exact wpAny_bind (wpAny_attempt (wpAny_callSpecial?_slot (name := Str.ofString "__next__") ty F.slot_zip_next
    (wpAny_call_entry F.slot_zip_next ty F.entry_zip_next (zip_item D hz hTI hTO h1 h2 o1 o2 hx hy fun h' c1 c2 c3 c4 c5 c6 c7 => wpAny_pure (hQ h' c1 c2 c3 c4 c5 c6 c7)) (F.args_zip_next_1 _))))
theorem zip_over {st k k' : Bool} {z TI TO i1 i2 l1 l2 : Addr} {n1 n2 : Nat} {xs ys : Array Value} {a b : Value} {Q : Option Value → Shared → Prop} (hh : A.handled = none) (D : ZipApart z TI TO i1 i2 l1 l2)
    (hz : ZipAt s.heap st z TI TO .none) (hTI : IsPair s.heap TI (.ref i1) (.ref i2)) (hTO : IsPair s.heap TO a b)
    (h1 : ItAt s.heap k i1 l1 n1) (h2 : ItAt s.heap k' i2 l2 n2) (o1 : ObAt s.heap k l1 xs) (o2 : ObAt s.heap k' l2 ys) (hend : if st = true then xs[n1]? = none ∧ ys[n2]? = none else xs[n1]? = none ∨ ys[n2]? = none)
    (hQ : ∀ h', (∀ c o, c ≠ z → c ≠ TO → c ≠ i1 → c ≠ i2 → s.heap.get? c = some o → h'.get? c = some o) → Q none { s with heap := h' }) : wpAny (model prog w) A (pyNext (.ref z)) Q E s := by
  have ty : s.TypeIs (.ref z) "zip" := ⟨_, hz, rfl⟩
  unfold pyNext
  refine wpAny_bind (wpAny_attempt (wpAny_callSpecial?_slot (name := Str.ofString "__next__") ty F.slot_zip_next
    (wpAny_call_entry F.slot_zip_next ty F.entry_zip_next (zip_stop hh D hz hTI hTO h1 h2 o1 o2 hend fun h' e hk he => ?_) (F.args_zip_next_1 _))))
  obtain ⟨o, ho, hc⟩ := he
  exact wpAny_bind (wpAny_isInstance (T := "StopIteration") (b := true) ⟨o, ho, hc⟩ isSubtype_stop (wpAny_pure (hQ _ hk)))
theorem letGo_zip {st : Bool} {elts : List Expr} {x1 : Nat} {pos : Pos} {z TI TO T : Addr} {Q : Unit → Shared → Prop} (hz : ZipAt s.heap st z TI TO (rawInt T)) (hQ : ∀ h', ZipAt h' st z TI TO .none → Heap.SameBut z s.heap h' → Q () { s with heap := h' }) :
    wpAny (model prog w) A (letOwnedTupleGo (.Tuple elts x1 pos) (.ref z) (.ref T)) Q E s := by
  unfold letOwnedTupleGo
  refine wpAny_bind (wpAny_load hz ?_)
  show wpAny _ _ (if (["enumerate", "zip", "dict_itemiterator", "dict_reverseitemiterator", "odict_iterator", "itertools.zip_longest", "itertools.pairwise"].contains "zip" &&
      (#[rawInt T, .bool false, .bool st, .ref TI, .ref TO] : Array Value)[0]? == some (rawInt T)) = true then _ else _) Q E s
  rw [if_pos (by simp)]
  refine wpAny_bind (wpAny_rule ?_)
  show wpAny _ _ (setField (.ref z) 0 .none) Q E s
  exact wpAny_setField_rec hz (by simp) fun h' hz' hs' => hQ h' hz' hs'
theorem iter_zip {st : Bool} {z TI TO : Addr} {f0 : Value} {Q : Value → Shared → Prop} (hz : ZipAt s.heap st z TI TO f0) (h : Q (.ref z) s) : wpAny (model prog w) A (pyIter (.ref z)) Q E s := by
  have ty : s.TypeIs (.ref z) "zip" := ⟨_, hz, rfl⟩
  refine wpAny_pyIter_slot ty F.slot_zip_iter (wpAny_call_entry F.slot_zip_iter ty F.entry_zip_iter ?_ (F.args_zip_iter_1 _))
  show wpAny _ _ (ret (.ref z)) _ _ s
  exact wpAny_pure ⟨_, rfl, "zip", _, ty, F.slot_zip_next.lookup, h⟩
/-- an iterator just made -/
def itObj (k : Bool) (l : Addr) : Obj := match k with
  | false => { cls := .type "list_iterator", data := .fields #[.ref l, .int 0 0] }
  | true => { cls := .type "tuple_iterator", data := .fields #[.ref l, .int 0 0] }
theorem itObj_at {h : Heap} {k : Bool} {l it : Addr} (e : h.get? it = some (itObj k l)) : ItAt h k it l 0 := by
  cases k <;> exact ⟨_, e, rfl, rfl⟩
theorem iter_seq {k : Bool} {l : Addr} {xs : Array Value} {Q : Value → Shared → Prop} (o : ObAt s.heap k l xs) (h : Q (.ref s.heap.objs.size) { s with heap := s.heap.push (itObj k l) }) : wpAny (model prog w) A (pyIter (.ref l)) Q E s := by
  cases k
  · exact wpAny_pyIter_list o h
  · exact wpAny_pyIter_tuple o h
abbrev zH1 (k : Bool) (l1 : Addr) (h : Heap) : Heap := h.push (itObj k l1)
abbrev zH2 (k k' : Bool) (l1 l2 : Addr) (h : Heap) : Heap := (zH1 k l1 h).push (itObj k' l2)
abbrev zH3 (k k' : Bool) (l1 l2 : Addr) (h : Heap) : Heap := (zH2 k k' l1 l2 h).push { cls := .type "tuple", data := .seq #[.ref h.objs.size, .ref (zH1 k l1 h).objs.size] }
abbrev zH4 (k k' : Bool) (l1 l2 : Addr) (h : Heap) : Heap := (zH3 k k' l1 l2 h).push { cls := .type "tuple", data := .seq #[.none, .none] }
abbrev zH5 (st k k' : Bool) (l1 l2 : Addr) (h : Heap) : Heap := (zH4 k k' l1 l2 h).push { cls := .type "zip", data := .fields #[.none, .bool false, .bool st, .ref (zH2 k k' l1 l2 h).objs.size, .ref (zH3 k k' l1 l2 h).objs.size] }
def kwOf : Bool → List (Str × Value)
  | false => []
  | true => [("strict", .bool true)]
theorem zip_new (st k k' : Bool) (l1 l2 : Addr) (xs ys : Array Value) : Meets (Builtin.«zip.__new__» ⟨[.type "zip", .ref l1, .ref l2], kwOf st⟩) (fun _ R s => ObAt s.heap k l1 xs ∧ ObAt s.heap k' l2 ys ∧
      R (.ok (.ret (.ref (zH4 k k' l1 l2 s.heap).objs.size))) { s with heap := zH5 st k k' l1 l2 s.heap }) :=
  .of_wp fun prog w A R s h => by
    obtain ⟨hp, g, d, tk, os⟩ := s
    obtain ⟨o1, o2, h⟩ := h
    have hsub := sub_zip
    have q1 : ObAt (Shared.heap ⟨hp, g, d, tk, os⟩) k l1 xs := o1
    have q2 : ObAt (Shared.heap ⟨hp.push (itObj k l1), g, d, tk, os⟩) k' l2 ys := o2.push _
    cases st with
    | false =>
      wp_walk using iter_seq q1, iter_seq q2
      exact ⟨_, rfl, h⟩
    | true =>
      wp_walk using iter_seq q1, iter_seq q2
      exact ⟨_, rfl, h⟩
/-- a type called with keywords: made by __new__, then object.__init__ -/
theorem zip_typeCall (st : Bool) (a b : Value) : checkTypeCall "zip" ⟨[a, b], kwOf st⟩ = pure () := by cases st <;> kernel_rfl
theorem zip_newCall (st : Bool) (a b : Value) : checkBuiltinCall "zip.__new__" ⟨[.type "zip", a, b], kwOf st⟩ = pure () := by cases st <;> kernel_rfl
theorem zip_initOk (st : Bool) (a b c : Value) : argsOk "object.__init__" ⟨[a, b, c], kwOf st⟩ := by
  cases st
  · exact F.args_object_init_3 a b c
  · unfold argsOk; rw [signature?_of (id := "object.__init__") (n := ['_', '_', 't', 'i', 'n', 'i', '_', '_']) (o := ['t', 'c', 'e', 'j', 'b', 'o']) (by kernel_rfl) F.owner_object]; kernel_rfl
theorem init_kw {T newId : String} {self : Value} {rest : List Value} {kw : List (Str × Value)} (hl : typeLookup (.type T) "__init__" = pure (some (.builtin "object.__init__")))
    (hm : Bind.madeBy (.type T) = pure (some newId)) (hne : (some newId != some "object.__new__") = true) (hr : rest ≠ []) :
    Meets (Builtin.«object.__init__» ⟨self :: rest, kw⟩) (fun _ R s => s.TypeIs self T ∧ R (.ok (.ret .none)) s) := by
  refine Meets.of_wp fun prog w A R s hs => ?_
  obtain ⟨hT, hq⟩ := hs
  cases rest with
  | nil => exact absurd rfl hr
  | cons a rest =>
    repeat (any_goals (first | assumption | wp_step))
    exact ⟨_, rfl, hq⟩
theorem zip_call (st : Bool) {l1 l2 : Addr} {S : PySem.Spec} {Q : Value → Shared → Prop} (g : Meets (Builtin.«zip.__new__» ⟨[.type "zip", .ref l1, .ref l2], kwOf st⟩) S)
    (h : S A.in1 (wants (fun obj s₁ => s₁.TypeIs obj "zip" ∧ Q obj s₁) E) s) : wpAny (model prog w) A (call (.type "zip") [.ref l1, .ref l2] (kwOf st)) Q E s := by
  have ft := F.called_zip
  obtain ⟨c, tl, hmro⟩ := ft.mro
  have made := ft.made
  have sub := ft.sub
  refine wpAny_call (codeAny_of_tree ?_)
  show wpAny _ _ (callAny (.type "zip") _) _ _ _
  refine wpAny_pure ⟨Code.quiet_builtin _ (by decide +kernel), codeAny_builtin F.entry_type_call ?_⟩
  rw [Around.under_plain (weight_type_call_type "zip" [.ref l1, .ref l2] (kwOf st)) (units_type_call_type "zip" [.ref l1, .ref l2] (kwOf st))]
  have e1 := ft.notType
  have e2 := ft.canCreate
  have tc := zip_typeCall st (.ref l1) (.ref l2)
  repeat (any_goals (first | assumption | wp_step))
  refine codeAny_mono (codeAny_call_builtin ft.plain F.entry_zip_new (wpAny_of_eq (zip_newCall st (.ref l1) (.ref l2)) (g prog w A.in1 _ s h))) fun r s₁ hr => ?_
  match r, hr with
  | .error e, hr => exact hr
  | .ok .next, hr => exact hr.elim
  | .ok .brk, hr => exact hr.elim
  | .ok .cont, hr => exact hr.elim
  | .ok (.ret obj), ⟨ty, q⟩ =>
    have li := ft.init.lookup
    have bi := ft.init.bind obj
    repeat (any_goals (first | assumption | wp_step))
    refine codeAny_mono (codeAny_call_builtin ft.init.plain F.entry_object_init (ft.init.check _ _ _ _ _ _ _ _ ty (zip_initOk st obj _ _) (init_kw (kw := kwOf st) li made (by decide) (by simp) prog w A.in1 (wants (fun r s₂ => r = .none ∧ Q obj s₂) E) s₁ ⟨ty, rfl, q⟩))) fun r₂ s₂ z => ?_
    match r₂, z with
    | .error e, z => exact z
    | .ok .next, z => exact z.elim
    | .ok .brk, z => exact z.elim
    | .ok .cont, z => exact z.elim
    | .ok (.ret r), ⟨e, q'⟩ =>
      subst e
      repeat (any_goals (first | assumption | wp_step))
end
end PL

/-! PL, part I2: zip and enumerate as what a loop walks. -/
namespace PL
open PySem PySem.Spec PyProof.Rows L2
open PySem.Sem (wp)
/-- a list (false) or a tuple (true) -/
def Sq (K : PySem.W.Frag) : Bool → Hp → Addr → List V → Prop
  | false => SqL K
  | true => SqT K
theorem Sq.at {X : Cx} {pins : List (Addr × Obj)} {σ : L2.St} {H : Hp} {s : Shared} {k : Bool} {a : Addr} {xs : List V} (I : Inv X pins σ H s) (h : Sq X.K k H a xs) : ∃ its : List Value, Vals xs its ∧ ObAt s.heap k a its.toArray := by
  cases k with
  | false => obtain ⟨its, rv, p, _⟩ := I.list h; exact ⟨its, rv, p.isList⟩
  | true => obtain ⟨its, rv, p, _⟩ := I.tuple h; exact ⟨its, rv, p⟩
theorem Sq.inj {X : Cx} {pins : List (Addr × Obj)} {σ : L2.St} {H : Hp} {s : Shared} {k : Bool} {a : Addr} {xs ys : List V} (I : Inv X pins σ H s) (h : Sq X.K k H a xs) (h' : Sq X.K k H a ys) : xs = ys := by
  cases k with
  | false => exact I.list_inj h h'
  | true => exact I.tuple_inj h h'
theorem seqDraws {prog : Program} {w : World} {A : Around} (hh : A.handled = none) {k : Bool} {it l : Addr} (ne : l ≠ it) (items : Array Value) :
    Draws prog w A it [it, l] items.size (fun i v => items[i]? = some v) (fun i h => ItAt h k it l i ∧ ObAt h k l items) where
  live := fun _ _ st => let ⟨o, _, ho, _⟩ := st.1.obj; ⟨o, ho⟩
  frame := fun _ _ _ st hk => ⟨st.1.at fun o e => hk it (by simp) o e, by
    have q := st.2
    revert q
    cases k <;> exact fun ⟨o, e, r⟩ => ⟨o, hk l (by simp) o e, r⟩⟩
  item := fun i s Q E hi st hQ => by
    refine nextOf_item st.1 st.2 (x := items[i]) (by simp [hi]) fun h' a b => ?_
    exact hQ _ h' s.toks (by simp [hi]) ⟨a, st.2.extBut b.extBut ne⟩ b
  done := fun s Q E st hE => nextOf_end hh st.1 st.2 (by simp) hE
theorem ob_it {h : Heap} {k k2 : Bool} {l l2 it : Addr} {i : Nat} {xs : Array Value} (o : ObAt h k l xs) (t : ItAt h k2 it l2 i) : l ≠ it := by
  rintro rfl
  cases k <;> cases k2 <;> (obtain ⟨o1, e1, c1, _⟩ := o; obtain ⟨o2, e2, c2, _⟩ := t; rw [e1] at e2; cases e2; rw [c1] at c2; exact absurd (Value.type.inj c2) (by decide))

/-! ### enumerate -/
def ItE (K : PySem.W.Frag) (k : Bool) (a : Addr) : It where
  go := fun i H => ∃ (xs : List V) (x : V), Sq K k H a xs ∧ xs[i]? = some x
  yld := fun i H v H' => ∃ T x, v = .ref T ∧ H T = none ∧ H' = upd H T (.tup [.int (i : Nat), x]) ∧ ∀ xs, Sq K k H a xs → xs[i]? = some x
  stop := fun i H => ∃ xs : List V, Sq K k H a xs ∧ xs.length ≤ i
section
variable {prog : Program} {w : World} {A : Around} {E : Value → Shared → Prop} {s : Shared}
theorem enum_over {k : Bool} {e it l : Addr} {i : Nat} {items : Array Value} {old : Value} {Q : Option Value → Shared → Prop} (hh : A.handled = none) (he : IsEnum s.heap e it i old) (hit : ItAt s.heap k it l i) (hl : ObAt s.heap k l items) (hx : items[i]? = none)
    (hQ : ∀ h', Heap.ExtBut it s.heap h' → Q none { s with heap := h' }) : wpAny (model prog w) A (pyNext (.ref e)) Q E s := by
  have ty : s.TypeIs (.ref e) "enumerate" := ⟨_, he, rfl⟩
  unfold pyNext
  refine wpAny_bind (wpAny_attempt (wpAny_callSpecial?_slot (name := Str.ofString "__next__") ty F.slot_enumerate_next
    (wpAny_call_entry F.slot_enumerate_next ty F.entry_enumerate_next ?_ (F.args_enumerate_next_1 _))))
  show wpAny _ _ (field (.ref e) 2 >>= _) _ _ _
  refine wpAny_bind (wpAny_field he rfl (x := .ref it) rfl (wpAny_bind (nextOf_end hh hit hl hx fun h' x he' hx' => ?_)))
  obtain ⟨o, ho, hc⟩ := hx'
  exact wpAny_bind (wpAny_isInstance (T := "StopIteration") (b := true) ⟨o, ho, hc⟩ isSubtype_stop (wpAny_pure (hQ _ he')))
theorem enum_new (k : Bool) (l : Addr) (items : Array Value) : Meets (Builtin.«enumerate.__new__» ⟨[.type "enumerate", .ref l], []⟩) (fun _ R s => ObAt s.heap k l items ∧
      R (.ok (.ret (.ref (s.heap.push (itObj k l)).objs.size))) { s with heap := (s.heap.push (itObj k l)).push { cls := .type "enumerate", data := .fields #[.none, .bool false, .ref s.heap.objs.size, rawInt 0, .none, .none] } }) :=
  .of_wp fun prog w A R s h => by
    obtain ⟨hp, g, d, tk, os⟩ := s
    obtain ⟨o1, h⟩ := h
    have hsub := sub_enumerate
    have q1 : ObAt (Shared.heap ⟨hp, g, d, tk, os⟩) k l items := o1
    have hob : ∃ o, hp.get? l = some o := by cases k <;> (obtain ⟨o, e, _⟩ := o1; exact ⟨o, e⟩)
    obtain ⟨ob, hl⟩ := hob
    wp_walk using AutoSeq1.wpAny_loadPart' hl, iter_seq q1
    refine wpAny_stack_any fun st => wpAny_pure ?_
    split
    · rename_i c _ _ _ _ _
      cases (c == Value.type "enumerate")
      · wp_walk using AutoSeq1.wpAny_loadPart' hl, iter_seq q1
        exact ⟨_, rfl, h⟩
      · wp_walk using AutoSeq1.wpAny_loadPart' hl, iter_seq q1
        exact ⟨_, rfl, h⟩
    · wp_walk using AutoSeq1.wpAny_loadPart' hl, iter_seq q1
      exact ⟨_, rfl, h⟩
theorem enum_call {k : Bool} {l : Addr} {items : Array Value} {Q : Value → Shared → Prop} (o : ObAt s.heap k l items)
    (h : ∀ h', IsEnum h' (s.heap.objs.size + 1) s.heap.objs.size 0 .none → ItAt h' k s.heap.objs.size l 0 → h'.objs.size = s.heap.objs.size + 2 → (∀ b o, s.heap.get? b = some o → h'.get? b = some o) → Q (.ref (s.heap.objs.size + 1)) { s with heap := h' }) :
    wpAny (model prog w) A (call (.type "enumerate") [.ref l]) Q E s := by
  refine callType_new F.called_enumerate (by decide) (F.typeCall_enumerate_1 _) (F.newCall_enumerate_1 _) (fun obj => F.args_object_init_2 obj _) F.entry_enumerate_new (enum_new k l items) ⟨o, ?_⟩
  have z1 : (s.heap.push (itObj k l)).objs.size = s.heap.objs.size + 1 := Heap.size_push ..
  have he : IsEnum ((s.heap.push (itObj k l)).push { cls := .type "enumerate", data := .fields #[.none, .bool false, .ref s.heap.objs.size, rawInt 0, .none, .none] }) (s.heap.objs.size + 1) s.heap.objs.size 0 .none := by
    have := Heap.get?_push_size (s.heap.push (itObj k l)) (o := { cls := .type "enumerate", data := .fields #[.none, .bool false, .ref s.heap.objs.size, rawInt 0, .none, .none] }) rfl
    rw [z1] at this; exact this
  show _ ∧ _
  rw [z1]
  refine ⟨⟨_, he, rfl⟩, h _ he (itObj_at (Heap.get?_push_of_some _ (Heap.get?_push_size _ (by cases k <;> rfl)))) (by rw [Heap.size_push, z1]) fun b o x => Heap.get?_push_of_some _ (Heap.get?_push_of_some _ x)⟩
end
theorem turn_en {P : Program} {w : World} {K : PySem.W.Frag} {elts : List Expr} {kk : Nat} {tpos : Pos} (k : Bool) (a e it : Addr) :
    Turn P w K (.Tuple elts kk tpos) (ItE K k a) [e, it] e (fun i h => (∃ old, IsEnum h e it ((i : Nat) : Int) old) ∧ ItAt h k it a i ∧ e ≠ it) where
  mem := by simp
  obj := fun i h st b hb => by
    obtain ⟨⟨old, he⟩, hi, _⟩ := st
    obtain ⟨o, vs, ho, hd⟩ := hi.obj
    rcases (show b = e ∨ b = it by simpa using hb) with z | z
    · rw [z]; exact ⟨_, he, fun v q => nomatch q⟩
    · rw [z]; exact ⟨o, ho, fun v q => by rw [hd] at q; cases q⟩
  keep := fun i h h' st hk => let ⟨⟨old, he⟩, hi, ne⟩ := st; ⟨⟨old, hk e (by simp) _ he⟩, hi.at fun o q => hk it (by simp) o q, ne⟩
  item := by
    intro X hP hw hK hc i pins s σ H E I hf st hg
    subst hP hw hK
    obtain ⟨⟨old, he⟩, hit, ne⟩ := st
    obtain ⟨xs, x, hq, hx⟩ := hg
    obtain ⟨its, rv, ob⟩ := hq.at I
    obtain ⟨u, hu, ru⟩ := rv.get hx
    have lte : e < s.heap.objs.size := Heap.lt_size he
    have lti : it < s.heap.objs.size := by obtain ⟨_, _, q, _⟩ := hit.obj; exact Heap.lt_size q
    have nea : e ≠ a := by
      rintro rfl
      cases k <;> (obtain ⟨o1, e1, c1, _⟩ := ob; rw [he] at e1; cases e1; exact absurd (Value.type.inj c1) (by decide))
    have nai := ob_it ob hit
    have hlt : i < its.toArray.size := by
      have := (List.getElem?_eq_some_iff.mp hu).1
      simpa using this
    refine wpAny_pyNext_enum_itemD (seqDraws (k := k) (A := X.A.in1) (I.ok.hd hc) nai its.toArray) he ⟨hit, ob⟩ hlt ne (by simp [ne, nea]) fun x2 h' tk hx2 ho st' hT hsz hk => ?_
    have ex : x2 = u := by
      have q1 : its.toArray[i]? = some u := by simpa using hu
      rw [q1] at hx2; exact (Option.some.inj hx2).symm
    subst ex
    refine ⟨_, rfl, wpAny_letOwnedTupleGo_enum (s := { s with heap := h', toks := tk + 1 }) ho fun h'' he' sb => ?_⟩
    have hT2 : h''.get? s.heap.objs.size = some { cls := .type "tuple", data := .seq #[.int i tk, x2] } := (sb.2 _ (Nat.ne_of_gt lte)).trans hT
    have new : ObjOk X.prog X.w (upd H s.heap.objs.size (.tup [.int (i : Nat), x])) h'' s.heap.objs.size (.tup [.int (i : Nat), x]) :=
      ⟨by show 2 ≤ sizeLine; decide, [.int i tk, x2], .cons ⟨_, rfl⟩ (.cons ru .nil), ⟨_, hT2, rfl, _, rfl⟩⟩
    have I1 : Inv X pins σ (upd H s.heap.objs.size (.tup [.int (i : Nat), x])) { s with heap := h'', toks := tk + 1 } :=
      I.turnedNew (ch := [e, it]) (fun b o hb q => (sb.2 b (fun z => hb (by simp [z]))).trans (hk b o (fun z => hb (by simp [z])) (fun z => hb (by simp [z])) q)) hf (Nat.le_refl _) new
    refine ⟨.ref s.heap.objs.size, _, I1, rfl, ⟨_, x, rfl, I.hok.fresh (Nat.le_refl _), rfl, fun ys hy => by rw [hy.inj I hq]; exact hx⟩, ⟨⟨x2, ?_⟩, st'.1.at fun o q => (sb.2 it (Ne.symm ne)).trans q, ne⟩, fun b hb => ?_⟩
    · have e1 : ((i + 1 : Nat) : Int) = (i : Int) + 1 := by omega
      rw [e1]; exact he'
    · have hb' : b < s.heap.objs.size := by
        rcases (show b = e ∨ b = it by simpa using hb) with z | z
        · rw [z]; exact lte
        · rw [z]; exact lti
      rw [upd_ne (Nat.ne_of_lt hb')]
      exact (hf b hb).1
  done := by
    intro X hP hw hK hc i pins s σ H E I hf st hg
    subst hP hw hK
    obtain ⟨⟨old, he⟩, hit, ne⟩ := st
    obtain ⟨xs, hq, hx⟩ := hg
    obtain ⟨its, rv, ob⟩ := hq.at I
    obtain ⟨f0, f1, f2, f3, f4, f5⟩ := hf it (by simp)
    have hl := rv.length
    exact enum_over (I.ok.hd hc) he hit ob (by simp; omega) fun h' eb => ⟨rfl, I.turned (t' := s.toks) (fun b o hb q => eb b o hb q) f0 f1 f3 f4 f5⟩
  self := fun A i s Q E st h => let ⟨⟨_, he⟩, _⟩ := st; wpAny_pyIter_enum he h
def iEn (K : PySem.W.Frag) (ta : TA) : TI := fun σ H R => ta σ H fun vs H1 => ∃ k a xs, vs = [.ref a] ∧ Sq K k H1 a xs ∧ R (ItE K k a) H1
theorem pi_en {X : Cx} {e : Expr} {ta : TA} {p pos tpos : Pos} {elts : List Expr} {kk : Nat} (hg : Gl X "enumerate") (hm : X.mg "enumerate" = none) (ha : PA X [e] ta) (hs : starEach [e] X.env = [(false, eval e X.env)]) :
    PI X (.Tuple elts kk tpos) (.Call (.Name "enumerate" p) [e] [] pos) (iEn X.K ta) := by
  refine ⟨fun pins s σ H R I h => Call_ (ld_blt I hg hm boot_enumerate (PyProof.Rows.callWith_type1 (thn (ha.run pos pins s σ H _ I h) fun us s1 ⟨vs, H1, I1, r1, q1⟩ => ?_) hs rfl))⟩
  obtain ⟨k, a, xs, rfl, hq, q⟩ := q1
  obtain ⟨u, rfl, r⟩ := r1.one
  cases r
  obtain ⟨its, rv, ob⟩ := hq.at I1
  refine enum_call ob fun h' he hit hsz hk => wpAny_pyIter_enum he ?_
  refine ⟨s1.heap.objs.size + 1, [s1.heap.objs.size + 1, s1.heap.objs.size], _, _, H1, rfl, I1.kept (t' := s1.toks) hk, turn_en k a (s1.heap.objs.size + 1) s1.heap.objs.size, ⟨⟨.none, he⟩, hit, Nat.succ_ne_self _⟩, fun b hb => ?_, q⟩
  have hle : s1.heap.objs.size ≤ b := by
    rcases (show b = s1.heap.objs.size + 1 ∨ b = s1.heap.objs.size by simpa using hb) with z | z
    · rw [z]; exact Nat.le_add_right _ _
    · rw [z]; exact Nat.le_refl _
  exact I1.fpOk hle (I1.hok.fresh hle)

/-! ### zip -/
def ItZ (K : PySem.W.Frag) (strict k1 k2 : Bool) (a b : Addr) : It where
  go := fun i H => ∃ (xs ys : List V) (x y : V), Sq K k1 H a xs ∧ Sq K k2 H b ys ∧ xs[i]? = some x ∧ ys[i]? = some y
  yld := fun i H v H' => ∃ T x y, v = .ref T ∧ H T = none ∧ H' = upd H T (.tup [x, y]) ∧ (∀ xs, Sq K k1 H a xs → xs[i]? = some x) ∧ ∀ ys, Sq K k2 H b ys → ys[i]? = some y
  stop := fun i H => ∃ xs ys : List V, Sq K k1 H a xs ∧ Sq K k2 H b ys ∧ if strict then xs.length ≤ i ∧ ys.length ≤ i else xs.length ≤ i ∨ ys.length ≤ i
theorem turn_z {P : Program} {w : World} {K : PySem.W.Frag} {elts : List Expr} {kk : Nat} {tpos : Pos} {st k k' : Bool} {a b z TI TO i1 i2 : Addr} (D : ZipApart z TI TO i1 i2 a b) :
    Turn P w K (.Tuple elts kk tpos) (ItZ K st k k' a b) [z, TI, TO, i1, i2] z (fun i h => ZipAt h st z TI TO .none ∧ IsPair h TI (.ref i1) (.ref i2) ∧ (∃ x y, IsPair h TO x y) ∧ ItAt h k i1 a i ∧ ItAt h k' i2 b i) where
  mem := by simp
  obj := fun i h t c hc => by
    obtain ⟨hz, hTI, ⟨x, y, hTO⟩, t1, t2⟩ := t
    obtain ⟨o1, v1, e1, d1⟩ := t1.obj
    obtain ⟨o2, v2, e2, d2⟩ := t2.obj
    rcases (show c = z ∨ c = TI ∨ c = TO ∨ c = i1 ∨ c = i2 by simpa using hc) with q | q | q | q | q
    · rw [q]; exact ⟨_, hz, fun v q => nomatch q⟩
    · rw [q]; exact ⟨_, hTI, fun v q => nomatch q⟩
    · rw [q]; exact ⟨_, hTO, fun v q => nomatch q⟩
    · rw [q]; exact ⟨o1, e1, fun v q => by rw [d1] at q; cases q⟩
    · rw [q]; exact ⟨o2, e2, fun v q => by rw [d2] at q; cases q⟩
  keep := fun i h h' t hk => by
    obtain ⟨hz, hTI, ⟨x, y, hTO⟩, t1, t2⟩ := t
    exact ⟨hk z (by simp) _ hz, hk TI (by simp) _ hTI, ⟨x, y, hk TO (by simp) _ hTO⟩, t1.at fun o q => hk i1 (by simp) o q, t2.at fun o q => hk i2 (by simp) o q⟩
  item := by
    intro X hP hw hK hc i pins s σ H E I hf t hg
    subst hP hw hK
    obtain ⟨hz, hTI, ⟨x0, y0, hTO⟩, t1, t2⟩ := t
    obtain ⟨xs, ys, x, y, qx, qy, hx, hy⟩ := hg
    obtain ⟨its, rv, ob⟩ := qx.at I
    obtain ⟨its2, rv2, ob2⟩ := qy.at I
    obtain ⟨u, hu, ru⟩ := rv.get hx
    obtain ⟨u2, hu2, ru2⟩ := rv2.get hy
    have ltz : z < s.heap.objs.size := Heap.lt_size hz
    refine zip_next D hz hTI hTO t1 t2 ob ob2 (x := u) (y := u2) (by simpa using hu) (by simpa using hu2) fun h' z' TO' a' b' hT hsz hk => ?_
    refine ⟨_, rfl, letGo_zip (s := { s with heap := h' }) z' fun h'' z'' sb => ?_⟩
    have hT2 : h''.get? s.heap.objs.size = some { cls := .type "tuple", data := .seq #[u, u2] } := (sb.2 _ (Nat.ne_of_gt ltz)).trans hT
    have new : ObjOk X.prog X.w (upd H s.heap.objs.size (.tup [x, y])) h'' s.heap.objs.size (.tup [x, y]) :=
      ⟨by show 2 ≤ sizeLine; decide, [u, u2], .cons ru (.cons ru2 .nil), ⟨_, hT2, rfl, _, rfl⟩⟩
    have I1 : Inv X pins σ (upd H s.heap.objs.size (.tup [x, y])) { s with heap := h'' } :=
      I.turnedNew (t' := s.toks) (ch := [z, TI, TO, i1, i2]) (fun c o hb q => (sb.2 c (fun w => hb (by simp [w]))).trans (hk c o (fun w => hb (by simp [w])) (fun w => hb (by simp [w])) (fun w => hb (by simp [w])) (fun w => hb (by simp [w])) q)) hf (Nat.le_refl _) new
    refine ⟨.ref s.heap.objs.size, _, I1, rfl, ⟨_, x, y, rfl, I.hok.fresh (Nat.le_refl _), rfl, fun l hl => by rw [hl.inj I qx]; exact hx, fun l hl => by rw [hl.inj I qy]; exact hy⟩, ⟨z'', ?_, ⟨u, u2, ?_⟩, ?_, ?_⟩, fun c hcm => ?_⟩
    · exact (sb.2 _ D.TIz).trans (hk _ _ D.TIz D.TITO D.TIi1 D.TIi2 hTI)
    · exact (sb.2 _ D.TOz).trans TO'
    · exact a'.at fun o q => (sb.2 _ D.i1z).trans q
    · exact b'.at fun o q => (sb.2 _ D.i2z).trans q
    · have hlt : c < s.heap.objs.size := by
        rcases (show c = z ∨ c = TI ∨ c = TO ∨ c = i1 ∨ c = i2 by simpa using hcm) with q | q | q | q | q
        · rw [q]; exact ltz
        · rw [q]; exact Heap.lt_size hTI
        · rw [q]; exact Heap.lt_size hTO
        · rw [q]; obtain ⟨_, _, e1, _⟩ := t1.obj; exact Heap.lt_size e1
        · rw [q]; obtain ⟨_, _, e2, _⟩ := t2.obj; exact Heap.lt_size e2
      rw [upd_ne (Nat.ne_of_lt hlt)]
      exact (hf c hcm).1
  done := by
    intro X hP hw hK hc i pins s σ H E I hf t hg
    subst hP hw hK
    obtain ⟨hz, hTI, ⟨x0, y0, hTO⟩, t1, t2⟩ := t
    obtain ⟨xs, ys, qx, qy, hend⟩ := hg
    obtain ⟨its, rv, ob⟩ := qx.at I
    obtain ⟨its2, rv2, ob2⟩ := qy.at I
    have l1 := rv.length
    have l2 := rv2.length
    refine zip_over (I.ok.hd hc) D hz hTI hTO t1 t2 ob ob2 ?_ fun h' hk => ⟨rfl, I.turnedL (t' := s.toks) (ch := [z, TI, TO, i1, i2]) (fun c o hb q =>
      hk c o (fun w => hb (by simp [w])) (fun w => hb (by simp [w])) (fun w => hb (by simp [w])) (fun w => hb (by simp [w])) q) hf⟩
    cases st with
    | false =>
      have hend : xs.length ≤ i ∨ ys.length ≤ i := hend
      show its.toArray[i]? = none ∨ its2.toArray[i]? = none
      rcases hend with q | q
      · exact .inl (by simp; omega)
      · exact .inr (by simp; omega)
    | true =>
      have hend : xs.length ≤ i ∧ ys.length ≤ i := hend
      exact ⟨by simp; omega, by simp; omega⟩
  self := fun A i s Q E t h => iter_zip t.1 h
def iZ (K : PySem.W.Frag) (strict : Bool) (ta : TA) : TI := fun σ H R => ta σ H fun vs H1 => ∃ k1 k2 a b xs ys, vs = [.ref a, .ref b] ∧ Sq K k1 H1 a xs ∧ Sq K k2 H1 b ys ∧ R (ItZ K strict k1 k2 a b) H1
section
variable {X : Cx} {tg : Expr} {pins : List (Addr × Obj)} {σ : L2.St} {H1 : Hp} {s1 : Shared} {R : It → Hp → Prop}
/-- zip of two, just made -/
theorem zip_made {elts : List Expr} {kk : Nat} {tpos : Pos} {st k k' : Bool} {a b : Addr} {xs ys : List V} (I1 : Inv X pins σ H1 s1) (qx : Sq X.K k H1 a xs) (qy : Sq X.K k' H1 b ys) (q : R (ItZ X.K st k k' a b) H1) :
    wpAny (model X.prog X.w) X.A (call (.type "zip") [.ref a, .ref b] (kwOf st)) (fun v s2 => wpAny (model X.prog X.w) X.A (pyIter v) (PIE X pins σ (.Tuple elts kk tpos) R) X.xe s2) X.xe s1 := by
  obtain ⟨its, rv, ob⟩ := qx.at I1
  obtain ⟨its2, rv2, ob2⟩ := qy.at I1
  refine zip_call st (zip_new st k k' a b its.toArray its2.toArray) ⟨ob, ob2, ?_⟩
  have z1 : (zH1 k a s1.heap).objs.size = s1.heap.objs.size + 1 := Heap.size_push ..
  have z2 : (zH2 k k' a b s1.heap).objs.size = s1.heap.objs.size + 2 := by rw [Heap.size_push, z1]
  have z3 : (zH3 k k' a b s1.heap).objs.size = s1.heap.objs.size + 3 := by rw [Heap.size_push, z2]
  have z4 : (zH4 k k' a b s1.heap).objs.size = s1.heap.objs.size + 4 := by rw [Heap.size_push, z3]
  have free : ∀ (k : Bool) (l : Addr), (itObj k l).isFreed = false := fun k l => by cases k <;> rfl
  have g5 : (zH5 st k k' a b s1.heap).get? (zH4 k k' a b s1.heap).objs.size = some _ := Heap.get?_push_size _ rfl
  have g4 : (zH5 st k k' a b s1.heap).get? (zH3 k k' a b s1.heap).objs.size = some _ := Heap.get?_push_of_some _ (Heap.get?_push_size _ rfl)
  have g3 : (zH5 st k k' a b s1.heap).get? (zH2 k k' a b s1.heap).objs.size = some _ := Heap.get?_push_of_some _ (Heap.get?_push_of_some _ (Heap.get?_push_size _ rfl))
  have g2 : (zH5 st k k' a b s1.heap).get? (zH1 k a s1.heap).objs.size = some _ := Heap.get?_push_of_some _ (Heap.get?_push_of_some _ (Heap.get?_push_of_some _ (Heap.get?_push_size _ (free k' b))))
  have g1 : (zH5 st k k' a b s1.heap).get? s1.heap.objs.size = some _ := Heap.get?_push_of_some _ (Heap.get?_push_of_some _ (Heap.get?_push_of_some _ (Heap.get?_push_of_some _ (Heap.get?_push_size _ (free k a)))))
  have up : ∀ c o, s1.heap.get? c = some o → (zH5 st k k' a b s1.heap).get? c = some o := fun c o x =>
    Heap.get?_push_of_some _ (Heap.get?_push_of_some _ (Heap.get?_push_of_some _ (Heap.get?_push_of_some _ (Heap.get?_push_of_some _ x))))
  show _ ∧ _
  rw [z2, z3, z4] at g5
  rw [z1, z2] at g3
  rw [z3] at g4
  rw [z1] at g2
  rw [z4]
  refine ⟨⟨_, g5, rfl⟩, iter_zip (st := st) g5 ?_⟩
  have I2 : Inv X pins σ H1 { s1 with heap := zH5 st k k' a b s1.heap } := I1.kept (t' := s1.toks) up
  refine ⟨s1.heap.objs.size + 4, [s1.heap.objs.size + 4, s1.heap.objs.size + 2, s1.heap.objs.size + 3, s1.heap.objs.size, s1.heap.objs.size + 1], _, _, H1, rfl, I2, turn_z (st := st) (k := k) (k' := k') (PySem.W.ktu_apart s1.heap.objs.size a b ob.lt ob2.lt), ⟨g5, g3, ⟨_, _, g4⟩, itObj_at g1, itObj_at g2⟩, fun c hcm => ?_, q⟩
  have hle : s1.heap.objs.size ≤ c := by
    rcases (show c = s1.heap.objs.size + 4 ∨ c = s1.heap.objs.size + 2 ∨ c = s1.heap.objs.size + 3 ∨ c = s1.heap.objs.size ∨ c = s1.heap.objs.size + 1 by simpa using hcm) with z | z | z | z | z <;> rw [z] <;> first | exact Nat.le_add_right _ _ | exact Nat.le_refl _
  exact I1.fpOk hle (I1.hok.fresh hle)
end
section
variable {X : Cx} {e e2 : Expr} {ta : TA} {p pos tpos : Pos} {elts : List Expr} {kk : Nat}
theorem pi_z (hg : Gl X "zip") (hm : X.mg "zip" = none) (ha : PA X [e, e2] ta)
    (hs : starEach [e, e2] X.env = (false, eval e X.env) :: starEach [e2] X.env) (hpl : (backTo pos (starEach [e2] X.env)).any (·.1) = false) :
    PI X (.Tuple elts kk tpos) (.Call (.Name "zip" p) [e, e2] [] pos) (iZ X.K false ta) := by
  refine ⟨fun pins s σ H R I h => Call_ (ld_blt I hg hm PyProof.Rows.boot_zip (PyProof.Rows.callWith_type1 (thn (ha.run pos pins s σ H _ I h) fun us s1 ⟨vs, H1, I1, r1, q1⟩ => ?_) hs hpl))⟩
  obtain ⟨k, k', a, b, xs, ys, rfl, qx, qy, q⟩ := q1
  obtain ⟨u1, u2, rfl, ra, rb⟩ := r1.two
  cases ra; cases rb
  exact zip_made (st := false) I1 qx qy q
/-- a built-in type called with keywords -/
theorem with_kw {M : Model} {A : Around} {E : Value → Shared → Prop} {s : Shared} {pos : Pos} {T : String} {first : List Value} {args : List (Bool × Sem Value)} {keywords : List (Option Str × Sem Value)} {Q : Value → Shared → Prop}
    (plain : args.any (·.1) = false) (named : keywords.any (·.1.isNone) = false) (h : wpAny M A (evalArgs (.type T) true args keywords) (fun a s₁ => wpAny M A (call (.type T) (first ++ a.pos) a.kw) Q E s₁) E s) :
    wpAny M A (callWith pos (.type T) first args keywords) Q E s := by
  unfold callWith
  refine wpAny_bind (wpAny_holding (wpAny_mono h (fun a s₁ h₁ => wpAny_bind (wpAny_standAt ?_)) fun _ _ x => x))
  simp only [plain, named, Bool.or_false]
  exact wpAny_bind (wpAny_pure (wpAny_bind (wpAny_mono h₁ (fun r s₂ hr => wpAny_bind (wpAny_holding (wpAny_point (wpAny_pure hr)))) fun _ _ x => x)))
theorem pi_zS {kp cp : Pos} {j : Nat} (hg : Gl X "zip") (hm : X.mg "zip" = none) (ha : PA X [e, e2] ta)
    (hs : starEach [e, e2] X.env = (false, eval e X.env) :: starEach [e2] X.env) (hpl : (backTo pos (starEach [e2] X.env)).any (·.1) = false) :
    PI X (.Tuple elts kk tpos) (.Call (.Name "zip" p) [e, e2] [⟨some "strict", .Constant (.bool true) j cp, kp⟩] pos) (iZ X.K true ta) := by
  refine ⟨fun pins s σ H R I h => wpAny_Call_Name_kw (ld_blt I hg hm PyProof.Rows.boot_zip ?_)⟩
  refine with_kw (by rw [hs]; show (false || (backTo pos (starEach [e2] X.env)).any (·.1)) = false; rw [hpl]; rfl) rfl ?_
  have hA := ha.run pos pins s σ H _ I h
  rw [hs] at hA ⊢
  refine PyProof.Rows.evalArgs_kwB (by rfl) ?_
  refine thn hA fun us s1 ⟨vs, H1, I1, r1, q1⟩ => PyProof.Rows.kws_cons (Constant_bool (PyProof.Rows.kws_nil ?_))
  obtain ⟨k, k', a, b, xs, ys, rfl, qx, qy, q⟩ := q1
  obtain ⟨u1, u2, rfl, ra, rb⟩ := r1.two
  cases ra; cases rb
  exact zip_made (st := true) I1 qx qy q
end
end PL

/-! PL, part I3: a, *b, c = a list or a tuple. -/
namespace PL
open PySem PySem.Spec PyProof.Rows L2
open PySem.Sem (wp)
section
variable {prog : Program} {w : World} {A : Around} {E : Value → Shared → Prop} {s : Shared}
theorem seq_draw {k : Bool} {it l : Addr} {items : Array Value} (ne : l ≠ it) (n i : Nat) {Q : List Value → Shared → Prop} (hit : ItAt s.heap k it l i) (o : ObAt s.heap k l items) (h : i + n ≤ items.size)
    (hQ : ∀ h', ItAt h' k it l (i + n) → Heap.SameBut it s.heap h' → Q ((items.toList.drop i).take n) { s with heap := h' }) : wpAny (model prog w) A (draw (.ref it) n) Q E s := by
  cases k
  · exact PySem.W.kun_draw ne n i s Q hit o h hQ
  · exact wpAny_draw_tuple ne n i s Q hit o h hQ
theorem seq_iterable {k : Bool} {l : Addr} {items : Array Value} {Q : Bool → Shared → Prop} (o : ObAt s.heap k l items) (h : Q false s) : wpAny (model prog w) A (notIterableAtAll (.ref l)) Q E s := by
  unfold notIterableAtAll
  cases k
  · exact wpAny_bind (wpAny_specialOf (Heap.IsList.typeIs (s := s) o) slot_list_iter.lookup (wpAny_pure h))
  · exact wpAny_bind (wpAny_specialOf (Heap.IsTuple.typeIs (s := s) o) F.slot_tuple_iter.lookup (wpAny_pure h))
/-- the rest of a walk -/
theorem restWalks (hh : A.handled = none) {k : Bool} {it l : Addr} (ne : l ≠ it) (items : Array Value) (i : Nat) (hi : i ≤ items.size) :
    Walks prog w A it [it, l] [it] (items.size - i) (fun j v => items[i + j]? = some v) (fun j h => ItAt h k it l (i + j) ∧ ObAt h k l items) where
  sub := fun b hb => by simp at hb; simp [hb]
  frame := fun _ _ _ st hk => ⟨st.1.at fun o e => hk it (by simp) o e, by
    have q := st.2
    revert q
    cases k <;> exact fun ⟨o, e, r⟩ => ⟨o, hk l (by simp) o e, r⟩⟩
  item := fun j s Q E hj st hQ => by
    obtain ⟨a, b⟩ := st
    have hx : items[i + j]? = some items[i + j] := by simp
    have put : ∀ h', ItAt h' k it l (i + j + 1) → Heap.SameBut it s.heap h' → Q (some items[i + j]) { s with heap := h' } := fun h' c d =>
      hQ _ h' s.toks hx ⟨c, b.extBut d.extBut ne⟩ fun b o hb e => (d.2 b (by simpa using hb)).trans e
    cases k
    · exact wpAny_pyNext_list_item a b hx put
    · exact wpAny_pyNext_tuple_item a b hx put
  done := fun s Q E st hQ => by
    obtain ⟨a, b⟩ := st
    have hx : items[i + (items.size - i)]? = none := by simp; omega
    have put : ∀ h', Heap.ExtBut it s.heap h' → Q none { s with heap := h' } := fun h' d => hQ h' s.toks fun b o hb e => d b o (by simpa using hb) e
    cases k
    · exact wpAny_pyNext_list_end hh a b hx put
    · exact wpAny_pyNext_tuple_end hh a b hx put
  self := fun j s Q E st h => by
    obtain ⟨a, b⟩ := st
    cases k
    · exact wpAny_pyIter_listiter a h
    · exact wpAny_pyIter_tupleiter a h
def itTy : Bool → String
  | false => "list_iterator"
  | true => "tuple_iterator"
theorem seq_rest {k : Bool} {it l : Addr} {items : Array Value} {i : Nat} {Q : List Value → Shared → Prop} (hh : A.handled = none) (ne : l ≠ it) (hit : ItAt s.heap k it l i) (o : ObAt s.heap k l items) (hi : i ≤ items.size) (hz : items.size ≤ sizeLine)
    (hQ : ∀ h' tk, (∀ b o, b ≠ it → s.heap.get? b = some o → h'.get? b = some o) → Q (items.toList.drop i) { s with heap := h', toks := tk }) : wpAny (model prog w) A (collect (.ref it)) Q E s := by
  have W := (restWalks (prog := prog) (w := w) (A := A.in1) hh (k := k) ne items i hi).toS
  have lt_it : it < s.heap.objs.size := by obtain ⟨_, _, e, _⟩ := hit.obj; exact Heap.lt_size e
  have fin : ∀ (s' : Shared) (acc : Array Value), Moved [it] (fun a b => b = a) s s' → ItemsOf (fun j v => items[i + j]? = some v) acc (items.size - i) → Q acc.toList s' := fun s' acc m ac => by
    have e : acc.toList = items.toList.drop i := by
      refine List.ext_getElem? fun j => ?_
      rw [List.getElem?_drop, Array.getElem?_toList, Array.getElem?_toList]
      cases q : acc[j]? with
      | some v => exact (ac.2 j v q).symm
      | none =>
        have : acc.size ≤ j := by simpa using q
        rw [ac.1] at this
        exact (by simp; omega : items[i + j]? = none).symm
    rw [e]
    obtain ⟨h2, g2, d2, t2, os2⟩ := s'
    have e1 : g2 = s.gens := m.gens
    have e2 : d2 = s.drawn := m.drawn
    have e3 : os2 = s.os := m.os
    subst e1 e2 e3
    exact hQ h2 t2 fun b o hb e => m.heap b o (by simpa using hb) e
  have ty : ∀ (j : Nat) (s : Shared), (ItAt s.heap k it l (i + j) ∧ ObAt s.heap k l items) → s.TypeIs (.ref it) (itTy k) := fun j s st => by
    cases k
    · obtain ⟨o, e, c, _⟩ := st.1; exact ⟨o, e, c⟩
    · obtain ⟨o, e, c, _⟩ := st.1; exact ⟨o, e, c⟩
  exact wpAny_collect_iter (T := itTy k) (by cases k <;> simp [itTy]) W ty ⟨by simpa using hit, o⟩ (fun b hb => by
    rcases (show b = it ∨ b = l by simpa using hb) with q | q
    · rw [q]; exact lt_it
    · rw [q]; exact o.lt) (by simp) fin (by omega)
end
theorem unpack_star {X : Cx} {pins : List (Addr × Obj)} {σ : L2.St} {H : Hp} {s : Shared} (I : Inv X pins σ H s) (hc : X.calm = true) {kd : Bool} {a : Addr} {xs : List V} (hs : Sq X.K kd H a xs) {n i m : Nat} (hin : i < n) (hl : n - 1 ≤ xs.length) (hm : n - 1 - i = m) {Q : List Value → Shared → Prop}
    (h : ∀ D us s', H D = none → Inv X pins σ (upd H D (.lst ((xs.drop i).take (xs.length - i - m)))) s' → Vals (xs.take i ++ .ref D :: xs.drop (xs.length - m)) us → Q us s') :
    wpAny (model X.prog X.w) X.A (unpackItems (.ref a) n (some i)) Q X.xe s := by
  have hz : xs.length ≤ sizeLine := by
    cases kd with
    | false => obtain ⟨its, rv, p, z⟩ := I.list hs; exact z
    | true => obtain ⟨its, rv, p, z⟩ := I.tuple hs; exact z
  obtain ⟨its, rv, ob⟩ := hs.at I
  have lx := rv.length
  have sz : its.toArray.size = xs.length := by simp [lx]
  have ne : a ≠ s.heap.objs.size := Nat.ne_of_lt ob.lt
  unfold unpackItems
  refine wpAny_bind (seq_iterable ob ?_)
  simp only [Bool.false_eq_true, if_false]
  refine wpAny_bind (wpAny_holding (iter_seq ob ?_))
  refine wpAny_bind (wpAny_holding (seq_draw (k := kd) ne i 0 (itObj_at (Heap.get?_push_size _ (by cases kd <;> rfl))) (ob.push _) (by omega) fun h1 a1 s1 => ?_))
  have l1 : ((its.toArray.toList.drop 0).take i).length = i := by simp; omega
  rw [l1, if_neg (Nat.lt_irrefl _)]
  refine wpAny_bind (wpAny_holding (seq_rest (k := kd) (I.ok.hd hc) ne a1 ((ob.push _).extBut s1.extBut ne) (by omega) (by omega) fun h2 tk k2 => ?_))
  have l2 : (its.toArray.toList.drop (0 + i)).length = xs.length - i := by simp [lx]
  rw [l2, hm, if_neg (by omega)]
  have keep : ∀ b o, s.heap.get? b = some o → h2.get? b = some o := fun b o e => by
    have nb : b ≠ s.heap.objs.size := Nat.ne_of_lt (Heap.lt_size e)
    exact k2 b o nb (s1.extBut b o nb (Heap.get?_push_of_some _ e))
  have I2 : Inv X pins σ H { s with heap := h2, toks := tk } := I.kept keep
  have zr : ((its.toArray.toList.drop (0 + i)).take (xs.length - i - m)).length ≤ sizeLine := by simp; omega
  refine wpAny_bind (wpAny_newList (wpAny_pure ?_) zr)
  have fr : H h2.objs.size = none := I2.hok.fresh (Nat.le_refl _)
  have rmid : Vals ((xs.drop i).take (xs.length - i - m)) ((its.toArray.toList.drop (0 + i)).take (xs.length - i - m)) := by simpa using (rv.drop i).take (xs.length - i - m)
  refine h h2.objs.size _ _ fr (I2.laid (a := h2.objs.size) (t' := tk) (fun b u e => Heap.get?_push_of_some _ e) (Nat.le_refl _) ⟨by rw [rmid.length]; exact zr, _, 0, rmid, Heap.get?_push_size _ rfl⟩) ?_
  have e3 : (its.toArray.toList.drop (0 + i)).drop (xs.length - i - m) = its.drop (xs.length - m) := by
    rw [List.drop_drop]
    simp
    congr 1
    omega
  have e4 : (its.toArray.toList.drop 0).take i = its.take i := by simp
  rw [e3, e4, List.append_assoc]
  exact (rv.take i).append (.cons rfl (rv.drop _))
end PL

/-! PL, part I: what a loop walks, by values: lists, tuples, texts. -/
namespace PL
open PySem PySem.Spec PyProof.Rows L2

def ItS (K : PySem.W.Frag) : Bool → Addr → It
  | false => Itl K
  | true => Itt K
def iV (K : PySem.W.Frag) (te : TE) : TI := fun σ H R => te σ H fun x H1 => (∃ k a xs, x = .ref a ∧ Sq K k H1 a xs ∧ R (ItS K k a) H1) ∨ ∃ z, x = .str z ∧ R (Its z) H1
section
variable {X : Cx} {tg e : Expr}
theorem pi_val {te : TE} (he : PE X e te) : PI X tg e (iV X.K te) := by
  refine ⟨fun pins s σ H R I h => thn (he.run pins s σ H _ I h) fun v s1 ⟨y, H1, I1, r1, q1⟩ => ?_⟩
  rcases q1 with ⟨k, a, xs, rfl, hq, q⟩ | ⟨x, rfl, q⟩
  · cases r1
    cases k with
    | false =>
      obtain ⟨its, rv, p, hz⟩ := I1.list hq
      exact wpAny_pyIter_list p.isList (pi_one (tk := s1.toks) I1 _ (turn_list a _) ⟨_, Heap.get?_push_size _ rfl, rfl, rfl⟩ q)
    | true =>
      obtain ⟨its, rv, p, hz⟩ := I1.tuple hq
      exact wpAny_pyIter_tuple p (pi_one (tk := s1.toks) I1 _ (turn_tuple a _) ⟨_, Heap.get?_push_size _ rfl, rfl, rfl⟩ q)
  · obtain ⟨t, rfl⟩ := r1
    cases ha : x.cps.all (· < 128)
    · exact wpAny_pyIter_wide ha (pi_one (tk := s1.toks) I1 _ (turn_str _ x t "str_iterator" (.inr rfl)) ⟨_, Heap.get?_push_size _ rfl, rfl, rfl⟩ q)
    · exact wpAny_pyIter_ascii ha (pi_one (tk := s1.toks) I1 _ (turn_str _ x t "str_ascii_iterator" (.inl rfl)) ⟨_, Heap.get?_push_size _ rfl, rfl, rfl⟩ q)
end

end PL

/-! PL, part J: repr of data; defs that are called. -/
namespace PL
open PySem PySem.Spec PyProof.Rows L2

/-- repr of data -/
def reprD (d : PyData) : Option Str := if d.showable && !d.hasDict && decide (d.depth ≤ 40) && decide (d.shown.length ≤ sizeLine) then some d.shown else none
theorem reprD_of {d : PyData} {z : Str} (h : reprD d = some z) : d.showable = true ∧ d.hasDict = false ∧ d.depth ≤ 40 ∧ d.shown.length ≤ sizeLine ∧ d.shown = z := by
  unfold reprD at h
  split at h
  · rename_i q
    simp only [Bool.and_eq_true, decide_eq_true_eq, Bool.not_eq_true'] at q
    cases h
    exact ⟨q.1.1.1, q.1.1.2, q.1.2, q.2, rfl⟩
  · cases h
section
variable {X : Cx} {E : XK} {G : Glb}
theorem repr_ok (C : CtxOk G X) : CallR X (.builtin "repr") (rN X.K E (reprV reprD)) := by
  rintro pins s σ H xs us Q I r ⟨W, ps, A, rs, P⟩
  unfold reprV at P
  split at P
  · rename_i p
    obtain ⟨v, rfl, rx⟩ := rep1 rs
    obtain ⟨u, rfl, ru⟩ := r.one
    split at P
    · rename_i z e
      obtain ⟨d, e1, e2⟩ := Option.bind_eq_some_iff.mp e
      obtain ⟨h1, h2, h3, h4, rfl⟩ := reprD_of e2
      have q : Q (.str d.shown) H := Post.here A P (.str _)
      obtain ⟨as, rd⟩ := Dp.reads I d v u (toDn_ok A 3 rx e1) ru
      have hu := C.units
      cases rd with
      | none => exact PySem.P.repr_of_none ⟨.str "None", H, I.tok _, ⟨_, rfl⟩, by simpa only [PyData.shown] using q⟩
      | bool b => exact PySem.P.repr_of_bool ⟨.str (if b then "True" else "False"), H, I.tok _, ⟨_, rfl⟩, by simpa only [PyData.shown] using q⟩
      | int i t => exact PySem.P.repr_of_int (by simpa [PyData.showable] using h1) ⟨.str (toString i), H, I.tok _, ⟨_, rfl⟩, by simpa only [PyData.shown] using q⟩
      | str x t => exact PySem.P.repr_of_str ⟨.str (reprText x), H, I.tok _, ⟨_, rfl⟩, by simpa only [PyData.shown] using q⟩ (by simpa only [PyData.shown] using h4)
      | list a b c d' => exact repr_of_reads' (.list a b c d') h1 (PyData.noDict_hsm h2) C.guards (by omega) (fun _ _ z => z) (fun h' u tk hk => ⟨.str _, H, I.kept hk, ⟨u, rfl⟩, q⟩) h4
      | tuple a b c d' => exact repr_of_reads' (.tuple a b c d') h1 (PyData.noDict_hsm h2) C.guards (by omega) (fun _ _ z => z) (fun h' u tk hk => ⟨.str _, H, I.kept hk, ⟨u, rfl⟩, q⟩) h4
      | dict a b c d' e' => simp [PyData.hasDict] at h2
    · exact P.elim
  · exact P.elim
end

/-! ### defs -/
/-- what a def does, where no repr stands around -/
structure FnG (P : Program) (w : World) (K : PySem.W.Frag) (mg : Str → Option Value) (base : Heap) (CX : CXT) (k : Nat) (f : Addr) (fd : FuncData) (ps : List Str) (sp : Sp) : Prop where
  arity : ∀ vs H Q E, sp vs H Q E → vs.length = ps.length
  does : ∀ (A : Around) (outer : List Env) (s : Shared) (H : Hp) (args : Args) (us : List Value) (vs : List V) (Q : VK) (E : XK), Room k A → A.guards = some [] → Env0 P w K mg base A outer s H → BindsTo s fd args (ps.zip us) →
    Vals vs us → sp vs H Q E → codeAny (model P w) A (.call (.ref f) args) (CR CX outer P w H s Q E) s
theorem fnG_of {CX : CXT} {P : Program} {w : World} {K : PySem.W.Frag} {mg : Str → Option Value} {base : Heap} {k : Nat} {f : Addr} {name qual : Str} {params : Arguments} {body : List Stmt} {scope : Scope} {dV kV doc pm cdv ct oc : Value} {an od : Option Addr}
    {osl : Array (Option Value)} {N ps : List Str} {sp : Sp} (at_ : K.lookup f = some ⟨oc, od, .func (PySem.W.fnOf name qual params body scope dV kV doc pm an cdv ct), osl⟩) (code : PySem.W.codeIn K cdv qual = true) (S : FnScope N ps scope)
    (arity : ∀ vs H Q E, sp vs H Q E → vs.length = ps.length)
    (inside : ∀ (A : Around) (outer : List Env) (s : Shared) (H : Hp) (vs : List V) (Q : VK) (E : XK), Room k (A.deeper (envOfC qual scope s.heap.objs.size f cdv)) → A.guards = some [] → sp vs H Q E →
      ∃ t, PSs (cxOf CX P w K mg base N qual scope f cdv A outer s H E) body t ∧ t { nx := fun _ H' => Q .non H', rt := Q } (start N vs) H) :
    FnG P w K mg base CX (k + 1) f (PySem.W.fnOf name qual params body scope dV kV doc pm an cdv ct) ps sp where
  arity := arity
  does := by
    intro A outer s H args us vs Q E room gd e0 bind rel hsp
    have inS : K.In s.heap := e0.mod.kin.keeps fun b o e => (e0.bs b o e).1
    have calm : s.heap.NoLimit := e0.mod.nolimit.keeps fun b o e => (e0.bs b o e).1
    have kinds : ∀ y ∈ ps.zip us, scope.names.lookup y.1 = some .local ∨ (scope.names.lookup y.1 = some .cell ∧ ((cellsFrom (s.heap.objs.size + 1) scope.names []).lookup y.1).isSome = true) := by
      rintro ⟨n, v⟩ hy
      exact (S.par n (List.of_mem_zip hy).1).imp id fun q => ⟨q, PySem.W.cellsFrom_some _ _ _ (.inl q)⟩
    refine codeAny_call_function room.depth (inS _ _ at_) rfl S.co S.gen rfl (PySem.W.codeRec_of inS code) (bind _ _ _ _ (wpAny_newFunctionEnv_cells S.kind kinds fun env he s1 x => ?_))
    subst he
    obtain ⟨t, ht, hq⟩ := inside A outer s H vs Q E (room.deeper _) gd hsp
    have J := inv_start (CX := CX) (E := E) (cd := cdv) (f := f) S room.hd e0 (arity _ _ _ _ hsp) rel x
    refine ⟨calm.keeps x.toInCall.keep, codeAny_func (wpAny_mono (ht.run [] s1 (start N vs) H _ J hq) (fun fl s' z => ?_) fun _ _ z => z)⟩
    have close : ∀ {σ' : L2.St} {H' : Hp} {v : V} {u : Value}, Inv (cxOf CX P w K mg base N qual scope f cdv A outer s H E) [] σ' H' s' → RelV v u → Q v H' → CE outer P w H s Q u s' :=
      fun {σ' H' v u} I rv q => ⟨v, H', I.os, I.bare, I.base, I.hok, rv, q⟩
    match fl, z with
    | .ret u, ⟨v, σ', H', I, rv, q⟩ => exact close I rv q
    | .next, ⟨σ', H', I, q⟩ => exact close (v := V.non) (u := Value.none) I rfl q
    | .brk, ⟨_, _, _, q⟩ => exact q.elim
    | .cont, ⟨_, _, _, q⟩ => exact q.elim
section
variable {X : Cx} {CX : CXT} {k : Nat} {f : Addr} {fd : FuncData} {ps : List Str} {sp : Sp} {E : XK} {x : Str} {p pos : Pos} {e : Expr} {es : List Expr} {t : TA}
/-- from a body: a def called -/
theorem call_fnG {pins : List (Addr × Obj)} {σ : L2.St} {H : Hp} {s : Shared} {Q : VK} {us : List Value} {vs : List V} (F : FnG X.prog X.w X.K X.mg X.base CX k f fd ps sp) (room : Room k X.A) (gd : X.A.guards = some []) (hb : Binds X.K fd ps []) (out : Passes CX X E)
    (I : Inv X pins σ H s) (r : Vals vs us) (h : sp vs H Q E) : wpAny (model X.prog X.w) X.A (call (.ref f) us) (EP X pins σ Q) X.xe s := by
  have many : (us ++ []).length = ps.length := by rw [List.append_nil, ← r.length]; exact F.arity _ _ _ _ h
  refine wpAny_call (codeAny_mono (F.does X.A X.stack s H ⟨us, []⟩ (us ++ []) vs Q E room gd I.env0 (hb s us I.kIn many) (by rw [List.append_nil]; exact r) h) fun r s' z => ?_)
  match r, z with
  | .error e, z => exact out pins σ H s e s' I z
  | .ok (.ret u), z => exact I.after z
  | .ok .next, z => exact z.elim
  | .ok .brk, z => exact z.elim
  | .ok .cont, z => exact z.elim
/-- a def of the module, called by its name -/
theorem pe_fnG (F : FnG X.prog X.w X.K X.mg X.base CX k f fd ps sp) (room : Room k X.A) (gd : X.A.guards = some []) (hg : Gl X x) (hm : X.mg x = some (.ref f)) (hk : PySem.W.keepIn X.K (.ref f) = true) (hb : Binds X.K fd ps []) (out : Passes CX X E)
    (ha : PA X (e :: es) t) (hd : (x == ("__debug__" : Str)) = false) (he : starEach (e :: es) X.env = (false, eval e X.env) :: starEach es X.env) (hp : (backTo pos (starEach es X.env)).any (·.1) = false) :
    PE X (.Call (.Name x p) (e :: es) [] pos) (fun σ H Q => t σ H fun vs H1 => sp vs H1 Q E) :=
  ⟨fun pins s σ H Q I h => wpAny_Call_Name_kw (ld_glob I hg hm (PySem.W.callWith_K (h₀ := X.base) I.ok.mod.kin hk (thn (ha.run pos pins s σ H _ I h) fun us s1 ⟨vs, H1, I1, r, q⟩ =>
    ⟨I1.kIn, call_fnG F room gd hb out I1 r q⟩) he hp) hd)⟩
theorem pe_fnG0 (F : FnG X.prog X.w X.K X.mg X.base CX k f fd ps sp) (room : Room k X.A) (gd : X.A.guards = some []) (hg : Gl X x) (hm : X.mg x = some (.ref f)) (hk : PySem.W.keepIn X.K (.ref f) = true) (hb : Binds X.K fd ps []) (out : Passes CX X E)
    (hd : (x == ("__debug__" : Str)) = false) : PE X (.Call (.Name x p) [] [] pos) (fun σ H Q => sp [] H Q E) :=
  ⟨fun pins s σ H Q I h => wpAny_Call_Name_kw (ld_glob I hg hm (PySem.W.callWith_K0 I.kIn hk (call_fnG (σ := σ) F room gd hb out I .nil h)) hd)⟩
end
end PL

/-! PL, part K: calls, displays of dicts, comprehensions, what loops walk; worlds opened and closed. -/
namespace PL
open PySem PySem.Spec PyProof.Rows L2

/-! ### worlds -/
abbrev XNo : XK := fun _ _ _ => False
section
variable {K : PySem.W.Frag} {as as' F F' : List Addr} {H H' : Hp}
mutual
theorem Rep.mono (hp : ∀ (l : Nat) (a : Addr), as[l]? = some a → as'[l]? = some a) (hF : ∀ a, a ∉ F → H a ≠ none → a ∉ F') (hk : ∀ a o, a ∉ F → H a = some o → H' a = some o) : ∀ {v : V} {x : PV}, Rep K as F H v x → Rep K as' F' H' v x
  | _, _, .non => .non
  | _, _, .bl b => .bl b
  | _, _, .int i => .int i
  | _, _, .str x => .str x
  | _, _, .tup h r => .tup (h.imp (fun ⟨q, n⟩ => by
      rcases q with q | ⟨o, q⟩
      · exact ⟨.inl (hk _ _ n q), hF _ n (by rw [q]; exact fun z => nomatch z)⟩
      · exact ⟨.inr ⟨o, hk _ _ n q⟩, hF _ n (by rw [q]; exact fun z => nomatch z)⟩) id) (RepL.mono hp hF hk r)
  | _, _, .lst h hf r => .lst (hk _ _ hf h) (hF _ hf (by rw [h]; exact fun z => nomatch z)) (RepL.mono hp hF hk r)
  | _, _, .scr h => .scr (h.imp (fun ⟨q, n⟩ => by
      rcases q with q | ⟨o, q⟩
      · exact ⟨.inl (hk _ _ n q), hF _ n (by rw [q]; exact fun z => nomatch z)⟩
      · exact ⟨.inr ⟨o, hk _ _ n q⟩, hF _ n (by rw [q]; exact fun z => nomatch z)⟩) id)
  | _, _, .ref h => .ref (hp _ _ h)
  | _, _, .fn x => .fn x
  | _, _, .kd x => .kd x
theorem RepL.mono (hp : ∀ (l : Nat) (a : Addr), as[l]? = some a → as'[l]? = some a) (hF : ∀ a, a ∉ F → H a ≠ none → a ∉ F') (hk : ∀ a o, a ∉ F → H a = some o → H' a = some o) : ∀ {vs : List V} {xs : List PV}, RepL K as F H vs xs → RepL K as' F' H' vs xs
  | _, _, .nil => .nil
  | _, _, .cons h t => .cons (Rep.mono hp hF hk h) (RepL.mono hp hF hk t)
end
theorem RepKV.mono {κ : Type} (hp : ∀ (l : Nat) (a : Addr), as[l]? = some a → as'[l]? = some a) (hF : ∀ a, a ∉ F → H a ≠ none → a ∉ F') (hk : ∀ a o, a ∉ F → H a = some o → H' a = some o) : ∀ {vs : List (κ × V)} {xs : List (κ × PV)}, RepKV K as F H vs xs → RepKV K as' F' H' vs xs
  | _, _, .nil => .nil
  | _, _, .cons h t => .cons ⟨h.1, h.2.mono hp hF hk⟩ (RepKV.mono hp hF hk t)
theorem RepO.mono (hp : ∀ (l : Nat) (a : Addr), as[l]? = some a → as'[l]? = some a) (hF : ∀ a, a ∉ F → H a ≠ none → a ∉ F') (hk : ∀ a o, a ∉ F → H a = some o → H' a = some o) {u : HO} {o : PO} (r : RepO K as F H u o) : RepO K as' F' H' u o := by
  cases r with
  | lst r => exact .lst (r.mono hp hF hk)
  | dct r => exact .dct (RepKV.mono hp hF hk r)
  | ins r => exact .ins (RepKV.mono hp hF hk r)
mutual
theorem Rep.pure : ∀ {v : V} {x : PV}, Rep K as F H v x → noRef x = true → Rep K as' F H v x
  | _, _, .non, _ => .non
  | _, _, .bl b, _ => .bl b
  | _, _, .int i, _ => .int i
  | _, _, .str x, _ => .str x
  | _, _, .tup h r, n => .tup h (RepL.pure r (by unfold noRef at n; exact n))
  | _, _, .lst h hf r, n => .lst h hf (RepL.pure r (by unfold noRef at n; exact n))
  | _, _, .scr h, _ => .scr h
  | _, _, .ref h, n => by simp [noRef] at n
  | _, _, .fn x, _ => .fn x
  | _, _, .kd x, _ => .kd x
theorem RepL.pure : ∀ {vs : List V} {xs : List PV}, RepL K as F H vs xs → noRefs xs = true → RepL K as' F H vs xs
  | _, _, .nil, _ => .nil
  | _, _, .cons h t, n => by
    unfold noRefs at n
    obtain ⟨n1, n2⟩ := Bool.and_eq_true_iff.mp n
    exact .cons (Rep.pure h n1) (RepL.pure t n2)
end
end
section
variable {K : PySem.W.Frag} {W W1 : Wd} {H H1 : Hp} {p : Addr} {u : HO} {o : PO}
/-- something new that anybody may write for a while -/
def Wd.open (W : Wd) (p : Addr) : Wd := ⟨W.as, p :: W.F, W.st⟩
theorem Ab.opened (A : Ab K W H) (hp : H p = none) : Ab K (W.open p) (upd H p u) ∧ Ext W H (W.open p) (upd H p u) := by
  have e : Ext W H (W.open p) (upd H p u) := ⟨fun _ _ h => h, fun _ h => .inl h, fun _ h => List.mem_cons_of_mem _ h, fun a h => (List.mem_cons.mp h).elim (fun z => .inr (z ▸ hp)) .inl, fun a o h _ => by rw [upd_ne (ne_of_none h hp)]; exact h⟩
  refine ⟨⟨A.len, A.nd, fun a h => List.mem_cons_of_mem _ (A.sub a h), fun a h => ?_, fun l a o h1 h2 => ?_⟩, e⟩
  · by_cases z : a = p
    · rw [z, upd_same]; exact fun q => nomatch q
    · rw [upd_ne z]; exact A.trk a ((List.mem_cons.mp h).resolve_left z)
  · obtain ⟨u', h3, r⟩ := A.obj l a o h1 h2
    exact ⟨u', by rw [upd_ne (ne_of_none h3 hp)]; exact h3, r.ext e A.sub⟩
/-- it becomes a place of the store -/
def Wd.close (W : Wd) (p : Addr) (o : PO) : Wd := ⟨W.as ++ [p], W.F, W.st ++ [o]⟩
theorem Ab.closed (hp : H p = none) (e : Ext W H W1 H1) (A : Ab K W1 H1) (hF : p ∈ W1.F) (hn : p ∉ W1.as) (r : RepO K W1.as W1.F H1 u o) :
    Ab K (W1.close p o) (upd H1 p u) ∧ Ext W H (W1.close p o) (upd H1 p u) := by
  have hpre : ∀ (l : Nat) (a : Addr), W1.as[l]? = some a → (W1.as ++ [p])[l]? = some a := fun l a h => by
    rw [List.getElem?_append_left (List.getElem?_eq_some_iff.mp h).1]; exact h
  have hk : ∀ a o, a ∉ W1.F → H1 a = some o → upd H1 p u a = some o := fun a o n h => by
    have ne : a ≠ p := by rintro rfl; exact n hF
    rw [upd_ne ne]; exact h
  refine ⟨⟨?_, ?_, fun a h => ?_, fun a h => ?_, fun l a o' h1 h2 => ?_⟩, ⟨fun l a h => hpre l a (e.pre l a h), fun a h => ?_, e.oldF, e.newF, fun a o h n => ?_⟩⟩
  · show (W1.as ++ [p]).length = (W1.st ++ [o]).length
    simp [A.len]
  · refine List.nodup_append.mpr ⟨A.nd, List.nodup_cons.mpr ⟨by simp, List.nodup_nil⟩, fun a ha b hb => ?_⟩
    rw [List.mem_singleton.mp hb]
    exact fun z => hn (z ▸ ha)
  · rcases List.mem_append.mp h with h | h
    · exact A.sub a h
    · rw [List.mem_singleton.mp h]; exact hF
  · by_cases z : a = p
    · rw [z, upd_same]; exact fun q => nomatch q
    · rw [upd_ne z]; exact A.trk a h
  · have h1 : (W1.as ++ [p])[l]? = some a := h1
    have h2 : (W1.st ++ [o])[l]? = some o' := h2
    by_cases hl : l < W1.as.length
    · rw [List.getElem?_append_left hl] at h1
      rw [List.getElem?_append_left (by rw [← A.len]; exact hl)] at h2
      obtain ⟨u', h3, r'⟩ := A.obj l a o' h1 h2
      have ne : a ≠ p := fun z => hn (by rw [← z]; exact mem_of_ix h1)
      exact ⟨u', by rw [upd_ne ne]; exact h3, r'.mono hpre (fun _ n _ => n) hk⟩
    · have hle : W1.as.length ≤ l := Nat.le_of_not_lt hl
      rw [List.getElem?_append_right hle] at h1
      rw [List.getElem?_append_right (by rw [← A.len]; exact hle)] at h2
      have hz : l - W1.as.length = 0 := by
        cases q : l - W1.as.length with
        | zero => rfl
        | succ k => rw [q] at h1; simp at h1
      rw [hz] at h1
      rw [← A.len, hz] at h2
      simp at h1 h2
      subst h1 h2
      exact ⟨u, upd_same, r.mono hpre (fun _ n _ => n) hk⟩
  · rcases List.mem_append.mp h with h | h
    · exact e.new a h
    · rw [List.mem_singleton.mp h]; exact .inr hp
  · have q := e.keep a o h n
    rw [upd_ne (ne_of_none h hp)]; exact q
/-- it stays as it is from now on -/
def Wd.seal (W : Wd) (p : Addr) : Wd := ⟨W.as, W.F.filter (fun a => decide (a ≠ p)), W.st⟩
theorem Ab.sealed (A0 : Ab K W H) (hp : H p = none) (e : Ext W H W1 H1) (A : Ab K W1 H1) (hn : p ∉ W1.as) : Ab K (W1.seal p) H1 ∧ Ext W H (W1.seal p) H1 := by
  have mem : ∀ a, a ∈ W1.F.filter (fun a => decide (a ≠ p)) ↔ a ∈ W1.F ∧ a ≠ p := fun a => by simp
  refine ⟨⟨A.len, A.nd, fun a h => (mem a).mpr ⟨A.sub a h, fun z => hn (z ▸ h)⟩, fun a h => A.trk a ((mem a).mp h).1, fun l a o' h1 h2 => ?_⟩,
    ⟨e.pre, e.new, fun a h => (mem a).mpr ⟨e.oldF a h, fun z => A0.trk a h (z ▸ hp)⟩, fun a h => e.newF a ((mem a).mp h).1, e.keep⟩⟩
  obtain ⟨u', h3, r'⟩ := A.obj l a o' h1 h2
  exact ⟨u', h3, r'.mono (fun _ _ z => z) (fun a n _ z => n ((mem a).mp z).1) fun _ _ _ z => z⟩
theorem seal_out : p ∉ (W1.seal p).F := fun h => by
  have : p ∈ W1.F.filter (fun a => decide (a ≠ p)) := h
  simp at this
end
section
variable {α β γ δ : Type} {K : PySem.W.Frag} {E E' : XK} {R : Wd → Hp → β → α → Prop} {S : Wd → Hp → δ → γ → Prop} {W W0 : Wd} {H H0 : Hp}
/-- a step of a run that began at W, from W0 on -/
theorem Post.bind0 (A : Ab K W H) (e0 : Ext W H W0 H0) {m : M α} {k : α → M γ} {Q : δ → Hp → Prop} {Q1 : β → Hp → Prop} (h : Post K E S W H ((m >>= k) W0.st) Q)
    (hk : ∀ (W1 : Wd) (H1 : Hp) (b : β) (a : α), Ab K W1 H1 → Ext W0 H0 W1 H1 → R W1 H1 b a → Post K E S W H (k a W1.st) Q → Q1 b H1) : Post K E R W0 H0 (m W0.st) Q1 := by
  rw [M.bind_def] at h
  revert h
  cases m W0.st with
  | ok a st =>
    intro h W1 H1 b h1 h2 h3 h4
    subst h1
    exact hk W1 H1 b a h2 h3 h4 h
  | exc c fs st => exact fun h W2 H2 d vs h1 h2 h3 h4 h5 => h W2 H2 d vs h1 h2 (e0.trans A.sub h3) h4 h5
  | bad => exact fun h => h
/-- a step that must not raise -/
theorem Post.bindN {m : M α} {k : α → M γ} {Q : δ → Hp → Prop} {Q1 : β → Hp → Prop} (h : Post K E S W H ((noExc m >>= k) W0.st) Q)
    (hk : ∀ (W1 : Wd) (H1 : Hp) (b : β) (a : α), Ab K W1 H1 → Ext W0 H0 W1 H1 → R W1 H1 b a → Post K E S W H (k a W1.st) Q → Q1 b H1) : Post K E' R W0 H0 (m W0.st) Q1 := by
  rw [M.bind_def] at h
  unfold noExc at h
  revert h
  cases m W0.st with
  | ok a st =>
    intro h W1 H1 b h1 h2 h3 h4
    subst h1
    exact hk W1 H1 b a h2 h3 h4 h
  | exc c fs st => exact fun h => h.elim
  | bad => exact fun h => h
end

/-! ### dict displays -/
section
variable {X : Cx} {E : XK}
theorem keyP_list {K : PySem.W.Frag} {as F : List Addr} {H : Hp} : ∀ {ks : List (PV × PV)} {ps : List (Key × PV)} {vs : List (V × V)}, Paired (fun (q : V × V) (r : PV × PV) => Rep K as F H q.1 r.1 ∧ Rep K as F H q.2 r.2) vs ks →
    ks.mapM (fun q => (keyP q.1).map fun k => (k, q.2)) = some ps → ∃ kvs : List (Key × V), vs = kvs.map (fun kv => (kV kv.1, kv.2)) ∧ RepKV K as F H kvs ps
  | [], _, _, .nil, h => by cases h; exact ⟨[], rfl, .nil⟩
  | (x, y) :: ks, ps, _, .cons (a := a) r t, h => by
    rw [List.mapM_cons] at h
    obtain ⟨k, h1, h⟩ := Option.bind_eq_some_iff.mp h
    obtain ⟨ps', h2, h⟩ := Option.bind_eq_some_iff.mp h
    obtain ⟨k', e1, rfl⟩ := Option.map_eq_some_iff.mp h1
    cases h
    obtain ⟨kvs, rfl, rr⟩ := keyP_list t h2
    obtain ⟨v1, v2⟩ := a
    refine ⟨(k', v2) :: kvs, ?_, .cons ⟨rfl, r.2⟩ rr⟩
    have := keyP_of r.1 e1
    simp only at this
    rw [this]; rfl
abbrev RPs (K : PySem.W.Frag) : Wd → Hp → List (V × V) → List (PV × PV) → Prop := fun W H vs ps => Paired (fun (q : V × V) (r : PV × PV) => Rep K W.as W.F H q.1 r.1 ∧ Rep K W.as W.F H q.2 r.2) vs ps
theorem sDct {pos : Pos} {keys : List (Option Expr)} {values : List Expr} {trs : List (TE × TE)} {f : Env' → M (List (PV × PV))} (h : PPs X pos keys values trs) (hk : ∀ σ H Q, tR X.K E (RPs X.K) f σ H Q → tPairs trs σ H Q) (hall : keys.all (·.isSome) = true) (hl : keys.length = values.length) (h0 : keys ≠ [])
    (h15 : keys.length ≤ 15) : PE X (.Dict keys values pos) (tG X.K E fun env => do mkD (← f env)) :=
  PEimp (pe_disp h hall hl h0 h15) fun σ H Q ⟨W, env, A, S, P⟩ p hp => by
    obtain ⟨A1, e1⟩ := A.opened (u := .dK []) hp
    refine hk _ _ _ ⟨W.open p, env, A1, S.ext e1 A.sub, Post.bind0 A e1 P fun W2 H2 vs ps A2 e2 r P2 => ?_⟩
    have hpn : p ∉ W.as := A.fresh hp
    have h1 : H2 p = some (.dK []) := e2.keep p _ upd_same hpn
    have h2 : p ∉ W2.as := fun z => (e2.new p z).elim hpn fun q => by rw [upd_same] at q; cases q
    have h3 : p ∈ W2.F := e2.oldF p List.mem_cons_self
    refine ⟨h1, ?_⟩
    unfold mkD at P2
    split at P2
    · rename_i qs e
      obtain ⟨kvs, rfl, rk⟩ := keyP_list r e
      split at P2
      · rename_i hz
        refine ⟨kvs, rfl, by rw [rk.len]; exact hz, ?_⟩
        obtain ⟨A3, e3⟩ := Ab.closed (u := .dK (mergeK [] kvs)) (o := .dct (mergeP [] qs)) hp (e1.trans A.sub e2) A2 h3 h2 (.dct (merge_rep rk .nil))
        refine P2 (W2.close p _) _ (.ref p) rfl A3 e3 (.ref ?_)
        show (W2.as ++ [p])[W2.st.length]? = some p
        rw [← A2.len, List.getElem?_append_right (Nat.le_refl _)]
        simp
      · exact P2.elim
    · exact P2.elim

/-! ### calls -/
theorem more_plain {pos : Pos} {env : Env} : ∀ {es : List Expr}, es.all plainE = true → (backTo pos (starEach es env)).any (·.1) = false
  | [], _ => rfl
  | e :: es, h => by
    rw [List.all_cons, Bool.and_eq_true] at h
    have ih := more_plain (pos := pos) (env := env) h.2
    rw [star_plain h.1]
    unfold backTo at ih ⊢
    rw [List.map_cons, List.any_cons, ih]; rfl
theorem few_plain {pos : Pos} {env : Env} : ∀ {es : List Expr}, es.all plainE = true → (backTo pos (starEach es env)).all (fun x => !x.1) = true
  | [], _ => rfl
  | e :: es, h => by
    rw [List.all_cons, Bool.and_eq_true] at h
    have ih := few_plain (pos := pos) (env := env) h.2
    rw [star_plain h.1]
    unfold backTo at ih ⊢
    rw [List.map_cons, List.all_cons, ih]; rfl
def spG (K : PySem.W.Frag) (g : List PV → M PV) : Sp := fun vs H Q E => rN K E g vs H Q
/-- a call whose arguments and answer hold nothing that can change -/
theorem call_key {C : Cfg} {pu : Bool} {x : Str} {W : Wd} {H : Hp} {Q : VK} {vs : List V} {ps : List PV} (A : Ab X.K W H) (r : RepL X.K W.as W.F H vs ps) (P : Post X.K E (RV X.K) W H (C.call pu x ps W.st) Q) :
    spG X.K (C.call false x) vs H Q E := by
  unfold Cfg.call at P
  cases e : C.calls x with
  | none => rw [e] at P; exact P.elim
  | some g =>
    rw [e] at P
    have eg0 : C.call false x = g := by funext ps; unfold Cfg.call; rw [e]; rfl
    rw [eg0]
    cases pu with
    | false => exact ⟨W, ps, A, r, P⟩
    | true =>
      replace P : Post X.K E (RV X.K) W H (pureCall g ps W.st) Q := P
      unfold pureCall at P
      split at P
      · rename_i hn
        have A0 : Ab X.K ⟨[], W.F, []⟩ H := ⟨rfl, List.nodup_nil, fun a h => (by cases h), A.trk, fun l a o h _ => by simp at h⟩
        refine ⟨⟨[], W.F, []⟩, ps, A0, r.pure hn, ?_⟩
        show Post X.K E (RV X.K) ⟨[], W.F, []⟩ H (g ps []) Q
        cases eg : g ps [] with
        | bad => rw [eg] at P; exact P.elim
        | exc c fs s => rw [eg] at P; exact P.elim
        | ok p st' =>
          rw [eg] at P
          dsimp only at P
          split at P
          · rename_i hp
            intro W' H' v _ A' e' rv
            have kept : ∀ a o, H a = some o → H' a = some o := fun a o h => e'.keep a o h (by simp)
            have sub : ∀ a ∈ W.as, a ∈ W'.F := fun a h => e'.oldF a (A.sub a h)
            have e2 : Ext W H ⟨W.as, W'.F, W.st⟩ H' := ⟨fun _ _ h => h, fun _ h => .inl h, e'.oldF, e'.newF, fun a o h _ => kept a o h⟩
            refine P ⟨W.as, W'.F, W.st⟩ H' v rfl ⟨A.len, A.nd, sub, A'.trk, fun l a o h1 h2 => ?_⟩ e2 (rv.pure hp)
            obtain ⟨u, h3, ro⟩ := A.obj l a o h1 h2
            exact ⟨u, kept _ _ h3, ro.ext e2 A.sub⟩
          · exact P.elim
      · exact P.elim
end

/-! ### isinstance -/
theorem ty_of {K : PySem.W.Frag} {W : Wd} {H : Hp} {v : V} {p : PV} {t : Ty} (A : Ab K W H) (r : Rep K W.as W.F H v p) (h : tyD W.st p = some t) : TyX K H v (.type t.ty) := by
  cases r with
  | non => cases h; exact .base .non
  | bl b => cases h; exact .base (.bl b)
  | int i => cases h; exact .base (.int i)
  | str x => cases h; exact .base (.str x)
  | tup h' r =>
    cases h
    rcases h' with ⟨q | ⟨o, q⟩, _⟩ | ⟨o, its, n, e, c, _⟩
    · exact .base (.tup q)
    · exact .fTuple q
    · exact .kTuple e c
  | lst h' hf r => cases h; exact .base (.lst h')
  | scr h' =>
    cases h
    rcases h' with ⟨q | ⟨o, q⟩, _⟩ | ⟨o, its, n, e, c, _⟩
    · exact .base (.lst q)
    · exact .base (.frz q)
    · exact .kList e c
  | @ref a l hl =>
    simp only [tyD] at h
    split at h
    · rename_i xs e
      cases h
      obtain ⟨u, h3, ro⟩ := A.obj l a _ hl e
      cases ro
      exact .base (.lst h3)
    · rename_i kvs e
      cases h
      obtain ⟨u, h3, ro⟩ := A.obj l a _ hl e
      cases ro
      exact .base (.dK h3)
    · cases h
  | fn x => cases h
  | kd x => cases h
theorem ty_is (t u : Ty) : kitB u.ty t.ty = some (u.is t) := by
  cases t <;> cases u <;> decide +kernel
end PL

/-! PL, part L: built-ins, methods, what loops walk, comprehensions. -/
namespace PL
open PySem PySem.Spec PyProof.Rows L2
section
variable {X : Cx} {E : XK} {G : Glb} {a b c e : Expr} {es : List Expr} {pos p : Pos} {fa fb : Env' → M PV} {fs : Env' → M (List PV)} {x : Str}

/-! ### built-ins -/
theorem bi_ok (C : CtxOk G X) (b : BI) : CallR X b.val (rN X.K E (biV reprD b)) := by
  cases b
  · exact len_ok
  · exact abs_ok
  · exact all_ok C.calm
  · exact any_ok C.calm
  · exact sum_ok C.calm
  · exact tuple_ok
  · exact list_ok
  · exact str_ok
  · exact int_ok
  · exact repr_ok C
theorem bi_boot (b : BI) : bootBuiltins b.nm = some b.val := by cases b <;> rfl
theorem bi_kind (b : BI) : (∃ id, b.val = .builtin id) ∨ ∃ T, b.val = .type T := by cases b <;> first | exact .inl ⟨_, rfl⟩ | exact .inr ⟨_, rfl⟩
theorem not_name {y : Str} (h : okName y = true) : y ≠ "__name__" ∧ (y == ("__debug__" : Str)) = false ∧ (y == ("__classdict__" : Str)) = false := by
  unfold okName at h
  simp only [Bool.and_eq_true, Bool.not_eq_true', decide_eq_true_eq] at h
  exact ⟨h.2, h.1.1, h.1.2⟩
theorem sBi (C : CtxOk G X) (b : BI) (hg : Gl X b.nm) (hm : X.mg b.nm = none) (ha : PA X (e :: es) (tGA X.K E fs)) (hn : okName b.nm = true) (hp : (e :: es).all plainE = true) : PE X (.Call (.Name b.nm p) (e :: es) [] pos) (tG X.K E fun env => do biV reprD b (← fs env)) := by
  obtain ⟨n1, n2, _⟩ := not_name hn
  rw [List.all_cons, Bool.and_eq_true] at hp
  have key : ∀ σ H Q, tG X.K E (fun env => do biV reprD b (← fs env)) σ H Q → tCB (rN X.K E (biV reprD b)) (tGA X.K E fs) σ H Q := fun σ H Q q => tR.bind q fun W1 H1 vs ps env A1 S1 r P1 => ⟨W1, ps, A1, r, P1⟩
  have hc := bi_ok (E := E) C b
  have hv := bi_boot b
  rcases bi_kind b with ⟨id, e1⟩ | ⟨T, e1⟩
  · rw [e1] at hc hv
    exact PEimp (pe_callB hc hg hm hv ha n1 n2 (star_plain hp.1 _ _) (more_plain hp.2)) key
  · rw [e1] at hc hv
    exact PEimp (pe_callTy hc hg hm hv ha n1 n2 (star_plain hp.1 _ _) (more_plain hp.2)) key
theorem ty_boot (t : Ty) : t = .none ∨ bootBuiltins t.nm = some (.type t.ty) := by cases t <;> first | exact .inl rfl | exact .inr rfl
theorem sIsi {t : Ty} {p2 : Pos} (hg : Gl X "isinstance") (hm : X.mg "isinstance" = none) (hg2 : Gl X t.nm) (hm2 : X.mg t.nm = none) (ha : PE X a (tG X.K E fa)) (hp : plainE a = true) (hn : okName t.nm = true) (ht : t ≠ .none) :
    PE X (.Call (.Name "isinstance" p) [a, .Name t.nm p2] [] pos) (tG X.K E fun env => do isiV t (← fa env)) := by
  obtain ⟨n1, n2, _⟩ := not_name hn
  have h2 : PE X (.Name t.nm p2) (tC (.ty t.ty)) := pe_bltn hg2 hm2 ((ty_boot t).resolve_left ht) rfl n1 n2
  refine PEimp (pe_callB call_isi hg hm rfl (pa_cons ha (pa_cons h2 pa_nil rfl) (star_plain hp _ _)) (by decide) (by decide) (star_plain hp _ _) rfl) fun σ H Q q => ?_
  refine tR.bind q fun W1 H1 v q env A1 S1 rv P1 => ?_
  unfold isiV at P1
  split at P1
  · rename_i u e1
    exact ⟨v, .ty t.ty, .type u.ty, .type t.ty, _, rfl, .ty _, ty_of A1 rv e1, kit_ty (ty_is t u), Post.here A1 P1 (.bl _)⟩
  · exact P1.elim

/-! ### methods -/
theorem mt_ok (C : CtxOk G X) (m : MT) : MtR X m.id (rM X.K E (mtV G m)) := by
  cases m
  · exact append_ok
  · exact extend_ok
  · exact join_ok
  · exact split_ok
  · exact partition_ok
  · exact starts_ok
  · exact get_ok C
  · exact update_ok
theorem m_ok (m : MT) : MOk m.T m.nm m.id := by
  cases m
  · exact ⟨F.plainAttrs_list, F.slot_list_append, rfl⟩
  · exact ⟨F.plainAttrs_list, F.slot_list_extend, rfl⟩
  · exact ⟨F.plainAttrs_str, F.slot_str_join, rfl⟩
  · exact ⟨F.plainAttrs_str, F.slot_str_split, rfl⟩
  · exact ⟨F.plainAttrs_str, F.slot_str_partition, rfl⟩
  · exact ⟨F.plainAttrs_str, F.slot_str_startswith, rfl⟩
  · exact ⟨F.plainAttrs_dict, F.slot_dict_get, rfl⟩
  · exact ⟨F.plainAttrs_dict, F.slot_dict_update, rfl⟩
theorem lst_ty {P : Program} {w : World} {K : PySem.W.Frag} {W : Wd} {H : Hp} {v : V} {q : PV} (h : (match q with | .ref l => (match W.st[l]? with | some (.lst _) => true | _ => false) | _ => false) = true) (A : Ab K W H) (r : Rep K W.as W.F H v q) : tyW P w K "list" v H := by
  cases q with
  | ref l =>
    dsimp only at h
    split at h
    · rename_i xs e
      obtain ⟨a, vs, rfl, _, h3, _⟩ := lst_get A r e
      exact .inl (.inl ⟨rfl, vs, .of h3⟩)
    · cases h
  | _ => cases h
theorem dct_ty {P : Program} {w : World} {K : PySem.W.Frag} {W : Wd} {H : Hp} {v : V} {q : PV} (h : (match q with | .ref l => (match W.st[l]? with | some (.dct _) => true | _ => false) | _ => false) = true) (A : Ab K W H) (r : Rep K W.as W.F H v q) : tyW P w K "dict" v H := by
  cases q with
  | ref l =>
    dsimp only at h
    split at h
    · rename_i xs e
      obtain ⟨a, vs, rfl, _, h3, _⟩ := dict_get A r e
      exact .inl (.inr (.inr (.inl ⟨rfl, .inl ⟨vs, h3⟩⟩)))
    · cases h
  | _ => cases h
theorem str_ty {P : Program} {w : World} {K : PySem.W.Frag} {W : Wd} {H : Hp} {v : V} {q : PV} (h : (match q with | .str _ => true | _ => false) = true) (r : Rep K W.as W.F H v q) : tyW P w K "str" v H := by
  cases q with
  | str x => cases r; exact .inl rfl
  | _ => cases h
theorem chk_ok (C : CtxOk G X) {W : Wd} {H : Hp} {v : V} {q : PV} (m : MT) (A : Ab X.K W H) (r : Rep X.K W.as W.F H v q) (h : tyM G W.st m q = true) : tyW X.prog X.w X.K m.T v H := by
  cases m
  · exact lst_ty h A r
  · exact lst_ty h A r
  · exact str_ty h r
  · exact str_ty h r
  · exact str_ty h r
  · exact str_ty h r
  · cases q with
    | ref l => exact dct_ty (q := .ref l) (W := W) h A r
    | kd d =>
      cases r
      obtain ⟨kvs, e⟩ := Option.isSome_iff_exists.mp (show (G.dicts.lookup d).isSome = true from h)
      obtain ⟨es, n, D, _⟩ := C.glb.dict d kvs e
      exact .inr ⟨rfl, _, es, n, rfl, D⟩
    | _ => cases h
  · exact dct_ty h A r
/-- nothing that could be super() -/
theorem not_super (h : notSuper a = true) (n : Str) (env : Env) : attributeBase a n env (eval a env) = eval a env := by
  unfold attributeBase
  split
  · cases h
  · rfl
theorem sMt (C : CtxOk G X) (m : MT) {ap cp : Pos} (ho : PE X a (tG X.K E fa)) (hb : notSuper a = true) (ha : PA X (e :: es) (tGA X.K E fs)) (hp : (e :: es).all plainE = true) (hl : (ap.endLine == cp.line) = true) (h30 : (e :: es).length < 30) :
    PE X (.Call (.Attribute a m.nm ap) (e :: es) [] cp) (tG X.K E fun env => do
      let p ← fa env
      chkM G m p
      let ps ← fs env
      mtV G m p ps) := by
  have hp' := hp
  rw [List.all_cons, Bool.and_eq_true] at hp'
  refine PEimp (pe_mt (m_ok m) (mt_ok (E := E) C m) ho ha (not_super hb _ _) ?_ hl (star_plain hp'.1 _ _) (more_plain hp'.2)) fun σ H Q q => ?_
  · rw [few_plain hp, Bool.true_and, Bool.and_eq_true]
    refine ⟨rfl, decide_eq_true ?_⟩
    simpa using h30
  · refine tR.bind q fun W1 H1 v q env A1 S1 rv P1 => ?_
    rw [M.bind_def] at P1
    unfold chkM at P1
    split at P1
    · rename_i _ s' e1
      split at e1
      · rename_i ht
        cases e1
        exact ⟨chk_ok C m A1 rv ht, W1, env, A1, S1, Post.bind A1 P1 fun W2 H2 vs ps A2 e2 r2 P2 => ⟨W2, q, ps, A2, rv.ext e2 A1.sub, r2, P2⟩⟩
      · cases e1
    · rename_i e1
      split at e1 <;> cases e1
    · exact P1.elim
end

/-! ### what is walked -/
theorem eqPV_sound : ∀ a b : PV, eqPV a b = true → a = b := by
  have two : (∀ a b : PV, eqPV a b = true → a = b) ∧ ∀ a b : List PV, eqPVs a b = true → a = b := by
    refine ⟨fun a => ?_, fun a => ?_⟩
    · exact PV.rec (motive_1 := fun a => ∀ b, eqPV a b = true → a = b) (motive_2 := fun a => ∀ b, eqPVs a b = true → a = b)
        (fun b h => by cases b <;> first | rfl | cases h)
        (fun k b h => by cases b <;> first | (rw [eq_of_beq (show (k == _) = true from h)]) | cases h)
        (fun k b h => by cases b <;> first | (rw [of_decide_eq_true (show decide (k = _) = true from h)]) | cases h)
        (fun k b h => by cases b <;> first | (rw [of_decide_eq_true (show decide (k = _) = true from h)]) | cases h)
        (fun xs ih b h => by cases b <;> first | (rw [ih _ h]) | cases h)
        (fun xs ih b h => by cases b <;> first | (rw [ih _ h]) | cases h)
        (fun k b h => by cases b <;> first | (rw [of_decide_eq_true (show decide (k = _) = true from h)]) | cases h)
        (fun k b h => by cases b <;> first | (rw [of_decide_eq_true (show decide (k = _) = true from h)]) | cases h)
        (fun k b h => by cases b <;> first | (rw [of_decide_eq_true (show decide (k = _) = true from h)]) | cases h)
        (fun k b h => by cases b <;> first | (rw [of_decide_eq_true (show decide (k = _) = true from h)]) | cases h)
        (fun b h => by cases b <;> first | rfl | cases h)
        (fun x xs h1 h2 b h => by
          cases b with
          | nil => cases h
          | cons y ys =>
            obtain ⟨q1, q2⟩ := Bool.and_eq_true_iff.mp (show (eqPV x y && eqPVs xs ys) = true from h)
            rw [h1 _ q1, h2 _ q2]) a
    · induction a with
      | nil => intro b h; cases b <;> first | rfl | cases h
      | cons x xs ih =>
        intro b h
        cases b with
        | nil => cases h
        | cons y ys =>
          obtain ⟨q1, q2⟩ := Bool.and_eq_true_iff.mp (show (eqPV x y && eqPVs xs ys) = true from h)
          rw [ih _ q2]
          congr 1
          exact PV.rec (motive_1 := fun a => ∀ b, eqPV a b = true → a = b) (motive_2 := fun a => ∀ b, eqPVs a b = true → a = b)
            (fun b h => by cases b <;> first | rfl | cases h)
            (fun k b h => by cases b <;> first | (rw [eq_of_beq (show (k == _) = true from h)]) | cases h)
            (fun k b h => by cases b <;> first | (rw [of_decide_eq_true (show decide (k = _) = true from h)]) | cases h)
            (fun k b h => by cases b <;> first | (rw [of_decide_eq_true (show decide (k = _) = true from h)]) | cases h)
            (fun xs ih b h => by cases b <;> first | (rw [ih _ h]) | cases h)
            (fun xs ih b h => by cases b <;> first | (rw [ih _ h]) | cases h)
            (fun k b h => by cases b <;> first | (rw [of_decide_eq_true (show decide (k = _) = true from h)]) | cases h)
            (fun k b h => by cases b <;> first | (rw [of_decide_eq_true (show decide (k = _) = true from h)]) | cases h)
            (fun k b h => by cases b <;> first | (rw [of_decide_eq_true (show decide (k = _) = true from h)]) | cases h)
            (fun k b h => by cases b <;> first | (rw [of_decide_eq_true (show decide (k = _) = true from h)]) | cases h)
            (fun b h => by cases b <;> first | rfl | cases h)
            (fun x xs h1 h2 b h => by
              cases b with
              | nil => cases h
              | cons y ys =>
                obtain ⟨q1, q2⟩ := Bool.and_eq_true_iff.mp (show (eqPV x y && eqPVs xs ys) = true from h)
                rw [h1 _ q1, h2 _ q2]) x y q1
  exact two.1
theorem eqPVs_sound : ∀ a b : List PV, eqPVs a b = true → a = b
  | [], b, h => by cases b <;> first | rfl | cases h
  | x :: xs, b, h => by
    cases b with
    | nil => cases h
    | cons y ys =>
      obtain ⟨q1, q2⟩ := Bool.and_eq_true_iff.mp (show (eqPV x y && eqPVs xs ys) = true from h)
      rw [eqPV_sound _ _ q1, eqPVs_sound xs ys q2]
/-- J gives the items of s, as long as what it leans on stays -/
def RIt (K : PySem.W.Frag) : Wd → Hp → It → Src → Prop := fun W1 H1 J s => ∀ (W2 : Wd) (H2 : Hp) (i : Nat), Ab K W2 H2 → Ext W1 H1 W2 H2 → s.ok W2.st = true →
  (s.items.length ≤ i → J.stop i H2) ∧ ∀ p, s.items[i]? = some p → J.go i H2 ∧ ∀ x H3, J.yld i H2 x H3 → ∃ W3, W3.st = W2.st ∧ Ab K W3 H3 ∧ Ext W2 H2 W3 H3 ∧ Rep K W3.as W3.F H3 x p
abbrev tGI (K : PySem.W.Frag) (E : XK) (f : Env' → M Src) : TI := tR K E (RIt K) f
def Stay (K : PySem.W.Frag) (W1 : Wd) (H1 : Hp) (k : Bool) (a : Addr) (s : Src) : Prop := ∀ (W2 : Wd) (H2 : Hp), Ab K W2 H2 → Ext W1 H1 W2 H2 → s.ok W2.st = true → ∃ vs, Sq K k H2 a vs ∧ RepL K W2.as W2.F H2 vs s.items
section
variable {K : PySem.W.Frag} {W W1 : Wd} {H H1 : Hp} {v : V} {q : PV} {k : Bool} {a : Addr} {s : Src}
theorem srcA_ok (A : Ab K W H) (r : Rep K W.as W.F H v q) {xs : List PV} (h : seqA W.st q = some xs) : ∃ k a vs, v = .ref a ∧ Sq K k H a vs ∧ Stay K W H k a ⟨xs, locsOf xs q⟩ := by
  cases r with
  | tup h' r =>
    cases h
    exact ⟨true, _, _, rfl, h'.imp (·.1) id, fun W2 H2 A2 e2 _ => ⟨_, (h'.imp (e2.rd A.sub) id).imp (·.1) id, r.ext e2 A.sub⟩⟩
  | lst h' hf r =>
    cases h
    exact ⟨false, _, _, rfl, .of h', fun W2 H2 A2 e2 _ => ⟨_, .of (e2.lstK A.sub h' hf).1, r.ext e2 A.sub⟩⟩
  | scr h' =>
    cases h
    exact ⟨false, _, _, rfl, h'.imp (·.1) id, fun W2 H2 A2 e2 _ => ⟨_, (h'.imp (e2.rd A.sub) id).imp (·.1) id, repL_ints _⟩⟩
  | @ref a l hl =>
    have r : Rep K W.as W.F H (.ref a) (.ref l) := .ref hl
    obtain ⟨b, vs, e1, hs, rr⟩ := seqM_ok A r (show seqM W.st (.ref l) = some xs from h)
    cases e1
    refine ⟨false, a, vs, rfl, .of hs, fun W2 H2 A2 e2 ok => ?_⟩
    have ok' : (locOk W2.st (l, xs) && true) = true := ok
    rw [Bool.and_true] at ok'
    unfold locOk at ok'
    dsimp only at ok'
    split at ok'
    · rename_i ys e3
      have e4 := eqPVs_sound _ _ ok'
      subst e4
      obtain ⟨u, h3, ro⟩ := A2.obj l a _ (e2.pre _ _ hl) e3
      cases ro with
      | lst ro => exact ⟨_, .of h3, ro⟩
    · cases ok'
  | _ => cases h
theorem rit_seq (st : Stay K W H k a s) : RIt K W H (ItS K k a) s := fun W2 H2 i A2 e2 ok => by
  obtain ⟨vs, hs, rr⟩ := st W2 H2 A2 e2 ok
  have hl := rr.length
  refine ⟨fun hi => ?_, fun p hp => ?_⟩
  · cases k <;> exact ⟨vs, hs, by omega⟩
  · obtain ⟨u, h1, h2⟩ := rr.get hp
    refine ⟨?_, fun x H3 y => ?_⟩
    · cases k <;> exact ⟨vs, u, hs, h1⟩
    · have y2 : H3 = H2 ∧ ∀ xs, Sq K k H2 a xs → xs[i]? = some x := by cases k <;> exact y
      obtain ⟨rfl, f⟩ := y2
      have := f vs hs
      rw [h1] at this
      cases this
      exact ⟨W2, rfl, A2, .refl, h2⟩
theorem enum_get : ∀ (xs : List PV) (n : Int) (i : Nat) (p : PV), (enumL n xs)[i]? = some p → ∃ x, xs[i]? = some x ∧ p = .tup [.int (n + i), x]
  | [], _, _, _, h => by simp [enumL] at h
  | x :: xs, n, 0, p, h => by
    simp [enumL] at h
    exact ⟨x, rfl, by rw [← h]; simp⟩
  | x :: xs, n, i + 1, p, h => by
    simp only [enumL, List.getElem?_cons_succ] at h
    obtain ⟨y, h1, h2⟩ := enum_get xs (n + 1) i p h
    refine ⟨y, by simpa using h1, ?_⟩
    rw [h2]
    have : n + 1 + (i : Int) = n + ((i + 1 : Nat) : Int) := by omega
    rw [this]
theorem enum_len : ∀ (xs : List PV) (n : Int), (enumL n xs).length = xs.length
  | [], _ => rfl
  | x :: xs, n => congrArg (· + 1) (enum_len xs (n + 1))
theorem rep_pair {W2 : Wd} {H2 : Hp} {T : Addr} {x y : V} {p q : PV} (A2 : Ab K W2 H2) (hT : H2 T = none) (rx : Rep K W2.as W2.F H2 x p) (ry : Rep K W2.as W2.F H2 y q) :
    Ab K W2 (upd H2 T (.tup [x, y])) ∧ Ext W2 H2 W2 (upd H2 T (.tup [x, y])) ∧ Rep K W2.as W2.F (upd H2 T (.tup [x, y])) (.ref T) (.tup [p, q]) := by
  obtain ⟨A3, e3⟩ := A2.laid (u := .tup [x, y]) hT
  exact ⟨A3, e3, .tup (.inl ⟨.inl upd_same, A2.freshF hT⟩) (.cons (rx.ext e3 A2.sub) (.cons (ry.ext e3 A2.sub) .nil))⟩
theorem rit_enum (st : Stay K W H k a s) : RIt K W H (ItE K k a) ⟨enumL 0 s.items, s.locs⟩ := fun W2 H2 i A2 e2 ok => by
  obtain ⟨vs, hs, rr⟩ := st W2 H2 A2 e2 ok
  have hl := rr.length
  refine ⟨fun hi => ⟨vs, hs, ?_⟩, fun p hp => ?_⟩
  · have hi : (enumL 0 s.items).length ≤ i := hi
    rw [enum_len] at hi
    omega
  · obtain ⟨x, h1, rfl⟩ := enum_get _ _ _ _ hp
    obtain ⟨u, h2, h3⟩ := rr.get h1
    refine ⟨⟨vs, u, hs, h2⟩, fun x' H3 y => ?_⟩
    obtain ⟨T, x2, rfl, hT, rfl, f⟩ := y
    have := f vs hs
    rw [h2] at this
    cases this
    obtain ⟨A3, e3, r3⟩ := rep_pair A2 hT (.int (i : Int)) h3
    refine ⟨W2, rfl, A3, e3, ?_⟩
    rw [Int.zero_add]
    exact r3
theorem zip_get : ∀ (xs ys : List PV) (i : Nat) (p : PV), (zipL xs ys)[i]? = some p → ∃ x y, xs[i]? = some x ∧ ys[i]? = some y ∧ p = .tup [x, y]
  | [], _, _, _, h => by simp [zipL] at h
  | _ :: _, [], _, _, h => by simp [zipL] at h
  | x :: xs, y :: ys, 0, p, h => by
    simp [zipL] at h
    exact ⟨x, y, rfl, rfl, h.symm⟩
  | x :: xs, y :: ys, i + 1, p, h => by
    simp only [zipL, List.getElem?_cons_succ] at h
    obtain ⟨u, w, h1, h2, h3⟩ := zip_get xs ys i p h
    exact ⟨u, w, by simpa using h1, by simpa using h2, h3⟩
theorem zip_len : ∀ (xs ys : List PV), (zipL xs ys).length = min xs.length ys.length
  | [], _ => by simp [zipL]
  | _ :: _, [] => by simp [zipL]
  | x :: xs, y :: ys => by
    simp only [zipL, List.length_cons, zip_len xs ys]
    omega
theorem rit_zip {k2 : Bool} {b : Addr} {t : Src} {strict : Bool} (st : Stay K W H k a s) (st2 : Stay K W H k2 b t) (hz : strict = true → s.items.length = t.items.length) : RIt K W H (ItZ K strict k k2 a b) ⟨zipL s.items t.items, s.locs ++ t.locs⟩ := fun W2 H2 i A2 e2 ok => by
  have ok' : (s.locs ++ t.locs).all (locOk W2.st) = true := ok
  rw [List.all_append, Bool.and_eq_true] at ok'
  obtain ⟨vs, hs, rr⟩ := st W2 H2 A2 e2 ok'.1
  obtain ⟨us, hs2, rr2⟩ := st2 W2 H2 A2 e2 ok'.2
  have hl := rr.length
  have hl2 := rr2.length
  refine ⟨fun hi => ⟨vs, us, hs, hs2, ?_⟩, fun p hp => ?_⟩
  · have hi : (zipL s.items t.items).length ≤ i := hi
    rw [zip_len] at hi
    cases strict with
    | false => show vs.length ≤ i ∨ us.length ≤ i; omega
    | true =>
      have := hz rfl
      show vs.length ≤ i ∧ us.length ≤ i
      omega
  · obtain ⟨x, y, h1, h2, rfl⟩ := zip_get _ _ _ _ hp
    obtain ⟨u, h3, h4⟩ := rr.get h1
    obtain ⟨w, h5, h6⟩ := rr2.get h2
    refine ⟨⟨vs, us, u, w, hs, hs2, h3, h5⟩, fun x' H3 yy => ?_⟩
    obtain ⟨T, x2, y2, rfl, hT, rfl, f, g⟩ := yy
    have z1 := f vs hs
    rw [h3] at z1
    cases z1
    have z2 := g us hs2
    rw [h5] at z2
    cases z2
    obtain ⟨A3, e3, r3⟩ := rep_pair A2 hT h4 h6
    exact ⟨W2, rfl, A3, e3, r3⟩
theorem rit_str (z : Str) : RIt K W H (Its z) ⟨signs z, []⟩ := fun W2 H2 i A2 e2 ok => by
  have len : (signs z).length = z.cps.size := by unfold signs; simp
  refine ⟨fun hi => ?_, fun p hp => ?_⟩
  · show z.cps.size ≤ i
    have hi : (signs z).length ≤ i := hi
    omega
  · have hp : (signs z)[i]? = some p := hp
    have hi : i < z.cps.size := by
      have := (List.getElem?_eq_some_iff.mp hp).1
      omega
    refine ⟨hi, fun x H3 y => ?_⟩
    obtain ⟨rfl, c, hc, rfl⟩ := y
    refine ⟨W2, rfl, A2, .refl, ?_⟩
    unfold signs at hp
    rw [List.getElem?_map] at hp
    rw [Array.getElem?_toList, hc] at hp
    cases hp
    exact .str _
theorem range_get {lo : Int} {n i : Nat} {p : PV} (h : (rangeI lo n)[i]? = some p) : i < n ∧ p = .int (lo + i) := by
  unfold rangeI at h
  rw [List.getElem?_map] at h
  obtain ⟨j, h1, rfl⟩ := Option.map_eq_some_iff.mp h
  obtain ⟨h2, h3⟩ := List.getElem?_eq_some_iff.mp h1
  rw [List.length_range] at h2
  rw [List.getElem_range] at h3
  subst h3
  exact ⟨h2, rfl⟩
theorem rit_range {lo : Int} {n : Nat} : RIt K W H (Itr lo n) ⟨rangeI lo n, []⟩ := fun W2 H2 i A2 e2 ok => by
  have len : (rangeI lo n).length = n := by unfold rangeI; simp
  refine ⟨fun hi => ?_, fun p hp => ?_⟩
  · show n ≤ i
    have hi : (rangeI lo n).length ≤ i := hi
    omega
  · obtain ⟨h1, rfl⟩ := range_get hp
    refine ⟨h1, fun x H3 y => ?_⟩
    obtain ⟨rfl, rfl⟩ := y
    exact ⟨W2, rfl, A2, .refl, .int _⟩
end
section
variable {X : Cx} {E : XK} {G : Glb} {a b e tg : Expr} {pos p : Pos} {fa fb : Env' → M PV}
theorem PIimp {t t' : TI} (h : PI X tg e t) (i : ∀ σ H R, t' σ H R → t σ H R) : PI X tg e t' := ⟨fun pins s σ H R I q => h.run pins s σ H R I (i _ _ _ q)⟩
theorem srcA_key {W : Wd} {H : Hp} {R : It → Hp → Prop} {v : V} {q : PV} (A : Ab X.K W H) (r : Rep X.K W.as W.F H v q) (P : Post X.K E (RIt X.K) W H (srcA q W.st) R) : ∃ k a vs, v = .ref a ∧ Sq X.K k H a vs ∧ R (ItS X.K k a) H := by
  unfold srcA at P
  split at P
  · rename_i xs e1
    obtain ⟨k, a, vs, rfl, hs, st⟩ := srcA_ok A r e1
    exact ⟨k, a, vs, rfl, hs, Post.here A P (rit_seq st)⟩
  · exact P.elim
theorem iSeq (h : PE X a (tG X.K E fa)) : PI X tg a (tGI X.K E fun env => do srcV (← fa env)) :=
  PIimp (pi_val h) fun σ H R q => tR.bind q fun W1 H1 v q env A1 S1 rv P1 => by
    unfold srcV at P1
    split at P1
    · cases rv
      exact .inr ⟨_, rfl, Post.here A1 P1 (rit_str _)⟩
    · exact .inl (srcA_key A1 rv P1)
theorem two_args (ha : PE X a (tG X.K E fa)) (hb : PE X b (tG X.K E fb)) (h1 : plainE a = true) (h2 : plainE b = true) : PA X [a, b] (tCons (tG X.K E fa) (tCons (tG X.K E fb) tNil)) :=
  pa_cons ha (pa_cons hb pa_nil (star_plain h2 _ _)) (star_plain h1 _ _)
theorem inR_of {i : Int} (h : inR i = true) : -(2 ^ 62) ≤ i ∧ i < 2 ^ 62 := by
  unfold inR at h
  rw [Bool.and_eq_true] at h
  exact ⟨of_decide_eq_true h.1, of_decide_eq_true h.2⟩
theorem iRange1 (hg : Gl X "range") (hm : X.mg "range" = none) (ha : PE X a (tG X.K E fa)) (h1 : plainE a = true) : PI X tg (.Call (.Name "range" p) [a] [] pos) (tGI X.K E fun env => do srcR1 (← fa env)) :=
  PIimp (pi_range1 hg hm (pa_cons ha pa_nil (star_plain h1 _ _)) (star_plain h1 _ _)) fun σ H R q => tR.bind q fun W1 H1 v q env A1 S1 rv P1 => by
    unfold srcR1 at P1
    split at P1
    · cases rv
      split at P1
      · rename_i j hj
        exact ⟨j, rfl, (inR_of hj).1, (inR_of hj).2, Post.here A1 P1 rit_range⟩
      · exact P1.elim
    · exact P1.elim
theorem iRange2 (hg : Gl X "range") (hm : X.mg "range" = none) (ha : PE X a (tG X.K E fa)) (hb : PE X b (tG X.K E fb)) (h1 : plainE a = true) (h2 : plainE b = true) : PI X tg (.Call (.Name "range" p) [a, b] [] pos) (tGI X.K E fun env => do
    let x ← fa env
    let y ← fb env
    srcR2 x y) :=
  PIimp (pi_range2 hg hm (two_args ha hb h1 h2) (by rw [star_plain h1, star_plain h2]; rfl) (star_plain h2 _ _)) fun σ H R q => tR.bind q fun W1 H1 v q env A1 S1 rv P1 => ⟨W1, env, A1, S1, Post.bind A1 P1 fun W2 H2 u r A2 e2 ru P2 => by
    unfold srcR2 at P2
    split at P2
    · cases rv; cases ru
      split at P2
      · rename_i i j hj
        obtain ⟨j1, j2⟩ := Bool.and_eq_true_iff.mp hj
        exact ⟨i, j, rfl, ⟨(inR_of j1).1, (inR_of j1).2, (inR_of j2).1, (inR_of j2).2⟩, Post.here A2 P2 rit_range⟩
      · exact P2.elim
    · exact P2.elim⟩
variable {elts : List Expr} {kk : Nat} {tpos : Pos}
theorem srcA_bind {α β : Type} {K : PySem.W.Frag} {S : Wd → Hp → β → α → Prop} {W : Wd} {H : Hp} {q : PV} {k : Src → M α} {Q : β → Hp → Prop} (P : Post K E S W H ((srcA q >>= k) W.st) Q) :
    ∃ xs, seqA W.st q = some xs ∧ Post K E S W H (k ⟨xs, locsOf xs q⟩ W.st) Q := by
  rw [M.bind_def] at P
  unfold srcA at P
  cases e : seqA W.st q with
  | some xs => rw [e] at P; exact ⟨xs, rfl, P⟩
  | none => rw [e] at P; exact P.elim
theorem iEnumG (hg : Gl X "enumerate") (hm : X.mg "enumerate" = none) (ha : PE X a (tG X.K E fa)) (h1 : plainE a = true) : PI X (.Tuple elts kk tpos) (.Call (.Name "enumerate" p) [a] [] pos) (tGI X.K E fun env => do
    let s ← srcA (← fa env)
    srcEn s) :=
  PIimp (pi_en hg hm (pa_cons ha pa_nil (star_plain h1 _ _)) (star_plain h1 _ _)) fun σ H R q => tR.bind q fun W1 H1 v q env A1 S1 rv P1 => by
    obtain ⟨xs, e2, P2⟩ := srcA_bind P1
    obtain ⟨k, a, vs, rfl, hs, st⟩ := srcA_ok A1 rv e2
    exact ⟨k, a, vs, rfl, hs, Post.here A1 P2 (rit_enum st)⟩
theorem zip_key {strict : Bool} (σ : L2.St) (H : Hp) (R : It → Hp → Prop) (q : tGI X.K E (fun env => do
    let x ← fa env
    let y ← fb env
    let s ← srcA x
    let t ← srcA y
    srcZip strict s t) σ H R) : iZ X.K strict (tCons (tG X.K E fa) (tCons (tG X.K E fb) tNil)) σ H R :=
  tR.bind q fun W1 H1 v q env A1 S1 rv P1 => ⟨W1, env, A1, S1, Post.bind A1 P1 fun W2 H2 u r A2 e2 ru P2 => by
    have rv2 := rv.ext e2 A1.sub
    obtain ⟨xs, e3, P3⟩ := srcA_bind P2
    obtain ⟨ys, e4, P4⟩ := srcA_bind P3
    obtain ⟨k, a, vs, rfl, hs, st⟩ := srcA_ok A2 rv2 e3
    obtain ⟨k2, b, us, rfl, hs2, st2⟩ := srcA_ok A2 ru e4
    unfold srcZip at P4
    split at P4
    · exact P4.elim
    · rename_i hz
      refine ⟨k, k2, a, b, vs, us, rfl, hs, hs2, Post.here A2 P4 (rit_zip st st2 fun hs => ?_)⟩
      subst hs
      simpa using hz⟩
theorem iZip2 (hg : Gl X "zip") (hm : X.mg "zip" = none) (ha : PE X a (tG X.K E fa)) (hb : PE X b (tG X.K E fb)) (h1 : plainE a = true) (h2 : plainE b = true) : PI X (.Tuple elts kk tpos) (.Call (.Name "zip" p) [a, b] [] pos) (tGI X.K E fun env => do
    let x ← fa env
    let y ← fb env
    let s ← srcA x
    let t ← srcA y
    srcZip false s t) :=
  PIimp (pi_z hg hm (two_args ha hb h1 h2) (star_plain h1 _ _) (more_plain (by simp [h2]))) zip_key
theorem iZipS {kp cp : Pos} {j : Nat} (hg : Gl X "zip") (hm : X.mg "zip" = none) (ha : PE X a (tG X.K E fa)) (hb : PE X b (tG X.K E fb)) (h1 : plainE a = true) (h2 : plainE b = true) : PI X (.Tuple elts kk tpos) (.Call (.Name "zip" p) [a, b] [⟨some "strict", .Constant (.bool true) j cp, kp⟩] pos) (tGI X.K E fun env => do
    let x ← fa env
    let y ← fb env
    let s ← srcA x
    let t ← srcA y
    srcZip true s t) :=
  PIimp (pi_zS hg hm (two_args ha hb h1 h2) (star_plain h1 _ _) (more_plain (by simp [h2]))) zip_key
end
end PL

/-! PL, part M: targets; comprehensions. -/
namespace PL
open PySem PySem.Spec PyProof.Rows L2

/-! ### targets -/
/-- the slots σ' are those of env', and only ss were stored -/
def RG (K : PySem.W.Frag) (σ : L2.St) (ss : List Nat) : Wd → Hp → L2.St → Env' → Prop := fun W H σ' env' => RepS K W H σ' env' ∧ σ'.length = σ.length ∧ ∀ i, i ∉ ss → σ'[i]? = σ[i]?
def tGG (K : PySem.W.Frag) (E : XK) (ss : List Nat) (f : PV → Env' → M Env') : TG := fun v σ H Q => ∃ W env p, Ab K W H ∧ RepS K W H σ env ∧ Rep K W.as W.F H v p ∧ Post K E (RG K σ ss) W H (f p env W.st) Q
def tGGs (K : PySem.W.Frag) (E : XK) (ss : List Nat) (f : List PV → Env' → M Env') : TGs := fun vs σ H Q => ∃ W env ps, Ab K W H ∧ RepS K W H σ env ∧ RepL K W.as W.F H vs ps ∧ Post K E (RG K σ ss) W H (f ps env W.st) Q
section
variable {X : Cx} {E : XK} {e : Expr} {es : List Expr} {pos : Pos} {ss ss' : List Nat}
theorem PGimp {t t' : TG} (h : PG X e t) (i : ∀ v σ H Q, t' v σ H Q → t v σ H Q) : PG X e t' := ⟨fun pins s σ H v u Q I r q => h.run pins s σ H v u Q I r (i _ _ _ _ q)⟩
theorem PGsimp {t t' : TGs} (h : PGs X es t) (i : ∀ v σ H Q, t' v σ H Q → t v σ H Q) : PGs X es t' := ⟨fun pins s σ H v u Q I r q => h.run pins s σ H v u Q I r (i _ _ _ _ q)⟩
theorem rg_name {K : PySem.W.Frag} {W : Wd} {H : Hp} {σ : L2.St} {env : Env'} {v : V} {p : PV} (i : Nat) (S : RepS K W H σ env) (rv : Rep K W.as W.F H v p) : RG K σ [i] W H (σ.set i (some v)) (env.set i (some p)) :=
  ⟨S.set i rv, List.length_set, fun j hj => List.getElem?_set_ne fun z => hj (by simp [z])⟩
theorem gNm {i : Nat} {x : Str} (hN : X.N.Nodup) (hi : X.N[i]? = some x) (hx : Loc X.env.scope x) (hf : X.fn x = true ∨ X.env.scope.names.lookup x = some .local) : PG X (.Name x pos) (tGG X.K E [i] fun p env => pureR (env.set i (some p))) :=
  PGimp (pg_name hN hi hx hf) fun v σ H Q ⟨W, env, p, A, S, rv, P⟩ => P W H _ rfl A .refl (rg_name i S rv)
theorem gsNil : PGs X [] (tGGs X.K E [] fun ps env => match ps with | [] => pureR env | _ => M.fail) :=
  PGsimp pgs_nil fun vs σ H Q ⟨W, env, ps, A, S, r, P⟩ => by
    cases r with
    | nil => exact ⟨rfl, P W H σ rfl A .refl ⟨S, rfl, fun _ _ => rfl⟩⟩
    | cons a b => exact P.elim
theorem each_plain (h : plainE e = true) (es : List Expr) (env : Env) : assignEach (e :: es) env = (false, assign e env) :: assignEach es env := by
  cases e <;> first | rfl | cases h
theorem each_len : ∀ (es : List Expr) (env : Env), (assignEach es env).length = es.length
  | [], _ => rfl
  | e :: es, env => by cases e <;> exact congrArg (· + 1) (each_len es env)
theorem each_find : ∀ {es : List Expr} {env : Env}, es.all plainE = true → (assignEach es env).findIdx? (·.1) = none
  | [], _, _ => rfl
  | e :: es, env, h => by
    rw [List.all_cons, Bool.and_eq_true] at h
    rw [each_plain h.1, List.findIdx?_cons, each_find h.2]; rfl
theorem rg_trans {K : PySem.W.Frag} {W1 W2 : Wd} {H1 H2 : Hp} {σ σ1 σ2 : L2.St} {env1 env2 : Env'} (a : RG K σ ss W1 H1 σ1 env1) (b : RG K σ1 ss' W2 H2 σ2 env2) : RG K σ (ss ++ ss') W2 H2 σ2 env2 :=
  ⟨b.1, b.2.1.trans a.2.1, fun i hi => (b.2.2 i fun z => hi (List.mem_append_right _ z)).trans (a.2.2 i fun z => hi (List.mem_append_left _ z))⟩
/-- one target stored, then the rest: what is wanted behind the first -/
theorem gs_step {f : PV → Env' → M Env'} {g : Env' → M Env'} {W : Wd} {H : Hp} {σ : L2.St} {env : Env'} {v : V} {p : PV} {Q Q1 : L2.St → Hp → Prop} (A : Ab X.K W H) (S : RepS X.K W H σ env) (rv : Rep X.K W.as W.F H v p)
    (P : Post X.K E (RG X.K σ (ss ++ ss')) W H ((f p env >>= g) W.st) Q)
    (h : ∀ W1 H1 σ1 env1, Ab X.K W1 H1 → Ext W H W1 H1 → RepS X.K W1 H1 σ1 env1 → Post X.K E (RG X.K σ1 ss') W1 H1 (g env1 W1.st) Q → Q1 σ1 H1) : tGG X.K E ss f v σ H Q1 := by
  refine ⟨W, env, p, A, S, rv, Post.bind A P fun W1 H1 σ1 env1 A1 e1 r1 P1 => h W1 H1 σ1 env1 A1 e1 r1.1 ?_⟩
  revert P1
  cases g env1 W1.st with
  | ok a st => exact fun P1 W2 H2 b h1 h2 h3 h4 => P1 W2 H2 b h1 h2 h3 (rg_trans r1 h4)
  | exc c fs st => exact fun P1 => P1
  | bad => exact fun P1 => P1
theorem gsCons {f : PV → Env' → M Env'} {g : List PV → Env' → M Env'} (hp : plainE e = true) (h1 : PG X e (tGG X.K E ss f)) (h2 : PGs X es (tGGs X.K E ss' g)) : PGs X (e :: es) (tGGs X.K E (ss ++ ss') fun ps env => match ps with
    | x :: xs => do
      let env1 ← f x env
      g xs env1
    | [] => M.fail) :=
  PGsimp (pgs_cons h1 h2 (by rw [each_plain hp]; rfl)) fun vs σ H Q ⟨W, env, ps, A, S, r, P⟩ => by
    cases r with
    | nil => exact P.elim
    | cons a b => exact ⟨_, _, rfl, gs_step A S a P fun W1 H1 σ1 env1 A1 e1 S1 P1 => ⟨W1, env1, _, A1, S1, b.ext e1 A.sub, P1⟩⟩
/-- a tuple of targets: from a list, from a tuple -/
theorem gTupG {k n : Nat} {g : List PV → Env' → M Env'} (hc : X.calm = true) (h : PGs X es (tGGs X.K E ss g)) (hp : es.all plainE = true) (hl : es.length = n) : PG X (.Tuple es k pos) (tGG X.K E ss fun p env st => match seqA st p with
    | some xs => if xs.length = n then g xs env st else .bad
    | none => .bad) := by
  refine ⟨fun pins s σ H v u Q I r ⟨W, env, p, A, S, rv, P⟩ => ?_⟩
  dsimp only at P
  split at P
  · rename_i xs e1
    split at P
    · rename_i hn
      obtain ⟨a, vs, rfl, hs, rr⟩ := seqA_ok A rv e1
      have hl2 : vs.length = n := by rw [rr.length]; exact hn
      rcases hs with hs | hs
      · exact (pg_unl (k := k) (pos := pos) hc h ((each_len es X.env).trans hl) (each_find hp)).run pins s σ H _ u Q I r ⟨a, vs, rfl, hs, hl2, W, env, xs, A, S, rr, P⟩
      · exact (pg_tup (k := k) (pos := pos) hc h ((each_len es X.env).trans hl) (each_find hp)).run pins s σ H _ u Q I r ⟨a, vs, rfl, hs, hl2, W, env, xs, A, S, rr, P⟩
    · exact P.elim
  · exact P.elim
end

/-! ### slots forgotten -/
theorem wipe_get (σ : L2.St) (i : Nat) : ∀ vs : List Nat, (L2.wipe σ vs)[i]? = if i ∈ vs ∧ i < σ.length then some none else σ[i]?
  | [] => by simp [L2.wipe]
  | v :: vs => by
    have ih := wipe_get σ i vs
    unfold L2.wipe
    by_cases e : v = i
    · subst e
      by_cases hl : v < σ.length
      · rw [List.getElem?_set_self (by rw [wipe_length]; exact hl), if_pos ⟨List.mem_cons_self, hl⟩]
      · rw [List.getElem?_eq_none_iff.mpr (by rw [List.length_set, wipe_length]; omega), if_neg fun z => hl z.2, List.getElem?_eq_none_iff.mpr (by omega)]
    · rw [List.getElem?_set_ne e, ih]
      have : (i ∈ v :: vs) ↔ i ∈ vs := by simp [Ne.symm e]
      simp only [this]
theorem wipe_same {σ σ2 : L2.St} {ss vs : List Nat} (hl : σ2.length = (L2.wipe σ vs).length) (h : ∀ i, i ∉ ss → σ2[i]? = (L2.wipe σ vs)[i]?) (hs : ∀ i ∈ ss, i ∈ vs) : L2.wipe σ2 vs = L2.wipe σ vs := by
  have hl2 : σ2.length = σ.length := hl.trans (wipe_length _ _)
  refine List.ext_getElem? fun i => ?_
  rw [wipe_get, wipe_get, hl2]
  by_cases c : i ∈ vs ∧ i < σ.length
  · rw [if_pos c, if_pos c]
  · rw [if_neg c, if_neg c]
    by_cases hi : i ∈ ss
    · have : ¬ i < σ.length := fun z => c ⟨hs i hi, z⟩
      rw [List.getElem?_eq_none_iff.mpr (by omega), List.getElem?_eq_none_iff.mpr (by omega)]
    · rw [h i hi, wipe_get, if_neg c]

/-! ### comprehensions -/
section
variable {K : PySem.W.Frag} {W W1 : Wd} {H H1 : Hp} {p : Addr} {u : HO}
/-- a write at what anybody may write -/
theorem Ab.wrote (hp : H p = none) (e : Ext W H W1 H1) (A : Ab K W1 H1) (hF : p ∈ W1.F) (hn : p ∉ W1.as) : Ab K W1 (upd H1 p u) ∧ Ext W H W1 (upd H1 p u) := by
  have hk : ∀ a o, a ∉ W1.F → H1 a = some o → upd H1 p u a = some o := fun a o n h => by
    have ne : a ≠ p := by rintro rfl; exact n hF
    rw [upd_ne ne]; exact h
  refine ⟨⟨A.len, A.nd, A.sub, fun a h => ?_, fun l a o h1 h2 => ?_⟩, ⟨e.pre, e.new, e.oldF, e.newF, fun a o h n => by rw [upd_ne (ne_of_none h hp)]; exact e.keep a o h n⟩⟩
  · by_cases z : a = p
    · rw [z, upd_same]; exact fun q => nomatch q
    · rw [upd_ne z]; exact A.trk a h
  · obtain ⟨u', h3, r⟩ := A.obj l a o h1 h2
    have ne : a ≠ p := fun z => hn (by rw [← z]; exact mem_of_ix h1)
    exact ⟨u', by rw [upd_ne ne]; exact h3, r.mono (fun _ _ z => z) (fun _ n _ => n) hk⟩
theorem RepL.wrote {vs : List V} {ps : List PV} (hF : p ∈ W1.F) (r : RepL K W1.as W1.F H1 vs ps) : RepL K W1.as W1.F (upd H1 p u) vs ps :=
  r.mono (fun _ _ z => z) (fun _ n _ => n) fun a o n h => by
    have ne : a ≠ p := by rintro rfl; exact n hF
    rw [upd_ne ne]; exact h
theorem upd_eq {o : HO} (h : H p = some o) : upd H p o = H := by
  funext a
  by_cases e : a = p
  · subst e; rw [upd_same, h]
  · exact upd_ne e
end
section
variable {X : Cx} {E : XK} {tg iter elt : Expr} {ifs : List Expr} {scope : Scope} {own : List (Str × Nat)} {pos : Pos} {ss : List Nat} {fi : Env' → M Src} {gt : PV → Env' → M Env'} {fc : Env' → M Bool} {fe : Env' → M PV} {nw : Bool}
/-- where a turn of a comprehension stands -/
structure Turned (K : PySem.W.Frag) (W1 : Wd) (H1 : Hp) (D : Addr) (Wi : Wd) (H : Hp) (accV : List V) (acc : List PV) : Prop where
  ab : Ab K Wi H
  ext : Ext W1 H1 Wi H
  inF : D ∈ Wi.F
  out : D ∉ Wi.as
  at_ : H D = some (.lst accV)
  rep : RepL K Wi.as Wi.F H accV acc
theorem Turned.on {K : PySem.W.Frag} {W1 : Wd} {H1 : Hp} {D : Addr} {Wi W2 : Wd} {H H2 : Hp} {accV : List V} {acc : List PV} (hs : ∀ a ∈ W1.as, a ∈ W1.F) (t : Turned K W1 H1 D Wi H accV acc) (A : Ab K W2 H2) (e : Ext Wi H W2 H2) : Turned K W1 H1 D W2 H2 accV acc :=
  ⟨A, t.ext.trans hs e, e.oldF _ t.inF, fun z => (e.new D z).elim t.out (fun q => (by rw [t.at_] at q; cases q)), e.keep _ _ t.at_ t.out, t.rep.ext e t.ab.sub⟩
theorem lc_key (hss : ∀ i ∈ ss, i ∈ own.map (·.2)) (σ : L2.St) (H : Hp) (Q : VK) (q : tG X.K E (fun env => do
    let s ← fi env
    let ys ← lcL s gt fc fe (wipeE env (own.map (·.2))) s.items []
    mkL nw ys) σ H Q) : tLc (tGI X.K E fi) (tGG X.K XNo ss gt) (tGT X.K XNo fc) (tG X.K XNo fe) (own.map (·.2)) σ H Q := by
  obtain ⟨W, env, A, S, P⟩ := q
  refine ⟨W, env, A, S, Post.bind0 A .refl P fun W1 H1 J s A1 e1 rI P1 => ?_⟩
  intro D hD
  have S1 := (S.ext e1 A.sub).wipe (own.map (·.2))
  have hDH : H D = none := by
    cases z : H D with
    | none => rfl
    | some o =>
      by_cases m : D ∈ W.as
      · have := A1.trk D (A1.sub D (by
          obtain ⟨l, hl⟩ := List.mem_iff_getElem?.mp m
          exact mem_of_ix (e1.pre l D hl)))
        exact absurd hD this
      · rw [e1.keep D o z m] at hD; cases hD
  refine ⟨fun i m H2 => m = s.items.length - i ∧ i ≤ s.items.length ∧ ∃ Wi accV acc, Turned X.K W1 H1 D Wi H2 accV acc ∧
    Post X.K E (RV X.K) W H ((lcL s gt fc fe (wipeE env (own.map (·.2))) (s.items.drop i) acc >>= fun ys => mkL nw ys) Wi.st) Q, ⟨s.items.length, rfl, Nat.zero_le _, W1.open D, [], [], ?_, P1⟩, ?_⟩
  · obtain ⟨A2, e2⟩ := A1.opened (u := .lst []) hD
    exact ⟨A2, e2, List.mem_cons_self, A1.fresh hD, upd_same, .nil⟩
  rintro i m H2 ⟨rfl, hi, Wi, accV, acc, T, P2⟩
  rw [M.bind_def] at P2
  by_cases hlt : i < s.items.length
  · have hx : s.items[i]? = some s.items[i] := List.getElem?_eq_getElem hlt
    rw [List.drop_eq_getElem_cons hlt] at P2
    unfold lcL at P2
    by_cases hok : s.ok Wi.st = true
    · rw [if_pos hok] at P2
      have r := (rI Wi H2 i T.ab T.ext hok).2 _ hx
      refine .inr ⟨r.1, fun H' => ∃ Wi accV acc, Turned X.K W1 H1 D Wi H' accV acc ∧ Post X.K E (RV X.K) W H ((lcL s gt fc fe (wipeE env (own.map (·.2))) (s.items.drop (i + 1)) acc >>= fun ys => mkL nw ys) Wi.st) Q,
        fun H' h => ⟨s.items.length - (i + 1), by omega, rfl, hlt, h⟩, fun x H3 y => ?_⟩
      obtain ⟨W3, st3, A3, e3, rx⟩ := r.2 x H3 y
      have T3 := T.on A1.sub A3 e3
      have P3 : Post X.K E (RV X.K) W H ((noExc (gt s.items[i] (wipeE env (own.map (·.2)))) >>= fun env1 => noExc (fc env1) >>= fun k => (if k = true then noExc (fe env1) >>= fun y => (if acc.length < sizeLine then lcL s gt fc fe (wipeE env (own.map (·.2))) (s.items.drop (i + 1)) (acc ++ [y]) else M.fail) >>= fun ys => mkL nw ys
          else lcL s gt fc fe (wipeE env (own.map (·.2))) (s.items.drop (i + 1)) acc >>= fun ys => mkL nw ys)) W3.st) Q := by
        rw [st3]
        refine cast (congrArg (fun o => Post X.K E (RV X.K) W H o Q) ?_) P2
        simp only [M.bind_def]
        cases noExc (gt s.items[i] (wipeE env (own.map (·.2)))) Wi.st with
        | ok env1 st =>
          simp only [M.bind_def]
          cases noExc (fc env1) st with
          | ok k st2 =>
            cases k with
            | true =>
              simp only [if_true, M.bind_def]
              cases noExc (fe env1) st2 <;> rfl
            | false => simp only [Bool.false_eq_true, if_false, M.bind_def]
          | exc c fs st2 => rfl
          | bad => rfl
        | exc c fs st => rfl
        | bad => rfl
      refine ⟨W3, _, _, A3, S1.ext (T3.ext) A1.sub, rx, Post.bindN P3 fun W4 H4 σ4 env1 A4 e4 rg P4 => ⟨wipe_same rg.2.1 rg.2.2 hss, ?_⟩⟩
      refine ⟨W4, env1, A4, rg.1, Post.bindN P4 fun W5 H5 b k A5 e5 rb P5 => ?_⟩
      cases rb
      have T5 := (T3.on A1.sub A4 e4).on A1.sub A5 e5
      by_cases hk : b = true
      · rw [if_pos hk] at P5
        rw [if_pos hk]
        refine ⟨W5, env1, A5, rg.1.ext e5 A4.sub, Post.bindN P5 fun W6 H6 y q A6 e6 ry P6 => ?_⟩
        have T6 := T5.on A1.sub A6 e6
        by_cases hz : acc.length < sizeLine
        · rw [if_pos hz] at P6
          refine ⟨accV, T6.at_, by rw [T6.rep.length]; exact hz, W6, accV ++ [y], acc ++ [q], ?_, P6⟩
          obtain ⟨A7, e7⟩ := Ab.wrote (u := .lst (accV ++ [y])) hD T6.ext T6.ab T6.inF T6.out
          exact ⟨A7, e7, T6.inF, T6.out, upd_same, (T6.rep.append (.cons ry .nil)).wrote T6.inF⟩
        · rw [if_neg hz] at P6
          exact P6.elim
      · rw [if_neg hk] at P5
        rw [if_neg hk]
        exact ⟨W5, accV, acc, T5, P5⟩
    · rw [if_neg hok] at P2
      exact P2.elim
  · have hie : i = s.items.length := by omega
    rw [List.drop_eq_nil_of_le (by omega)] at P2
    unfold lcL at P2
    by_cases hok : s.ok Wi.st = true
    · rw [if_pos hok] at P2
      refine .inl ⟨(rI Wi H2 i T.ab T.ext hok).1 (by omega), ?_⟩
      have P2 : Post X.K E (RV X.K) W H (mkL nw acc Wi.st) Q := P2
      unfold mkL at P2
      split at P2
      · cases nw with
        | false =>
          obtain ⟨A7, e7⟩ := Ab.sealed A1 hD T.ext T.ab T.out
          refine P2 (Wi.seal D) H2 (.ref D) rfl A7 (e1.trans A.sub e7) (.lst T.at_ seal_out ?_)
          exact T.rep.mono (fun _ _ z => z) (fun a n _ z => n (by have : a ∈ Wi.F.filter (fun a => decide (a ≠ D)) := z; simp at this; exact this.1)) fun _ _ _ z => z
        | true =>
          obtain ⟨A7, e7⟩ := Ab.closed (u := .lst accV) (o := .lst acc) hD T.ext T.ab T.inF T.out (.lst T.rep)
          rw [upd_eq T.at_] at A7 e7
          refine P2 (Wi.close D _) H2 (.ref D) rfl A7 (e1.trans A.sub e7) (.ref ?_)
          show (Wi.as ++ [D])[Wi.st.length]? = some D
          rw [← T.ab.len, List.getElem?_append_right (Nat.le_refl _)]
          simp
      · exact P2.elim
    · rw [if_neg hok] at P2
      exact P2.elim
end
end PL

/-! PL, part N: the checker is right about targets and expressions. -/
namespace PL
open PySem PySem.Spec PyProof.Rows L2

theorem isK_of {a : Option NameKind} {b : NameKind} (h : isK a b = true) : a = some b := by
  cases a with
  | none => cases h
  | some c =>
    have h : (c == b) = true := h
    cases c <;> cases b <;> first | rfl | (exact absurd h (by decide))

/-- where the checker's k stands for the run's X -/
structure At (CX : CXT) (C : Cfg) (k : Kx) (X : Cx) (E : XK) : Prop where
  ctx : CtxOk C.G X
  N : X.N = k.N
  sc : X.env.scope = k.sc
  fn : X.fn = k.fn
  kd : X.env.scope.kind = .function
  po : PassesOwn (model X.prog X.w) X.A X.env X.xe
  out : Passes CX X E
  fg : ∀ x, x ∈ C.fns → X.mg x = some (.ref (He.ga X.K x))
  kg : ∀ x, (C.G.dicts.lookup x).isSome = true → X.mg x = some (.ref (He.ga X.K x))
  vg : ∀ x, (C.G.vals.lookup x).isSome = true → okName x = true
  cl : ∀ x, x ∈ C.fns → PySem.W.keepIn X.K (.ref (He.ga X.K x)) = true ∧ ∃ kk fd ps, FnG X.prog X.w X.K X.mg X.base CX kk (He.ga X.K x) fd ps (spG X.K (C.call false x)) ∧ Room kk X.A ∧ Binds X.K fd ps []

section
variable {CX : CXT} {C : Cfg} {k : Kx} {X : Cx} {E : XK}
theorem At.vis (T : At CX C k X E) {x : Str} (h : k.vis x = true) : Vis X.env.scope x := by
  unfold Kx.vis at h
  rw [Bool.or_eq_true, Bool.or_eq_true] at h
  unfold Vis
  rw [T.sc]
  rcases h with (h | h) | h
  · exact .inl (isK_of h)
  · exact .inr (.inl (isK_of h))
  · exact .inr (.inr (isK_of h))
theorem At.loc (T : At CX C k X E) {x : Str} (h : k.loc x = true) : L2.Loc X.env.scope x ∧ (X.fn x = true ∨ X.env.scope.names.lookup x = some .local) := by
  unfold Kx.loc at h
  rw [Bool.or_eq_true, Bool.and_eq_true] at h
  unfold L2.Loc
  rw [T.sc, T.fn]
  rcases h with h | h
  · exact ⟨.inl (isK_of h), .inr (isK_of h)⟩
  · exact ⟨.inr (isK_of h.1), .inl h.2⟩
theorem At.gl (T : At CX C k X E) {x : Str} (h : k.gl x = true) : Gl X x := by
  show X.env.scope.names.lookup x = _
  rw [T.sc]
  exact isK_of h
theorem At.at (T : At CX C k X E) {i : Nat} {x : Str} (h : k.at i x = true) : X.N[i]? = some x := by
  rw [T.N]
  exact of_decide_eq_true h
theorem At.blt (T : At CX C k X E) {x : Str} (h : C.G.blt.contains x = true) : X.mg x = none := T.ctx.glb.blt x (by simpa using h)
theorem At.blk (T : At CX C k X E) (hCX : ∀ l H s e s', ¬ CX l H s XNo e s') (s : Shared) (H : Hp) {scope : Scope} (hk : scope.kind = .function) (Ca : Addr) (cl : List (Str × Addr)) (fp : List Addr) : At CX C (k.blk scope) (X.blk s H scope (compEnvC scope cl Ca X.env) fp) XNo where
  ctx := ⟨T.ctx.calm, T.ctx.nd, T.ctx.units, T.ctx.guards, T.ctx.glb⟩
  N := T.N
  sc := by
    show relS scope X.env.scope = relS scope k.sc
    rw [T.sc]
  fn := rfl
  kd := hk
  po := PassesOwn.never
  out := fun pins σ H s e s' I h => hCX _ _ _ _ _ h
  fg := T.fg
  kg := T.kg
  vg := T.vg
  cl := T.cl

/-! ### targets -/
theorem gsStar {e : Expr} {es : List Expr} {p : Pos} {ss ss' : List Nat} {f : PV → Env' → M Env'} {g : List PV → Env' → M Env'} (h1 : PG X e (tGG X.K E ss f)) (h2 : PGs X es (tGGs X.K E ss' g)) : PGs X (.Starred e p :: es) (tGGs X.K E (ss ++ ss') fun ps env => match ps with
    | x :: xs => do
      let env1 ← f x env
      g xs env1
    | [] => M.fail) :=
  ⟨fun pins s σ H vs us Q I r ⟨W, env, ps, A, S, rr, P⟩ => by
    cases rr with
    | nil => exact P.elim
    | cons a b =>
      cases r with
      | cons r rest =>
        refine assignInOrder_cons (thn (h1.run pins s σ H _ _ _ I r (gs_step A S a P fun W1 H1 σ1 env1 A1 e1 S1 P1 => (⟨W1, env1, _, A1, S1, b.ext e1 A.sub, P1⟩ : tGGs X.K E ss' g _ σ1 H1 Q))) fun _ s1 ⟨σ1, H1, I1, q1⟩ => ?_)
        exact h2.run pins s1 σ1 H1 _ _ Q I1 rest q1⟩
/-- the stores of a target with a star, in one row -/
def stepS : LTs → Nat → LTs → List PV → Env' → M Env'
  | .nil, j, post, m :: ys, env => asgTs post ys (env.set j (some m))
  | .cons t r, j, post, x :: xs, env => do
    let env1 ← asgT t x env
    stepS r j post xs env1
  | _, _, _, _, _ => M.fail
theorem stepS_eq (j : Nat) (post : LTs) (m : PV) (ys : List PV) : ∀ (pre : LTs) (xs : List PV) (env : Env') (st : Stor), xs.length = ltsLen pre → (asgTs pre xs env >>= fun env1 => asgTs post ys (env1.set j (some m))) st = stepS pre j post (xs ++ m :: ys) env st
  | .nil, [], env, st, _ => by simp only [asgTs, stepS, List.nil_append]; rfl
  | .nil, _ :: _, _, _, h => by simp [ltsLen] at h
  | .cons t r, [], _, _, h => by simp [ltsLen] at h
  | .cons t r, x :: xs, env, st, h => by
    have ih := stepS_eq j post m ys r xs
    simp only [asgTs, stepS, List.cons_append, M.bind_def]
    cases asgT t x env st with
    | ok env1 st1 =>
      have := ih env1 st1 (by simpa [ltsLen] using h)
      rw [M.bind_def] at this
      exact this
    | exc c fs st1 => rfl
    | bad => rfl
theorem gStarG {pre post : LTs} {j k2 : Nat} {es : List Expr} {pos : Pos} {ss : List Nat} (hc : X.calm = true) (h : PGs X es (tGGs X.K E ss (stepS pre j post))) (hl : es.length = ltsLen pre + 1 + ltsLen post) (hf : (assignEach es X.env).findIdx? (·.1) = some (ltsLen pre)) :
    PG X (.Tuple es k2 pos) (tGG X.K E ss (asgT (.star pre j post))) := by
  refine ⟨fun pins s σ H v u Q I r ⟨W, env, p, A, S, rv, P⟩ => ?_⟩
  unfold asgT at P
  split at P
  · rename_i xs e1
    split at P
    · rename_i hn
      obtain ⟨a, vs, rfl, hs, rr⟩ := seqA_ok A rv e1
      cases r
      have hlen := rr.length
      have hs' : ∃ kd, Sq X.K kd H a vs := hs.elim (fun z => ⟨false, z⟩) fun z => ⟨true, z⟩
      obtain ⟨kd, hs'⟩ := hs'
      rw [PyProof.Rows.assign_Tuple]
      refine wpAny_bind (wpAny_standAt ?_)
      unfold unpack
      rw [each_len, hf]
      refine wpAny_bind (wpAny_holding ?_)
      refine unpack_star (m := ltsLen post) I hc hs' (by omega) (by omega) (by omega) fun D us s' hD I' rel => ?_
      rw [hlen] at I' rel
      obtain ⟨A2, e2⟩ := A.laid (u := .lst ((vs.drop (ltsLen pre)).take (xs.length - ltsLen pre - ltsLen post))) hD
      refine h.run pins s' σ _ _ _ Q I' rel ⟨W, env, xs.take (ltsLen pre) ++ .lst ((xs.drop (ltsLen pre)).take (xs.length - ltsLen pre - ltsLen post)) :: xs.drop (xs.length - ltsLen post), A2, S.ext e2 A.sub, ?_, ?_⟩
      · refine ((rr.take _).ext e2 A.sub).append (.cons (.lst upd_same (A.freshF hD) ?_) ((rr.drop _).ext e2 A.sub))
        exact (((rr.drop _).take _).ext e2 A.sub)
      · rw [stepS_eq] at P
        · exact Post.later A e2 P
        · rw [List.length_take]; omega
    · exact P.elim
  · exact P.elim
theorem PGeq {es : List Expr} {ss : List Nat} {f g : List PV → Env' → M Env'} (h : PGs X es (tGGs X.K E ss f)) (e : ∀ ps env st, f ps env st = g ps env st) : PGs X es (tGGs X.K E ss g) :=
  PGsimp h fun vs σ H Q ⟨W, env, ps, A, S, r, P⟩ => ⟨W, env, ps, A, S, r, by rw [e]; exact P⟩
theorem PGeq1 {e : Expr} {ss : List Nat} {f g : PV → Env' → M Env'} (h : PG X e (tGG X.K E ss f)) (q : ∀ p env st, f p env st = g p env st) : PG X e (tGG X.K E ss g) :=
  PGimp h fun vs σ H Q ⟨W, env, ps, A, S, r, P⟩ => ⟨W, env, ps, A, S, r, by rw [q]; exact P⟩
mutual
theorem sT (T : At CX C k X E) : ∀ (t : LT) (e : Expr), mT k t e = true → PG X e (tGG X.K E (slotsT t) (asgT t))
  | .nm i, e, h => by
    unfold mT at h
    split at h
    · rw [Bool.and_eq_true] at h
      obtain ⟨l1, l2⟩ := T.loc h.2
      simp only [slotsT]
      exact PGeq1 (gNm (E := E) T.ctx.nd (T.at h.1) l1 l2) fun p env st => by simp only [asgT]
    · cases h
  | .tup ts, e, h => by
    unfold mT at h
    split at h
    · obtain ⟨q1, q2, q3⟩ := sTs T ts _ h
      simp only [slotsT]
      exact PGeq1 (gTupG T.ctx.calm q1 q2 q3) fun p env st => by first | (simp only [asgT]; done) | (simp only [asgT]; rfl)
    · cases h
  | .star pre j post, e, h => by
    unfold mT at h
    split at h
    · obtain ⟨q1, q2, q3⟩ := sStar T pre j post _ h
      simp only [slotsT]
      exact gStarG T.ctx.calm q1 q2 q3
    · cases h
theorem sTs (T : At CX C k X E) : ∀ (ts : LTs) (es : List Expr), mTs k ts es = true → PGs X es (tGGs X.K E (slotsT.slotsTs ts) (asgTs ts)) ∧ es.all plainE = true ∧ es.length = ltsLen ts
  | .nil, es, h => by
    unfold mTs at h
    cases es with
    | nil => exact ⟨PGeq gsNil fun ps env st => by cases ps <;> simp only [asgTs], rfl, rfl⟩
    | cons a b => cases h
  | .cons t r, es, h => by
    unfold mTs at h
    cases es with
    | nil => cases h
    | cons e es =>
      simp only [Bool.and_eq_true] at h
      obtain ⟨⟨h1, h2⟩, h3⟩ := h
      obtain ⟨q1, q2, q3⟩ := sTs T r es h3
      refine ⟨PGeq (gsCons h1 (sT T t e h2) q1) fun ps env st => by cases ps <;> simp only [asgTs], ?_, ?_⟩
      · rw [List.all_cons, h1, q2]; rfl
      · rw [List.length_cons, q3]; rfl
theorem sStar (T : At CX C k X E) : ∀ (pre : LTs) (j : Nat) (post : LTs) (es : List Expr), mStar k pre j post es = true → PGs X es (tGGs X.K E (slotsT.slotsTs pre ++ j :: slotsT.slotsTs post) (stepS pre j post)) ∧ es.length = ltsLen pre + 1 + ltsLen post ∧
    (assignEach es X.env).findIdx? (·.1) = some (ltsLen pre)
  | .nil, j, post, es, h => by
    unfold mStar at h
    split at h
    · rename_i x px p r
      simp only [Bool.and_eq_true] at h
      obtain ⟨⟨h1, h2⟩, h3⟩ := h
      obtain ⟨q1, q2, q3⟩ := sTs T post r h3
      obtain ⟨l1, l2⟩ := T.loc h2
      refine ⟨PGeq (gsStar (ss := [j]) (gNm (E := E) (pos := px) T.ctx.nd (T.at h1) l1 l2) q1) fun ps env st => ?_, ?_, rfl⟩
      · cases ps <;> simp only [stepS] <;> rfl
      · rw [List.length_cons, q3]; simp only [ltsLen]; omega
    · cases h
  | .cons t r, j, post, es, h => by
    unfold mStar at h
    cases es with
    | nil => cases h
    | cons e es =>
      simp only [Bool.and_eq_true] at h
      obtain ⟨⟨h1, h2⟩, h3⟩ := h
      obtain ⟨q1, q2, q3⟩ := sStar T r j post es h3
      refine ⟨?_, ?_, ?_⟩
      · have := gsCons h1 (sT T t e h2) q1
        simp only [slotsT.slotsTs, List.append_assoc]
        exact PGeq this fun ps env st => by cases ps <;> simp only [stepS]
      · rw [List.length_cons, q2]; simp only [ltsLen]; omega
      · rw [each_plain h1, List.findIdx?_cons, q3]; rfl
end
end
end PL

/-! PL, part O: the checker is right about expressions. -/
namespace PL
open PySem PySem.Spec PyProof.Rows L2

theorem bop_eq {o : BOp} {p : Operator} (h : o.eq? p = true) : o.op = p := by
  cases o <;> cases p <;> first | rfl | (exact absurd h (by decide))
theorem cop_eq {o : COp} {p : CmpOp} (h : o.eq? p = true) : o.op = p := by
  cases o <;> cases p <;> first | rfl | (exact absurd h (by decide))
theorem fold_plain {e : Expr} (h : (match e with | .Set .. => false | _ => true) = true) (env : Env) (x : Value) : foldedSetIterable e env x = pure x := by
  cases e <;> first | rfl | cases h
section
variable {X : Cx} {CX : CXT} {C : Cfg} {E : XK} {i : Nat} {y : Str} {p pos : Pos} {e : Expr} {es : List Expr} {t : TA}
/-- a def that a name of the block holds -/
theorem pe_fnV (cl : ∀ x, x ∈ C.fns → PySem.W.keepIn X.K (.ref (He.ga X.K x)) = true ∧ ∃ kk fd ps, FnG X.prog X.w X.K X.mg X.base CX kk (He.ga X.K x) fd ps (spG X.K (C.call false x)) ∧ Room kk X.A ∧ Binds X.K fd ps []) (gd : X.A.guards = some []) (out : Passes CX X E)
    (hN : X.N[i]? = some y) (hv : Vis X.env.scope y) (hd : (y == ("__debug__" : Str)) = false) (hcd : (y == ("__classdict__" : Str)) = false) (ha : PA X (e :: es) t)
    (he : starEach (e :: es) X.env = (false, eval e X.env) :: starEach es X.env) (hp : (backTo pos (starEach es X.env)).any (·.1) = false) :
    PE X (.Call (.Name y p) (e :: es) [] pos) (fun σ H Q => ∃ x, x ∈ C.fns ∧ σ[i]? = some (some (.ref (He.ga X.K x))) ∧ t σ H fun vs H1 => spG X.K (C.call false x) vs H1 Q E) := by
  refine ⟨fun pins s σ H Q I ⟨x, hx, hs, ht⟩ => ?_⟩
  obtain ⟨hk, kk, fd, ps, F, room, hb⟩ := cl x hx
  refine wpAny_Call_Name_kw (thn ((pe_var (pos := p) hN hv hd hcd).run pins s σ H (fun v H1 => v = .ref (He.ga X.K x) ∧ H1 = H) I ⟨_, hs, rfl, rfl⟩) fun u s1 ⟨v, H1, I1, r1, q1⟩ => ?_)
  obtain ⟨rfl, rfl⟩ := q1
  cases r1
  exact PySem.W.callWith_K (h₀ := X.base) I.ok.mod.kin hk (thn (ha.run pos pins s1 σ _ _ I1 ht) fun us s2 ⟨vs, H2, I2, r, q⟩ => ⟨I2.kIn, call_fnG F room gd hb out I2 r q⟩) he hp
end

/-- what is shown of an expression -/
def Sd (X : Cx) (E : XK) (e : Expr) (f : EV) : Prop := PB X E e f ∧ ∀ op vs p, e = .BoolOp op vs p → PW X e (tGT X.K E f.t)
section
variable {CX : CXT} {C : Cfg} {k : Kx} {X : Cx} {E : XK}
theorem PBimp {e : Expr} {f g : EV} (h : PB X E e f) (q : f = g) : PB X E e g := q ▸ h
theorem rest_and {b : LE} {y : Expr} {r : List Expr} {p : Pos}
    (h : (match r with
      | [] => mE C.G C.fns k b y
      | _ :: _ => (match b with | .and _ _ => true | _ => false) && mE C.G C.fns k b (.BoolOp .And (y :: r) p)) = true) (hb : ∀ e, mE C.G C.fns k b e = true → Sd X E e (ev C reprD b)) :
    PE X (.BoolOp .And (y :: r) p) (tG X.K E (ev C reprD b).e) ∧ PW X (.BoolOp .And (y :: r) p) (tGT X.K E (ev C reprD b).t) := by
  cases r with
  | nil => exact ⟨pe_one (hb _ h).1.1, pw_and1 (hb _ h).1.2⟩
  | cons z r =>
    have q := hb _ (Bool.and_eq_true_iff.mp h).2
    exact ⟨q.1.1, q.2 _ _ _ rfl⟩
theorem rest_or {b : LE} {y : Expr} {r : List Expr} {p : Pos}
    (h : (match r with
      | [] => mE C.G C.fns k b y
      | _ :: _ => (match b with | .or _ _ => true | _ => false) && mE C.G C.fns k b (.BoolOp .Or (y :: r) p)) = true) (hb : ∀ e, mE C.G C.fns k b e = true → Sd X E e (ev C reprD b)) :
    PE X (.BoolOp .Or (y :: r) p) (tG X.K E (ev C reprD b).e) ∧ PW X (.BoolOp .Or (y :: r) p) (tGT X.K E (ev C reprD b).t) := by
  cases r with
  | nil => exact ⟨pe_one (hb _ h).1.1, pw_or1 (hb _ h).1.2⟩
  | cons z r =>
    have q := hb _ (Bool.and_eq_true_iff.mp h).2
    exact ⟨q.1.1, q.2 _ _ _ rfl⟩
theorem ix_plain {b : LE} {e : Expr} (h : mE C.G C.fns k b e = true) : PlainIx e := by
  intro o i
  cases e with
  | Slice l u s p =>
    cases b <;> (unfold mE at h; cases h)
  | _ => rfl
variable (hCX : ∀ l H s e s', ¬ CX l H s XNo e s')
include hCX
mutual
theorem sE : ∀ (l : LE) (k : Kx) (X : Cx) (E : XK) (T : At CX C k X E) (e : Expr), mE C.G C.fns k l e = true → Sd X E e (ev C reprD l)
  | .var i, k, X, E, T, e, h => by
    unfold mE at h
    split at h
    · simp only [Bool.and_eq_true] at h
      obtain ⟨_, d1, d2⟩ := not_name h.2
      refine ⟨?_, fun _ _ _ z => nomatch z⟩
      unfold ev
      exact sVal (sVar (T.at h.1.1) (T.vis h.1.2) d1 d2) (by intro _; rfl)
    · cases h
  | .int i, k, X, E, T, e, h => by
    unfold mE at h
    split at h
    · cases of_decide_eq_true h
      refine ⟨?_, fun _ _ _ z => nomatch z⟩
      unfold ev
      exact sVal (sPure pe_int fun _ _ _ => .int _) (by intro _; rfl)
    · cases h
  | .bl b, k, X, E, T, e, h => by
    unfold mE at h
    split at h
    · cases eq_of_beq h
      refine ⟨?_, fun _ _ _ z => nomatch z⟩
      unfold ev
      exact sVal (sPure pe_bl fun _ _ _ => .bl _) (by intro _; rfl)
    · cases h
  | .non, k, X, E, T, e, h => by
    unfold mE at h
    split at h
    · refine ⟨?_, fun _ _ _ z => nomatch z⟩
      unfold ev
      exact sVal (sPure pe_non fun _ _ _ => .non) (by intro _; rfl)
    · cases h
  | .str x, k, X, E, T, e, h => by
    unfold mE at h
    split at h
    · cases of_decide_eq_true h
      refine ⟨?_, fun _ _ _ z => nomatch z⟩
      unfold ev
      exact sVal (sPure pe_str fun _ _ _ => .str _) (by intro _; rfl)
    · cases h
  | .glob x q, k, X, E, T, e, h => by
    unfold mE at h
    split at h
    · simp only [Bool.and_eq_true, decide_eq_true_eq] at h
      obtain ⟨⟨⟨rfl, h2⟩, h3⟩, h4⟩ := h
      split at h4
      · rename_i q' e1
        have e2 := eqPV_sound _ _ h4
        subst e2
        obtain ⟨v, u, m1, m2, m3⟩ := T.ctx.glb.val _ _ e1
        refine ⟨?_, fun _ _ _ z => nomatch z⟩
        unfold ev
        exact sVal (sPure (pe_glob (T.gl h2) m1 m2 (not_name h3).2.1) m3) (by intro _; rfl)
      · cases h4
    · cases h
  | .fnv x, k, X, E, T, e, h => by
    unfold mE at h
    split at h
    · simp only [Bool.and_eq_true, decide_eq_true_eq] at h
      obtain ⟨⟨⟨rfl, h2⟩, h3⟩, h4⟩ := h
      refine ⟨?_, fun _ _ _ z => nomatch z⟩
      unfold ev
      exact sVal (sPure (pe_glob (T.gl h2) (T.fg _ (by simpa using h4)) (v := .ref (He.ga X.K x)) rfl (not_name h3).2.1) fun _ _ _ => .fn _) (by intro _; rfl)
    · cases h
  | .kdv x, k, X, E, T, e, h => by
    unfold mE at h
    split at h
    · simp only [Bool.and_eq_true, decide_eq_true_eq] at h
      obtain ⟨⟨⟨rfl, h2⟩, h3⟩, h4⟩ := h
      refine ⟨?_, fun _ _ _ z => nomatch z⟩
      unfold ev
      exact sVal (sPure (pe_glob (T.gl h2) (T.kg _ h4) (v := .ref (He.ga X.K x)) rfl (not_name h3).2.1) fun _ _ _ => .kd _) (by intro _; rfl)
    · cases h
  | .bin nw o a b, k, X, E, T, e, h => by
    unfold mE at h
    split at h
    · simp only [Bool.and_eq_true] at h
      cases bop_eq h.1.1
      refine ⟨?_, fun _ _ _ z => nomatch z⟩
      unfold ev
      exact sVal (sBin o (sE a k X E T _ h.1.2).1.1 (sE b k X E T _ h.2).1.1) (by intro _; rfl)
    · cases h
  | .neg a, k, X, E, T, e, h => by
    unfold mE at h
    split at h
    · refine ⟨?_, fun _ _ _ z => nomatch z⟩
      unfold ev
      exact sVal (sNeg (sE a k X E T _ h).1.1) (by intro _; rfl)
    · cases h
  | .cmp o a b, k, X, E, T, e, h => by
    unfold mE at h
    split at h
    · simp only [Bool.and_eq_true, Bool.not_eq_true'] at h
      cases cop_eq h.1.1.1
      refine ⟨?_, fun _ _ _ z => nomatch z⟩
      unfold ev
      exact sCmp T.ctx o (sE a k X E T _ h.1.1.2).1.1 (sE b k X E T _ h.1.2).1.1 h.2
    · cases h
  | .isN ng a, k, X, E, T, e, h => by
    unfold mE at h
    split at h
    · simp only [Bool.and_eq_true, Bool.not_eq_true'] at h
      obtain ⟨rfl, h2⟩ := h
      refine ⟨?_, fun _ _ _ z => nomatch z⟩
      unfold ev
      exact sIsN (sE a k X E T _ h2).1.1
    · simp only [Bool.and_eq_true] at h
      obtain ⟨rfl, h2⟩ := h
      refine ⟨?_, fun _ _ _ z => nomatch z⟩
      unfold ev
      exact sNotN (sE a k X E T _ h2).1.1
    · cases h
  | .chain o o' a b c, k, X, E, T, e, h => by
    unfold mE at h
    split at h
    · simp only [Bool.and_eq_true, Bool.not_eq_true'] at h
      cases cop_eq h.1.1.1.1.1
      cases cop_eq h.1.1.1.1.2
      refine ⟨?_, fun _ _ _ z => nomatch z⟩
      unfold ev
      exact sChain T.ctx o o' (sE a k X E T _ h.1.1.1.2).1.1 (sE b k X E T _ h.1.1.2).1.1 (sE c k X E T _ h.1.2).1.1 h.2
    · cases h
  | .and a b, k, X, E, T, e, h => by
    unfold mE at h
    split at h
    · rename_i x y r p
      rw [Bool.and_eq_true] at h
      obtain ⟨q1, q2⟩ := rest_and h.2 (fun e => sE b k X E T e)
      have ha := (sE a k X E T _ h.1).1
      have w := PWimp (pw_and ha.2 q2) andT_key
      unfold ev
      exact ⟨⟨PEimp (pe_andT ha.1 q1) andV_key, PTof w⟩, fun _ _ _ _ => w⟩
    · cases h
  | .or a b, k, X, E, T, e, h => by
    unfold mE at h
    split at h
    · rename_i x y r p
      rw [Bool.and_eq_true] at h
      obtain ⟨q1, q2⟩ := rest_or h.2 (fun e => sE b k X E T e)
      have ha := (sE a k X E T _ h.1).1
      have w := PWimp (pw_or ha.2 q2) orT_key
      unfold ev
      exact ⟨⟨PEimp (pe_orT ha.1 q1) orV_key, PTof w⟩, fun _ _ _ _ => w⟩
    · cases h
  | .not a, k, X, E, T, e, h => by
    unfold mE at h
    split at h
    · have ha := (sE a k X E T _ h).1
      refine ⟨?_, fun _ _ _ z => nomatch z⟩
      unfold ev
      exact sNot ha.1 ha.2
    · cases h
  | .ite c a b, k, X, E, T, e, h => by
    unfold mE at h
    split at h
    · simp only [Bool.and_eq_true] at h
      refine ⟨?_, fun _ _ _ z => nomatch z⟩
      unfold ev
      exact ⟨sIf (sE c k X E T _ h.1.1).1.2 (sE a k X E T _ h.1.2).1.1 (sE b k X E T _ h.2).1.1, ptNo _ fun _ => rfl⟩
    · cases h
  | .tup es, k, X, E, T, e, h => by
    unfold mE at h
    split at h
    · refine ⟨?_, fun _ _ _ z => nomatch z⟩
      unfold ev
      exact sVal (sTup (sEs es k X E T _ h).1) (by intro _; rfl)
    · cases h
  | .lst nw es, k, X, E, T, e, h => by
    unfold mE at h
    split at h
    · refine ⟨?_, fun _ _ _ z => nomatch z⟩
      unfold ev
      exact sVal (sLst (sEs es k X E T _ h).1) (by intro _; rfl)
    · cases h
  | .dct kvs, k, X, E, T, e, h => by
    unfold mE at h
    split at h
    · rename_i ks vs p
      simp only [Bool.and_eq_true, Bool.not_eq_true', decide_eq_true_eq] at h
      obtain ⟨trs, q1, q2, q3, q4⟩ := sPs kvs k X E T p _ _ h.1.1
      refine ⟨?_, fun _ _ _ z => nomatch z⟩
      unfold ev
      exact sVal (sDct q1 q2 q3 q4 (fun z => by rw [z] at h; cases h.1.2) h.2) (by intro _; rfl)
    · cases h
  | .ix a i, k, X, E, T, e, h => by
    unfold mE at h
    split at h
    · simp only [Bool.and_eq_true] at h
      refine ⟨?_, fun _ _ _ z => nomatch z⟩
      unfold ev
      exact sVal (sIx T.ctx (sE a k X E T _ h.1).1.1 (sE i k X E T _ h.2).1.1 (ix_plain h.2)) (by intro _; rfl)
    · cases h
  | .sl nw a lo hi, k, X, E, T, e, h => by
    unfold mE at h
    split at h
    · simp only [Bool.and_eq_true] at h
      refine ⟨?_, fun _ _ _ z => nomatch z⟩
      unfold ev
      exact sVal (sSl (sE a k X E T _ h.1.1).1.1 (sO lo k X E T _ h.1.2) (sO hi k X E T _ h.2)) (by intro _; rfl)
    · cases h
  | .call pu x es, k, X, E, T, e, h => by
    unfold mE at h
    split at h
    · rename_i y p as pos
      simp only [Bool.and_eq_true, decide_eq_true_eq, Bool.not_eq_true'] at h
      obtain ⟨⟨⟨⟨rfl, h2⟩, h3⟩, h4⟩, h5⟩ := h
      have hx : x ∈ C.fns := by simpa using h4
      obtain ⟨hk, kk, fd, ps, F, room, hb⟩ := T.cl x hx
      obtain ⟨q1, q2⟩ := sEs es k X E T _ h5
      refine ⟨?_, fun _ _ _ z => nomatch z⟩
      unfold ev
      cases as with
      | nil =>
        cases es with
        | cons a r => unfold mEs at h5; cases h5
        | nil => exact sVal (PEimp (pe_fnG0 F room T.ctx.guards (T.gl h2) (T.fg x hx) hk hb T.out (not_name h3).2.1) fun σ H Q ⟨W, env, A, S, P⟩ => call_key A .nil (by simpa only [evs, pureR, M.bind_def] using P)) (by intro _; rfl)
      | cons a as =>
        have q3 := q2
        rw [List.all_cons, Bool.and_eq_true] at q3
        exact sVal (PEimp (pe_fnG F room T.ctx.guards (T.gl h2) (T.fg x hx) hk hb T.out q1 (not_name h3).2.1 (star_plain q3.1 _ _) (more_plain q3.2)) fun σ H Q q => tR.bind q fun W1 H1 vs ps env A1 S1 r P1 => call_key A1 r P1) (by intro _; rfl)
    · cases h
  | .callv pu i es, k, X, E, T, e, h => by
    unfold mE at h
    split at h
    · rename_i y p as pos
      simp only [Bool.and_eq_true, Bool.not_eq_true'] at h
      obtain ⟨⟨⟨⟨h1, h2⟩, h3⟩, h5⟩, h6⟩ := h
      obtain ⟨q1, q2⟩ := sEs es k X E T _ h5
      obtain ⟨_, d1, d2⟩ := not_name h3
      refine ⟨?_, fun _ _ _ z => nomatch z⟩
      unfold ev
      cases as with
      | nil => cases h6
      | cons a as =>
        have q3 := q2
        rw [List.all_cons, Bool.and_eq_true] at q3
        refine sVal (PEimp (pe_fnV (C := C) T.cl T.ctx.guards T.out (T.at h1) (T.vis h2) d1 d2 q1 (star_plain q3.1 _ _) (more_plain q3.2)) ?_) (by intro _; rfl)
        rintro σ H Q ⟨W, env, A, S, P⟩
        have P : Post X.K E (RV X.K) W H ((look env i >>= fun f => fnOf C f >>= fun x => evs C reprD es env >>= fun ps => C.call pu x ps) W.st) Q := P
        rw [M.bind_def] at P
        cases el : env[i]? with
        | none => simp only [look, el] at P; exact P.elim
        | some o =>
          cases o with
          | none => simp only [look, el] at P; exact P.elim
          | some f =>
            simp only [look, el, M.bind_def] at P
            cases f with
            | fn x =>
              simp only [fnOf] at P
              by_cases hx : C.fns.contains x = true
              · rw [if_pos hx] at P
                obtain ⟨v, h7, h8⟩ := S.2 i _ el
                cases h8
                exact ⟨x, by simpa using hx, h7, W, env, A, S, Post.bind A P fun W1 H1 vs ps A1 e1 r P1 => call_key A1 r P1⟩
              · rw [if_neg hx] at P; exact P.elim
            | _ => exact P.elim
    · cases h
  | .bi b es, k, X, E, T, e, h => by
    unfold mE at h
    split at h
    · rename_i y p as pos
      simp only [Bool.and_eq_true, decide_eq_true_eq, Bool.not_eq_true'] at h
      obtain ⟨⟨⟨⟨⟨rfl, h2⟩, h3⟩, h4⟩, h5⟩, h6⟩ := h
      obtain ⟨q1, q2⟩ := sEs es k X E T _ h5
      refine ⟨?_, fun _ _ _ z => nomatch z⟩
      unfold ev
      cases as with
      | nil => cases h6
      | cons a as => exact sVal (sBi T.ctx b (T.gl h2) (T.blt h4) q1 h3 q2) (by intro _; rfl)
    · cases h
  | .isi a t, k, X, E, T, e, h => by
    unfold mE at h
    split at h
    · rename_i y p x z p2 pos
      simp only [Bool.and_eq_true, decide_eq_true_eq] at h
      obtain ⟨⟨⟨⟨⟨⟨⟨⟨⟨h1, h2⟩, h3⟩, rfl⟩, h5⟩, h6⟩, rfl⟩, h8⟩, h9⟩, h10⟩ := h
      refine ⟨?_, fun _ _ _ z => nomatch z⟩
      unfold ev
      exact sVal (sIsi (T.gl h5) (T.blt h6) (T.gl h8) (T.blt h9) (sE a k X E T _ h10).1.1 h2 h3 h1) (by intro _; rfl)
    · cases h
  | .mt m o es, k, X, E, T, e, h => by
    unfold mE at h
    split at h
    · rename_i x n ap as cp
      simp only [Bool.and_eq_true, decide_eq_true_eq, Bool.not_eq_true'] at h
      obtain ⟨⟨⟨⟨⟨⟨rfl, h2⟩, h3⟩, h4⟩, h5⟩, h6⟩, h7⟩ := h
      obtain ⟨q1, q2⟩ := sEs es k X E T _ h4
      refine ⟨?_, fun _ _ _ z => nomatch z⟩
      unfold ev
      cases as with
      | nil => cases h5
      | cons a as => exact sVal (sMt T.ctx m (sE o k X E T _ h3).1.1 h2 q1 q2 h7 h6) (by intro _; rfl)
    · cases h
  | .comp nw own elt tg it cs, k, X, E, T, e, h => by
    unfold mE at h
    split at h
    · rename_i x t i ifs scope p
      simp only [Bool.and_eq_true] at h
      obtain ⟨⟨⟨⟨⟨h1, h2⟩, h3⟩, h4⟩, h5⟩, h6⟩ := h
      have ok := blkOk_by h1
      rw [← T.N, ← T.sc] at ok
      obtain ⟨q1, q2⟩ := sI it k X E T i t h5
      have TB := fun (s : Shared) (H : Hp) (Ca : Addr) (cl : List (Str × Addr)) (fp : List Addr) => T.blk hCX s H ok.kind Ca cl fp
      refine ⟨?_, fun _ _ _ z => nomatch z⟩
      unfold ev
      refine sVal (PEimp (pe_lc T.ctx.calm T.ctx.nd q1 ok (fun s H Ca cl fp => sT (TB s H Ca cl fp) tg t h4) (fun s H Ca cl fp => sC cs _ _ _ (TB s H Ca cl fp) _ h6) (fun s H Ca cl fp => (sE elt _ _ _ (TB s H Ca cl fp) _ h3).1.1) q2) (lc_key fun j hj => ?_)) (by intro _; rfl)
      have := List.all_eq_true.mp h2 j hj
      simpa using this
    · cases h
theorem sEs : ∀ (ls : LEs) (k : Kx) (X : Cx) (E : XK) (T : At CX C k X E) (es : List Expr), mEs C.G C.fns k ls es = true → PA X es (tGA X.K E (evs C reprD ls)) ∧ es.all plainE = true
  | .nil, k, X, E, T, es, h => by
    unfold mEs at h
    cases es with
    | nil => exact ⟨PAimp sNil fun σ H Q ⟨W, env, A, S, P⟩ => ⟨W, env, A, S, by simpa only [evs] using P⟩, rfl⟩
    | cons a b => cases h
  | .cons l ls, k, X, E, T, es, h => by
    unfold mEs at h
    cases es with
    | nil => cases h
    | cons e es =>
      simp only [Bool.and_eq_true] at h
      obtain ⟨q1, q2⟩ := sEs ls k X E T es h.2
      refine ⟨PAimp (sCons h.1.1 (sE l k X E T e h.1.2).1.1 q1) fun σ H Q ⟨W, env, A, S, P⟩ => ⟨W, env, A, S, by simpa only [evs] using P⟩, ?_⟩
      rw [List.all_cons, h.1.1, q2]; rfl
theorem sC : ∀ (ls : LEs) (k : Kx) (X : Cx) (E : XK) (T : At CX C k X E) (es : List Expr), mC C.G C.fns k ls es = true → PTs X es (tGT X.K E (evc C reprD ls))
  | .nil, k, X, E, T, es, h => by
    unfold mC at h
    cases es with
    | nil => exact ⟨fun pins s σ H Q I ⟨W, env, A, S, P⟩ => pts_nil.run pins s σ H Q I (Post.here A (by simpa only [evc, pureR] using P) rfl)⟩
    | cons a b => cases h
  | .cons l .nil, k, X, E, T, es, h => by
    unfold mC at h
    split at h
    · refine ⟨fun pins s σ H Q I ⟨W, env, A, S, P⟩ => (pts_one (sE l k X E T _ h).1.2).run pins s σ H Q I ⟨W, env, A, S, by simpa only [evc] using P⟩⟩
    · cases h
  | .cons _ (.cons _ _), k, X, E, T, es, h => by
    unfold mC at h
    cases h
theorem sPs : ∀ (kvs : LPs) (k : Kx) (X : Cx) (E : XK) (T : At CX C k X E) (pos : Pos) (ks : List (Option Expr)) (vs : List Expr), mPs C.G C.fns k kvs ks vs = true →
    ∃ trs, PPs X pos ks vs trs ∧ (∀ σ H Q, tR X.K E (RPs X.K) (evps C reprD kvs) σ H Q → tPairs trs σ H Q) ∧ ks.all (·.isSome) = true ∧ ks.length = vs.length
  | .nil, k, X, E, T, pos, ks, vs, h => by
    unfold mPs at h
    rw [Bool.and_eq_true] at h
    cases ks with
    | cons a b => cases h.1
    | nil =>
      cases vs with
      | cons a b => cases h.2
      | nil => exact ⟨[], pps_nil, fun σ H Q ⟨W, env, A, S, P⟩ => Post.here (R := RPs X.K) (a := []) (b := []) A (by simpa only [evps, pureR] using P) .nil, rfl, rfl⟩
  | .cons a b r, k, X, E, T, pos, ks, vs, h => by
    unfold mPs at h
    split at h
    · simp only [Bool.and_eq_true] at h
      obtain ⟨trs, q1, q2, q3, q4⟩ := sPs r k X E T pos _ _ h.2
      refine ⟨_, pps_cons (sE a k X E T _ h.1.1).1.1 (sE b k X E T _ h.1.2).1.1 q1, fun σ H Q ⟨W, env, A, S, P⟩ => ?_, ?_, ?_⟩
      · simp only [evps] at P
        refine ⟨W, env, A, S, Post.bind A P fun W1 H1 x p A1 e1 rx P1 => ⟨W1, env, A1, S.ext e1 A.sub, Post.bind A1 P1 fun W2 H2 y q A2 e2 ry P2 => ?_⟩⟩
        exact q2 _ _ _ ⟨W2, env, A2, (S.ext e1 A.sub).ext e2 A1.sub, Post.bind A2 P2 fun W3 H3 xs ps A3 e3 rs P3 => Post.here A3 P3 (.cons ⟨(rx.ext e2 A1.sub).ext e3 A2.sub, ry.ext e3 A2.sub⟩ rs)⟩
      · rw [List.all_cons, q3]; rfl
      · rw [List.length_cons, List.length_cons, q4]
    · cases h
theorem sO : ∀ (l : LO) (k : Kx) (X : Cx) (E : XK) (T : At CX C k X E) (e : Option Expr), mO C.G C.fns k l e = true → L2.PO X e (tGO X.K E (evo C reprD l))
  | .none, k, X, E, T, e, h => by
    unfold mO at h
    cases e with
    | none => exact ⟨fun pins s σ H Q I ⟨W, env, A, S, P⟩ => sNoPart.run pins s σ H Q I ⟨W, env, A, S, by simpa only [evo] using P⟩⟩
    | some e => cases h
  | .some l, k, X, E, T, e, h => by
    unfold mO at h
    cases e with
    | none => cases h
    | some e => exact ⟨fun pins s σ H Q I ⟨W, env, A, S, P⟩ => (sPart (sE l k X E T e h).1.1).run pins s σ H Q I ⟨W, env, A, S, by simpa only [evo] using P⟩⟩
theorem sI : ∀ (it : LI) (k : Kx) (X : Cx) (E : XK) (T : At CX C k X E) (i t : Expr), mI C.G C.fns k it i t = true → PI X t i (tGI X.K E (evi C reprD it)) ∧ ∀ x, foldedSetIterable i X.env x = pure x
  | .seq a, k, X, E, T, i, t, h => by
    unfold mI at h
    rw [Bool.and_eq_true] at h
    exact ⟨PIimp (iSeq (sE a k X E T i h.1).1.1) fun σ H R ⟨W, env, A, S, P⟩ => ⟨W, env, A, S, by simpa only [evi] using P⟩, fold_plain h.2 _⟩
  | .range1 a, k, X, E, T, i, t, h => by
    unfold mI at h
    split at h
    · simp only [Bool.and_eq_true, decide_eq_true_eq] at h
      obtain ⟨⟨⟨⟨rfl, h2⟩, h3⟩, h4⟩, h5⟩ := h
      exact ⟨PIimp (iRange1 (T.gl h2) (T.blt h3) (sE a k X E T _ h5).1.1 h4) fun σ H R ⟨W, env, A, S, P⟩ => ⟨W, env, A, S, by simpa only [evi] using P⟩, fun _ => rfl⟩
    · cases h
  | .range2 a b, k, X, E, T, i, t, h => by
    unfold mI at h
    split at h
    · simp only [Bool.and_eq_true, decide_eq_true_eq] at h
      obtain ⟨⟨⟨⟨⟨⟨rfl, h2⟩, h3⟩, h4⟩, h5⟩, h6⟩, h7⟩ := h
      exact ⟨PIimp (iRange2 (T.gl h2) (T.blt h3) (sE a k X E T _ h6).1.1 (sE b k X E T _ h7).1.1 h4 h5) fun σ H R ⟨W, env, A, S, P⟩ => ⟨W, env, A, S, by simpa only [evi] using P⟩, fun _ => rfl⟩
    · cases h
  | .enum a, k, X, E, T, i, t, h => by
    unfold mI at h
    split at h
    · simp only [Bool.and_eq_true, decide_eq_true_eq] at h
      obtain ⟨⟨⟨⟨⟨rfl, h2⟩, h3⟩, h4⟩, h5⟩, h6⟩ := h
      cases t with
      | Tuple es kk tp => exact ⟨PIimp (iEnumG (T.gl h2) (T.blt h3) (sE a k X E T _ h5).1.1 h4) fun σ H R ⟨W, env, A, S, P⟩ => ⟨W, env, A, S, by simpa only [evi] using P⟩, fun _ => rfl⟩
      | _ => cases h6
    · cases h
  | .zip strict a b, k, X, E, T, i, t, h => by
    unfold mI at h
    rw [Bool.and_eq_true] at h
    obtain ⟨h0, h⟩ := h
    split at h
    · rename_i y p x z ks pos
      simp only [Bool.and_eq_true, decide_eq_true_eq] at h
      obtain ⟨⟨⟨⟨⟨⟨⟨rfl, h2⟩, h3⟩, h4⟩, h5⟩, h6⟩, h7⟩, h8⟩ := h
      cases t with
      | Tuple es kk tp =>
        split at h8
        · exact ⟨PIimp (iZip2 (T.gl h2) (T.blt h3) (sE a k X E T _ h6).1.1 (sE b k X E T _ h7).1.1 h4 h5) fun σ H R ⟨W, env, A, S, P⟩ => ⟨W, env, A, S, by simpa only [evi] using P⟩, fun _ => rfl⟩
        · cases of_decide_eq_true h8
          exact ⟨PIimp (iZipS (T.gl h2) (T.blt h3) (sE a k X E T _ h6).1.1 (sE b k X E T _ h7).1.1 h4 h5) fun σ H R ⟨W, env, A, S, P⟩ => ⟨W, env, A, S, by simpa only [evi] using P⟩, fun _ => rfl⟩
        · cases h8
      | _ => cases h0
    · cases h
end
end
end PL

/-! PL, part P: the checker is right about statements; defs. -/
namespace PL
open PySem PySem.Spec PyProof.Rows L2

/-- how a row of statements ends -/
inductive FlV where
  | nx (σ : L2.St) | rt (v : V) | bk (σ : L2.St) | ct (σ : L2.St)
def RF (K : PySem.W.Frag) : Wd → Hp → FlV → Fl → Prop := fun W H b a => match b, a with
  | .nx σ, .nx e => RepS K W H σ e
  | .rt v, .ret p => Rep K W.as W.F H v p
  | .bk σ, .bk e => RepS K W H σ e
  | .ct σ, .ct e => RepS K W H σ e
  | _, _ => False
def EndQ (D : Ends) : FlV → Hp → Prop := fun b H => match b with
  | .nx σ => D.nx σ H
  | .rt v => D.rt v H
  | .bk σ => D.bk σ H
  | .ct σ => D.ct σ H
def tGS (K : PySem.W.Frag) (E : XK) (f : Env' → M Fl) : TS := fun D σ H => tR K E (RF K) f σ H (EndQ D)
section
variable {K : PySem.W.Frag} {E : XK} {D D' : Ends} {σ : L2.St} {H : Hp}
/-- what comes behind the next end alone -/
theorem seq_key {f g : Env' → M Fl} (q : tGS K E (fun env => do
    match ← f env with
    | .nx e => g e
    | r => pureR r) D σ H) : tGS K E f { D with nx := tGS K E g D } σ H :=
  tR.bind q fun W1 H1 b a env A1 S1 r P1 => by
    cases a with
    | nx e =>
      cases b with
      | nx σ' => exact ⟨W1, e, A1, r, P1⟩
      | _ => exact r.elim
    | ret p =>
      cases b with
      | rt v => exact (Post.here (R := RF K) (a := .ret p) (b := .rt v) A1 (show Post K E (RF K) W1 H1 (.ok (.ret p) W1.st) (EndQ D) from P1) r : EndQ D (.rt v) H1)
      | _ => exact r.elim
    | bk e =>
      cases b with
      | bk σ' => exact (Post.here (R := RF K) (a := .bk e) (b := .bk σ') A1 (show Post K E (RF K) W1 H1 (.ok (.bk e) W1.st) (EndQ D) from P1) r : EndQ D (.bk σ') H1)
      | _ => exact r.elim
    | ct e =>
      cases b with
      | ct σ' => exact (Post.here (R := RF K) (a := .ct e) (b := .ct σ') A1 (show Post K E (RF K) W1 H1 (.ok (.ct e) W1.st) (EndQ D) from P1) r : EndQ D (.ct σ') H1)
      | _ => exact r.elim
/-- a turn of a loop -/
theorem turn_key {f g : Env' → M Fl} {W : Wd} {env : Env'} (A : Ab K W H) (S : RepS K W H σ env) {N : L2.St → Hp → Prop} (P : Post K E (RF K) W H ((f env >>= fun r => match r with
    | .nx e => g e
    | .ct e => g e
    | .bk e => pureR (.nx e)
    | .ret p => pureR (.ret p)) W.st) (EndQ D)) (hN : ∀ W1 H1 σ1 e, Ab K W1 H1 → Ext W H W1 H1 → RepS K W1 H1 σ1 e → Post K E (RF K) W1 H1 (g e W1.st) (EndQ D) → N σ1 H1) : tGS K E f { D with nx := N, ct := N, bk := D.nx } σ H :=
  ⟨W, env, A, S, Post.bind A P fun W1 H1 b a A1 e1 r P1 => by
    cases a with
    | nx e =>
      cases b with
      | nx σ' => exact hN W1 H1 σ' e A1 e1 r P1
      | _ => exact r.elim
    | ret p =>
      cases b with
      | rt v => exact (Post.here (R := RF K) (a := .ret p) (b := .rt v) A1 (show Post K E (RF K) W1 H1 (.ok (.ret p) W1.st) (EndQ D) from P1) r : EndQ D (.rt v) H1)
      | _ => exact r.elim
    | bk e =>
      cases b with
      | bk σ' => exact (Post.here (R := RF K) (a := .nx e) (b := .nx σ') A1 (show Post K E (RF K) W1 H1 (.ok (.nx e) W1.st) (EndQ D) from P1) r : EndQ D (.nx σ') H1)
      | _ => exact r.elim
    | ct e =>
      cases b with
      | ct σ' => exact hN W1 H1 σ' e A1 e1 r P1
      | _ => exact r.elim⟩
theorem while_key {c : Env' → M Bool} {f : Env' → M Fl} (n : Nat) (q : tGS K E (fun env => whileL c f n env) D σ H) : tWhile (tGT K E c) (tGS K E f) D σ H := by
  refine ⟨fun m σ H => tGS K E (fun env => whileL c f m env) D σ H, ⟨n, q⟩, fun m σ H q => ?_⟩
  cases m with
  | zero => obtain ⟨W, env, A, S, P⟩ := q; exact P.elim
  | succ m =>
    refine tR.bind (show tR K E (RF K) (fun env => c env >>= fun k => if k = true then (f env >>= fun r => match r with
      | .nx e => whileL c f m e
      | .ct e => whileL c f m e
      | .bk e => pureR (.nx e)
      | .ret p => pureR (.ret p)) else pureR (.nx env)) σ H (EndQ D) from q) fun W1 H1 b k env A1 S1 rk P1 => ?_
    cases rk
    by_cases h : b = true
    · rw [if_pos h] at P1
      rw [if_pos h]
      exact ⟨tGS K E (fun env => whileL c f m env) D, fun σ' H' z => ⟨m, Nat.lt_succ_self m, z⟩, turn_key A1 S1 P1 fun W2 H2 σ2 e A2 e2 S2 P2 => ⟨W2, e, A2, S2, P2⟩⟩
    · rw [if_neg h] at P1
      rw [if_neg h]
      exact Post.here (R := RF K) (b := .nx σ) A1 P1 S1
theorem for_key {fi : Env' → M Src} {ss : List Nat} {gt : PV → Env' → M Env'} {f : Env' → M Fl} (q : tGS K E (fun env => do
    let s ← fi env
    forL s gt f s.items env) D σ H) : tFor (tGI K E fi) (tGG K E ss gt) (tGS K E f) D σ H := by
  refine tR.bind q fun W1 H1 J s env A1 S1 rI P1 => ?_
  refine ⟨fun i m σ H => m = s.items.length - i ∧ i ≤ s.items.length ∧ ∃ Wi e, Ab K Wi H ∧ Ext W1 H1 Wi H ∧ RepS K Wi H σ e ∧ Post K E (RF K) Wi H (forL s gt f (s.items.drop i) e Wi.st) (EndQ D), ⟨s.items.length, rfl, Nat.zero_le _, W1, env, A1, .refl, S1, P1⟩, ?_⟩
  rintro i m σ H2 ⟨rfl, hi, Wi, e, A2, e2, S2, P2⟩
  by_cases hlt : i < s.items.length
  · have hx : s.items[i]? = some s.items[i] := List.getElem?_eq_getElem hlt
    rw [List.drop_eq_getElem_cons hlt] at P2
    unfold forL at P2
    by_cases hok : s.ok Wi.st = true
    · rw [if_pos hok] at P2
      have r := (rI Wi H2 i A2 e2 hok).2 _ hx
      refine .inr ⟨r.1, fun σ' H' => ∃ Wi e, Ab K Wi H' ∧ Ext W1 H1 Wi H' ∧ RepS K Wi H' σ' e ∧ Post K E (RF K) Wi H' (forL s gt f (s.items.drop (i + 1)) e Wi.st) (EndQ D), fun σ' H' h => ⟨s.items.length - (i + 1), by omega, rfl, hlt, h⟩, fun x H3 y => ?_⟩
      obtain ⟨W3, st3, A3, e3, rx⟩ := r.2 x H3 y
      have P3 := Post.later A2 e3 P2
      rw [← st3] at P3
      refine ⟨W3, e, _, A3, S2.ext e3 A2.sub, rx, Post.bind A3 P3 fun W4 H4 σ4 env1 A4 e4 rg P4 => ?_⟩
      exact turn_key A4 rg.1 P4 fun W5 H5 σ5 e5 A5 x5 S5 P5 => ⟨W5, e5, A5, (((e2.trans A1.sub e3).trans A1.sub e4).trans A1.sub x5), S5, P5⟩
    · rw [if_neg hok] at P2
      exact P2.elim
  · rw [List.drop_eq_nil_of_le (by omega)] at P2
    unfold forL at P2
    by_cases hok : s.ok Wi.st = true
    · rw [if_pos hok] at P2
      exact .inl ⟨(rI Wi H2 i A2 e2 hok).1 (by omega), Post.here (R := RF K) (b := .nx σ) A2 P2 S2⟩
    · rw [if_neg hok] at P2
      exact P2.elim
end

/-! ### what the text's stores ask -/
theorem swaps_plain {x : Expr} (h : notComp x = true) (t : Option Expr) (n : Nat) (env : Env) : swapsWith x t n env = pure false := by
  cases x <;> first | rfl | cases h
theorem swaps_sole {tg x : Expr} (h : ∀ y p, tg ≠ .Name y p) (n : Nat) (env : Env) : swapsWithSole [tg] x n env = pure false := by
  show swapsWith x (some tg) n env = pure false
  cases tg <;> first | exact absurd rfl (h _ _) | (cases x <;> rfl)
theorem sw_shape {c1 c2 c3 c4 c5 : Bool} {n : List Str} {U : Sem (Option (List Str))} {r : Option (List Str)} (h : (if c1 = true then some none else if c2 = true then some none else if c3 = true then some none else if c4 = true then some none else if c5 = true then none else some (some n)) = some r) :
    (if c1 = true then pure none else if c2 = true then pure none else if c3 = true then pure none else if c4 = true then pure none else if c5 = true then U else pure (some n) : Sem (Option (List Str))) = pure r := by
  cases c1 <;> cases c2 <;> cases c3 <;> cases c4 <;> cases c5 <;> simp at h <;> subst h <;> rfl
theorem swP_some {env : Env} (hk : env.scope.kind = .function) {ts vs : List Expr} {r : Option (List Str)} (h : swP env.scope ts vs = some r) (a c : Nat) (b d : Pos) : swappedStores [.Tuple ts a b] (.Tuple vs c d) env = pure r := by
  have hb : env.blockKind = .function := by unfold Env.blockKind; rw [hk]; rfl
  have hz : (ScopeKind.function != ScopeKind.function) = false := by decide
  unfold swappedStores
  simp only [hb, hz, Bool.or_false]
  exact sw_shape h

section
variable {CX : CXT} {C : Cfg} {wf : Nat}
theorem PSimp {X : Cx} {st : Stmt} {t t' : TS} (h : PS X st t) (i : ∀ D σ H, t' D σ H → t D σ H) : PS X st t' := ⟨fun pins s σ H D I q => h.run pins s σ H D I (i _ _ _ q)⟩
theorem PSsimp {X : Cx} {st : List Stmt} {t t' : TS} (h : PSs X st t) (i : ∀ D σ H, t' D σ H → t D σ H) : PSs X st t' := ⟨fun pins s σ H D I q => h.run pins s σ H D I (i _ _ _ q)⟩
theorem isK_beq {a : Option NameKind} {b : NameKind} (h : (a == some b) = true) : a = some b := by
  cases a with
  | none => exact absurd h (by cases b <;> decide)
  | some c => cases c <;> cases b <;> first | rfl | (exact absurd h (by decide))
theorem sub_assign {X : Cx} {o i : Expr} {pos : Pos} (h : ixHead i = true) (v : Value) : assign (.Subscript o i pos) X.env v = (do
      let ov ← holding [v] (eval o X.env)
      let iv ← holding [v, ov] (eval i X.env)
      standAt pos
      holding [v, ov, iv] (setItem ov iv v)
      release [v, ov, iv] []) := by
  cases i <;> first | rfl | cases h
theorem head_of {G : Glb} {fns : List Str} {k : Kx} {b : LE} {e : Expr} (h : mE G fns k b e = true) : ixHead e = true := by
  cases e with
  | Slice l u s p => cases b <;> (unfold mE at h; cases h)
  | _ => rfl
variable (hCX : ∀ l H s e s', ¬ CX l H s XNo e s')
include hCX
/-- x = a value -/
theorem sSet {k : Kx} {X : Cx} {E : XK} (T : At CX C k X E) {i : Nat} {y : Str} {py pos : Pos} {e : LE} {x : Expr} (hy : k.at i y = true) (hl : k.loc y = true) (h : mE C.G C.fns k e x = true) :
    PS X (.Assign [.Name y py] x pos) (tAsg (tG X.K E (ev C reprD e).e) (gName i)) := by
  obtain ⟨l1, l2⟩ := T.loc hl
  have he := (sE hCX e k X E T x h).1.1
  by_cases hc : notComp x = true
  · exact ps_set T.ctx.nd (T.at hy) l1 he (swaps_plain hc _ _ _) l2
  · cases x with
    | ListComp el gens scope lp =>
      have sw : swapsWith (.ListComp el gens scope lp) (some (.Name y py)) pos.line X.env = pure (X.env.blockKind == .function && X.env.kindOf y == some .local && py.line == (Expr.ListComp el gens scope lp).pos.line && !(scope.names.any fun (n, k) => n == y && (k == .local || k == .cell))) := rfl
      cases b : (X.env.blockKind == .function && X.env.kindOf y == some .local && py.line == (Expr.ListComp el gens scope lp).pos.line && !(scope.names.any fun (n, k) => n == y && (k == .local || k == .cell))) with
      | false => exact ps_set T.ctx.nd (T.at hy) l1 he (by rw [sw, b]) l2
      | true =>
        have yl : X.env.scope.names.lookup y = some .local := by
          simp only [Bool.and_eq_true] at b
          exact isK_beq b.1.1.2
        cases e <;> (unfold mE at h) <;> try (cases h; done)
        rename_i nw own elt tg it cs
        split at h
        · rename_i el t it2 ifs scope2 p2 heq
          cases heq
          simp only [Bool.and_eq_true] at h
          obtain ⟨⟨⟨⟨⟨h1, h2⟩, h3⟩, h4⟩, h5⟩, h6⟩ := h
          have ok := blkOk_by h1
          rw [← T.N, ← T.sc] at ok
          obtain ⟨q1, q2⟩ := sI hCX it k X E T _ _ h5
          have TB := fun (s : Shared) (H : Hp) (Ca : Addr) (cl : List (Str × Addr)) (fp : List Addr) => T.blk hCX s H ok.kind Ca cl fp
          unfold ev
          refine PSimp (ps_setLc T.ctx.calm T.ctx.nd (T.at hy) yl (by rw [sw, b]) q1 ok (fun s H Ca cl fp => sT (TB s H Ca cl fp) tg _ h4) (fun s H Ca cl fp => sC hCX cs _ _ _ (TB s H Ca cl fp) _ h6) (fun s H Ca cl fp => (sE hCX elt _ _ _ (TB s H Ca cl fp) _ h3).1.1) q2)
            fun D σ H q => lc_key (fun j hj => ?_) _ _ _ q
          have := List.all_eq_true.mp h2 j hj
          simpa using this
        · cases h
    | SetComp => cases e <;> (unfold mE at h; cases h)
    | DictComp => cases e <;> (unfold mE at h; cases h)
    | _ => exact absurd rfl hc
theorem asg_key {X : Cx} {E : XK} {ss : List Nat} {f : Env' → M PV} {g : PV → Env' → M Env'} (D : Ends) (σ : L2.St) (H : Hp) (q : tGS X.K E (fun env => do
    let p ← f env
    let env1 ← g p env
    pureR (.nx env1)) D σ H) : tAsg (tG X.K E f) (tGG X.K E ss g) D σ H :=
  tR.bind q fun W1 H1 x p env A1 S1 rx P1 => ⟨W1, env, p, A1, S1, rx, Post.bind A1 P1 fun W2 H2 σ2 e2 A2 x2 rg P2 => (Post.here (R := RF X.K) (a := .nx e2) (b := .nx σ2) A2 P2 rg.1 : EndQ D (.nx σ2) H2)⟩
mutual
theorem sS : ∀ (l : LS) (k : Kx) (X : Cx) (E : XK) (T : At CX C k X E) (s : Stmt), mS C.G C.fns k l s = true → PS X s (tGS X.K E (evS C reprD wf l))
  | .expr e, k, X, E, T, s, h => by
    unfold mS at h
    split at h
    · rw [Bool.and_eq_true] at h
      refine PSimp (ps_expr (sE hCX e k X E T _ h.1).1.1 (swaps_plain h.2 _ _ _)) fun D σ H ⟨W, env, A, S, P⟩ => ?_
      simp only [evS] at P
      exact ⟨W, env, A, S, Post.bind A P fun W1 H1 x p A1 e1 rx P1 => (Post.here (R := RF X.K) (a := .nx env) (b := .nx σ) A1 P1 (S.ext e1 A.sub) : EndQ D (.nx σ) H1)⟩
    · cases h
  | .asg (.nm i) e, k, X, E, T, s, h => by
    unfold mS at h
    split at h
    · rename_i tg x pos
      simp only [Bool.and_eq_true] at h
      obtain ⟨⟨h1, h2⟩, h3⟩ := h
      have h4 := h3.1
      unfold mT at h4
      split at h4
      · rename_i y py
        rw [Bool.and_eq_true] at h4
        refine PSimp (sSet hCX T h4.1 h4.2 h1) fun D σ H ⟨W, env, A, S, P⟩ => ?_
        simp only [evS, asgT] at P
        exact ⟨W, env, A, S, Post.bind A P fun W1 H1 v p A1 e1 rv P1 => (Post.here (R := RF X.K) (a := .nx (env.set i (some p))) (b := .nx (σ.set i (some v))) A1 P1 ((S.ext e1 A.sub).set i rv) : EndQ D (.nx (σ.set i (some v))) H1)⟩
      · cases h4
    · cases h
  | .asg (.tup ts) e, k, X, E, T, s, h => by
    unfold mS at h
    split at h
    · rename_i tg x pos
      simp only [Bool.and_eq_true] at h
      obtain ⟨⟨h1, h2⟩, h3, h4⟩ := h
      have nn : ∀ y p, tg ≠ .Name y p := fun y p z => by subst z; unfold mT at h3; cases h3
      have hw : swappedStores [tg] x X.env = pure none := by
        cases tg with
        | Tuple ts' a b =>
          cases x with
          | Tuple vs c d =>
            dsimp only at h4
            split at h4
            · rename_i e1
              exact swP_some T.kd (by rw [T.sc]; exact e1) a c b d
            · cases h4
          | _ => rfl
        | _ => unfold mT at h3; cases h3
      refine PSimp (ps_asg (sE hCX e k X E T _ h1).1.1 (sT T (.tup ts) tg h3) (swaps_sole nn _ _) hw (by rw [each_plain h2]; rfl)) fun D σ H ⟨W, env, A, S, P⟩ => ?_
      simp only [evS] at P
      exact asg_key hCX D σ H ⟨W, env, A, S, P⟩
    · cases h
  | .asg (.star pre j post) e, k, X, E, T, s, h => by
    unfold mS at h
    split at h
    · rename_i tg x pos
      simp only [Bool.and_eq_true] at h
      obtain ⟨⟨h1, h2⟩, h3, h4⟩ := h
      have nn : ∀ y p, tg ≠ .Name y p := fun y p z => by subst z; unfold mT at h3; cases h3
      have hw : swappedStores [tg] x X.env = pure none := by
        cases tg with
        | Tuple ts' a b => cases x <;> first | rfl | cases h4
        | _ => unfold mT at h3; cases h3
      refine PSimp (ps_asg (sE hCX e k X E T _ h1).1.1 (sT T (.star pre j post) tg h3) (swaps_sole nn _ _) hw (by rw [each_plain h2]; rfl)) fun D σ H ⟨W, env, A, S, P⟩ => ?_
      simp only [evS] at P
      exact asg_key hCX D σ H ⟨W, env, A, S, P⟩
    · cases h
  | .par i j a b, k, X, E, T, s, h => by
    unfold mS at h
    split at h
    · rename_i x px y py kt pt u v k2 pt2 pos
      simp only [Bool.and_eq_true, decide_eq_true_eq] at h
      obtain ⟨⟨⟨⟨⟨⟨⟨⟨⟨h1, h2⟩, h3⟩, h4⟩, h5⟩, h6⟩, h7⟩, h8⟩, h9⟩, h10⟩ := h
      split at h10
      · rename_i z w e1
        rw [Bool.and_eq_true] at h10
        have z1 := of_decide_eq_true h10.1
        have z2 := of_decide_eq_true h10.2
        subst z1 z2
        have hw := swP_some (env := X.env) T.kd (by rw [T.sc]; exact e1) kt k2 pt pt2
        refine PSimp (ps_par T.ctx.calm T.ctx.nd (T.at h1) (T.at h2) h5 (by rw [T.sc]; exact isK_of h3) (by rw [T.sc]; exact isK_of h4) (two_args (sE hCX a k X E T _ h8).1.1 (sE hCX b k X E T _ h9).1.1 h6 h7) hw (swaps_sole (by intro _ _ z; cases z) _ _)) fun D σ H ⟨W, env, A, S, P⟩ => ?_
        simp only [evS] at P
        refine ⟨W, env, A, S, Post.bind A P fun W1 H1 v1 p A1 e1 r1 P1 => ⟨W1, env, A1, S.ext e1 A.sub, Post.bind A1 P1 fun W2 H2 v2 q A2 e2 r2 P2 => ⟨v1, v2, rfl, ?_⟩⟩⟩
        exact (Post.here (R := RF X.K) (a := .nx ((env.set i (some p)).set j (some q))) (b := .nx ((σ.set i (some v1)).set j (some v2))) A2 P2 ((((S.ext e1 A.sub).ext e2 A1.sub).set i (r1.ext e2 A1.sub)).set j r2) : EndQ D (.nx ((σ.set i (some v1)).set j (some v2))) H2)
      · cases h10
    · cases h
  | .setix o i v, k, X, E, T, s, h => by
    unfold mS at h
    split at h
    · rename_i x y tp z pos
      simp only [Bool.and_eq_true] at h
      refine PSimp (ps_asg (sE hCX v k X E T _ h.2).1.1 (pg_sub (sE hCX o k X E T _ h.1.1).1.1 (sE hCX i k X E T _ h.1.2).1.1 (set_ok (E := E) T.ctx) (sub_assign (head_of h.1.2))) (swaps_sole (by intro _ _ z; cases z) _ _) (by cases z <;> rfl) rfl) fun D σ H ⟨W, env, A, S, P⟩ => ?_
      simp only [evS] at P
      refine ⟨W, env, A, S, Post.bind A P fun W1 H1 v1 p1 A1 e1 r1 P1 => ⟨W1, env, A1, S.ext e1 A.sub, Post.bind A1 P1 fun W2 H2 v2 p2 A2 e2 r2 P2 => ⟨W2, env, A2, (S.ext e1 A.sub).ext e2 A1.sub, Post.bind A2 P2 fun W3 H3 v3 p3 A3 e3 r3 P3 => ?_⟩⟩⟩
      refine ⟨W3, p2, p3, p1, A3, r2.ext e3 A2.sub, r3, (r1.ext e2 A1.sub).ext e3 A2.sub, Post.bind A3 P3 fun W4 H4 u u' A4 e4 _ P4 => ?_⟩
      exact (Post.here (R := RF X.K) (a := .nx env) (b := .nx σ) A4 P4 ((((S.ext e1 A.sub).ext e2 A1.sub).ext e3 A2.sub).ext e4 A3.sub) : EndQ D (.nx σ) H4)
    · cases h
  | .aug i o e, k, X, E, T, s, h => by
    unfold mS at h
    split at h
    · rename_i x p op y pos
      simp only [Bool.and_eq_true] at h
      obtain ⟨⟨⟨h1, h2⟩, h3⟩, h4⟩ := h
      cases bop_eq h3
      obtain ⟨l1, l2⟩ := T.loc h2
      have hp : ∃ ti, PIp X o.op ti ∧ ∀ (W : Wd) (H : Hp) (x y : V) (p q : PV) (Q : VK), Ab X.K W H → Rep X.K W.as W.F H x p → Rep X.K W.as W.F H y q → Post X.K E (RV X.K) W H (augV o p q W.st) Q → ti x y H Q := by
        cases o with
        | add =>
          refine ⟨_, ip_add, fun W H x y p q Q A rx ry P => ?_⟩
          cases p <;> first | (exact P.elim) | skip
          cases q <;> first | (exact P.elim) | skip
          cases rx; cases ry
          exact ⟨_, _, rfl, rfl, Post.here A P (.int _)⟩
        | sub =>
          refine ⟨_, ip_sub, fun W H x y p q Q A rx ry P => ?_⟩
          cases p <;> first | (exact P.elim) | skip
          cases q <;> first | (exact P.elim) | skip
          cases rx; cases ry
          exact ⟨_, _, rfl, rfl, Post.here A P (.int _)⟩
        | mul => exact ⟨fun _ _ _ _ => False, fun _ _ _ _ _ _ _ _ _ _ _ _ h => h.elim, fun W H x y p q Q A rx ry P => P.elim⟩
        | fdiv => exact ⟨fun _ _ _ _ => False, fun _ _ _ _ _ _ _ _ _ _ _ _ h => h.elim, fun W H x y p q Q A rx ry P => P.elim⟩
        | mod => exact ⟨fun _ _ _ _ => False, fun _ _ _ _ _ _ _ _ _ _ _ _ h => h.elim, fun W H x y p q Q A rx ry P => P.elim⟩
        | pow => exact ⟨fun _ _ _ _ => False, fun _ _ _ _ _ _ _ _ _ _ _ _ h => h.elim, fun W H x y p q Q A rx ry P => P.elim⟩
      obtain ⟨ti, hpi, hti⟩ := hp
      refine PSimp (ps_aug T.ctx.nd (T.at h1) l1 (sE hCX e k X E T _ h4).1.1 hpi l2) fun D σ H ⟨W, env, A, S, P⟩ => ?_
      simp only [evS] at P
      cases el : env[i]? with
      | none => simp only [M.bind_def, look, el] at P; exact P.elim
      | some o' =>
        cases o' with
        | none => simp only [M.bind_def, look, el] at P; exact P.elim
        | some x' =>
          rw [M.bind_def] at P
          simp only [look, el] at P
          obtain ⟨v, h7, h8⟩ := S.2 i _ el
          refine ⟨v, h7, W, env, A, S, Post.bind A P fun W1 H1 y q A1 e1 ry P1 => hti W1 H1 v y x' q _ A1 (h8.ext e1 A.sub) ry (Post.bind A1 P1 fun W2 H2 z r A2 e2 rz P2 => ?_)⟩
          exact (Post.here (R := RF X.K) (a := .nx (env.set i (some r))) (b := .nx (σ.set i (some z))) A2 P2 (((S.ext e1 A.sub).ext e2 A1.sub).set i rz) : EndQ D (.nx (σ.set i (some z))) H2)
    · cases h
  | .ret e, k, X, E, T, s, h => by
    unfold mS at h
    split at h
    · refine PSimp (ps_ret (sE hCX e k X E T _ h).1.1) fun D σ H ⟨W, env, A, S, P⟩ => ?_
      simp only [evS] at P
      exact ⟨W, env, A, S, Post.bind A P fun W1 H1 x p A1 e1 rx P1 => (Post.here (R := RF X.K) (a := .ret p) (b := .rt x) A1 P1 rx : EndQ D (.rt x) H1)⟩
    · cases h
  | .retN, k, X, E, T, s, h => by
    unfold mS at h
    split at h
    · refine PSimp ps_retN fun D σ H ⟨W, env, A, S, P⟩ => ?_
      simp only [evS, pureR] at P
      exact (Post.here (R := RF X.K) (a := .ret .non) (b := .rt .non) A P .non : EndQ D (.rt .non) H)
    · cases h
  | .ifs c a b, k, X, E, T, s, h => by
    unfold mS at h
    split at h
    · simp only [Bool.and_eq_true] at h
      refine PSimp (ps_if (sE hCX c k X E T _ h.1.1).1.2 (sSs a k X E T _ h.1.2) (sSs b k X E T _ h.2)) fun D σ H ⟨W, env, A, S, P⟩ => ?_
      simp only [evS] at P
      refine ⟨W, env, A, S, Post.bind A P fun W1 H1 x p A1 e1 rx P1 => ?_⟩
      cases rx
      by_cases hx : x = true
      · rw [if_pos hx] at P1
        rw [if_pos hx]
        exact ⟨W1, env, A1, S.ext e1 A.sub, P1⟩
      · rw [if_neg hx] at P1
        rw [if_neg hx]
        exact ⟨W1, env, A1, S.ext e1 A.sub, P1⟩
    · cases h
  | .whl c body, k, X, E, T, s, h => by
    unfold mS at h
    split at h
    · rw [Bool.and_eq_true] at h
      refine PSimp (ps_while T.po (sE hCX c k X E T _ h.1).1.2 (sSs body k X E T _ h.2)) fun D σ H ⟨W, env, A, S, P⟩ => ?_
      simp only [evS] at P
      exact while_key wf ⟨W, env, A, S, P⟩
    · cases h
  | .fr t it body, k, X, E, T, s, h => by
    unfold mS at h
    split at h
    · simp only [Bool.and_eq_true] at h
      obtain ⟨q1, q2⟩ := sI hCX it k X E T _ _ h.1.2
      refine PSimp (ps_for T.po T.ctx.calm q1 (sT T t _ h.1.1) (sSs body k X E T _ h.2) q2) fun D σ H ⟨W, env, A, S, P⟩ => ?_
      simp only [evS] at P
      exact for_key ⟨W, env, A, S, P⟩
    · cases h
  | .pass, k, X, E, T, s, h => by
    unfold mS at h
    split at h
    · refine PSimp ps_pass fun D σ H ⟨W, env, A, S, P⟩ => ?_
      simp only [evS, pureR] at P
      exact (Post.here (R := RF X.K) (a := .nx env) (b := .nx σ) A P S : EndQ D (.nx σ) H)
    · cases h
  | .brk, k, X, E, T, s, h => by
    unfold mS at h
    split at h
    · refine PSimp ps_break fun D σ H ⟨W, env, A, S, P⟩ => ?_
      simp only [evS, pureR] at P
      exact (Post.here (R := RF X.K) (a := .bk env) (b := .bk σ) A P S : EndQ D (.bk σ) H)
    · cases h
  | .cont, k, X, E, T, s, h => by
    unfold mS at h
    split at h
    · refine PSimp ps_continue fun D σ H ⟨W, env, A, S, P⟩ => ?_
      simp only [evS, pureR] at P
      exact (Post.here (R := RF X.K) (a := .ct env) (b := .ct σ) A P S : EndQ D (.ct σ) H)
    · cases h
  | .never, k, X, E, T, s, h => ⟨fun pins s σ H D I ⟨W, env, A, S, P⟩ => by
      simp only [evS] at P
      exact P.elim⟩
theorem sSs : ∀ (ls : LSs) (k : Kx) (X : Cx) (E : XK) (T : At CX C k X E) (ss : List Stmt), mSs C.G C.fns k ls ss = true → PSs X ss (tGS X.K E (evSs C reprD wf ls))
  | .nil, k, X, E, T, ss, h => by
    unfold mSs at h
    cases ss with
    | nil =>
      refine PSsimp pss_nil fun D σ H ⟨W, env, A, S, P⟩ => ?_
      simp only [evSs, pureR] at P
      exact (Post.here (R := RF X.K) (a := .nx env) (b := .nx σ) A P S : EndQ D (.nx σ) H)
    | cons a b => cases h
  | .cons l ls, k, X, E, T, ss, h => by
    unfold mSs at h
    cases ss with
    | nil => cases h
    | cons s ss =>
      rw [Bool.and_eq_true] at h
      refine PSsimp (pss_cons (sS l k X E T s h.1) (sSs ls k X E T ss h.2)) fun D σ H ⟨W, env, A, S, P⟩ => ?_
      simp only [evSs] at P
      exact seq_key ⟨W, env, A, S, P⟩
end
end
end PL

/-! PL, part Q: defs: their parameters, their bodies, calls so deep. -/
namespace PL
open PySem PySem.Spec PyProof.Rows L2

/-! ### parameters -/
theorem fm_congr {α β : Type} {f g : α → Option β} : ∀ {l : List α}, (∀ x ∈ l, f x = g x) → l.filterMap f = l.filterMap g
  | [], _ => rfl
  | x :: l, h => by
    rw [List.filterMap_cons, List.filterMap_cons, h x List.mem_cons_self, fm_congr fun y hy => h y (List.mem_cons_of_mem _ hy)]
theorem zip_lookup : ∀ {ps : List Str} {us : List Value}, ps.Nodup → us.length = ps.length → ps.filterMap (fun n => ((ps.zip us).lookup n).map fun v => (n, v)) = ps.zip us
  | [], _, _, _ => by simp
  | p :: ps, [], _, h => by simp at h
  | p :: ps, u :: us, nd, h => by
    obtain ⟨n1, n2⟩ := List.nodup_cons.mp nd
    have ih := zip_lookup (us := us) n2 (by simpa using h)
    rw [List.zip_cons_cons, List.filterMap_cons]
    have e1 : List.lookup p ((p, u) :: ps.zip us) = some u := by
      rw [List.lookup_cons, beq_self_eq_true]
    rw [e1]
    simp only [Option.map_some]
    congr 1
    refine Eq.trans (fm_congr fun n hn => ?_) ih
    rw [List.lookup_cons]
    have : (n == p) = false := beq_eq_false_iff_ne.mpr fun z => n1 (z ▸ hn)
    rw [this]
theorem zip_some : ∀ {ps : List Str} {us : List Value}, us.length = ps.length → (ps.filter fun n => ((ps.zip us).lookup n).isNone) = [] := by
  have key : ∀ (ps : List Str) (us : List Value) (n : Str), us.length = ps.length → n ∈ ps → ((ps.zip us).lookup n).isNone = false := by
    intro ps
    induction ps with
    | nil => intro us n _ h; cases h
    | cons p ps ih =>
      intro us n hl hn
      cases us with
      | nil => simp at hl
      | cons u us =>
        rw [List.zip_cons_cons, List.lookup_cons]
        by_cases e : (n == p) = true
        · rw [e]; rfl
        · have e' : (n == p) = false := by simpa using e
          rw [e']
          refine ih us n (by simpa using hl) ?_
          rcases List.mem_cons.mp hn with z | z
          · exact absurd (beq_iff_eq.mpr z) e
          · exact z
  intro ps us hl
  exact List.filter_eq_nil_iff.mpr fun n hn => by rw [key ps us n hl hn]; exact Bool.false_ne_true
/-- plain parameters alone -/
def plainA (a : Arguments) (ps : List Str) : Bool := a.posonlyargs.isEmpty && a.vararg.isNone && a.kwonlyargs.isEmpty && a.kwarg.isNone && decide (a.args.map (·.arg) = ps)
theorem bind_plain {fd : FuncData} {ps : List Str} (h : plainA fd.params ps = true) (hd : fd.defaults = .none) (nd : ps.Nodup) (us : List Value) (hl : us.length = ps.length) : bindArgs fd ⟨us, []⟩ = pure (ps.zip us) := by
  obtain ⟨nm, qn, ⟨po, as, va, ko, kd, kw, df⟩, bd, sc, gl, cl, dV, kV, dc, pm, an, cd, ct, bt⟩ := fd
  unfold plainA at h
  simp only [Bool.and_eq_true, decide_eq_true_eq, List.isEmpty_iff, Option.isNone_iff_eq_none] at h
  obtain ⟨⟨⟨⟨rfl, rfl⟩, rfl⟩, rfl⟩, rfl⟩ := h
  simp only at hd
  subst hd
  have hn : ¬ ((as.map (·.arg)).length < us.length) := by omega
  have hs : seqItems? Value.none = pure none := rfl
  have e1 := zip_some (ps := as.map (·.arg)) (us := us) hl
  have e2 := zip_lookup nd hl
  unfold bindArgs
  simp only [hs, List.map_nil, List.nil_append, List.append_nil, List.forIn_nil, pure_bind, Option.getD_none, List.drop_nil, List.length_nil, Nat.sub_zero, List.take_length, e1, e2, List.isEmpty_nil, Bool.not_true, Option.isNone_none, Bool.and_true, Array.toList_empty, List.drop_length, List.zip_nil_right, List.zip_nil_left, gt_iff_lt, decide_eq_true_eq, hn, if_false, Bool.false_eq_true]

/-! ### defs -/
/-- the object at f is the def d -/
structure DefAt (G : Glb) (fns : List Str) (K : PySem.W.Frag) (f : Addr) (d : Def) : Prop where
  ex : ∃ (oc : Value) (od : Option Addr) (nm qual : Str) (params : Arguments) (body : List Stmt) (scope : Scope) (kV doc pm : Value) (an : Option Addr) (cdv ct : Value) (osl : Array (Option Value)),
    K.lookup f = some ⟨oc, od, .func (PySem.W.fnOf nm qual params body scope .none kV doc pm an cdv ct), osl⟩ ∧ PySem.W.codeIn K cdv qual = true ∧ C8.scC d.slots d.params scope = true ∧ plainA params d.params = true ∧
      mSs G fns ⟨d.slots, scope, fun _ => true⟩ d.body body = true
theorem DefAt.keep {G : Glb} {fns : List Str} {K : PySem.W.Frag} {f : Addr} {d : Def} (D : DefAt G fns K f d) : PySem.W.keepIn K (.ref f) = true := by
  obtain ⟨oc, od, nm, qual, params, body, scope, kV, doc, pm, an, cdv, ct, osl, lk, _⟩ := D.ex
  unfold PySem.W.keepIn
  dsimp only
  rw [lk]
/-- what a run of the module's defs leans on -/
structure ModOk (G : Glb) (defs : List Def) (P : Program) (w : World) (K : PySem.W.Frag) (mg : Str → Option Value) : Prop where
  glb : GOk G P w K mg
  def_ : ∀ d ∈ defs, mg d.name = some (.ref (He.ga K d.name)) ∧ DefAt G (defs.map (·.name)) K (He.ga K d.name) d
  kd : ∀ x, (G.dicts.lookup x).isSome = true → mg x = some (.ref (He.ga K x))
  vd : ∀ x, (G.vals.lookup x).isSome = true → okName x = true
theorem nodup_take {ps N : List Str} (h : N.take ps.length = ps) (nd : N.Nodup) : ps.Nodup := h ▸ nd.sublist (List.take_sublist _ _)
section
variable {P : Program} {w : World} {K : PySem.W.Frag} {mg : Str → Option Value}
theorem rep_start {W : Wd} {H : Hp} {N : List Str} {vs : List V} {ps : List PV} (r : RepL K W.as W.F H vs ps) : RepS K W H (L2.start N vs) (ps.map some ++ List.replicate (N.length - ps.length) none) := by
  have hl := r.length
  unfold L2.start
  rw [hl]
  refine ⟨by simp [hl], fun i p h => ?_⟩
  by_cases c : i < ps.length
  · rw [List.getElem?_append_left (by simpa using c), List.getElem?_map] at h
    obtain ⟨q, h1, h2⟩ := Option.map_eq_some_iff.mp h
    cases h2
    obtain ⟨v, h3, h4⟩ := r.get h1
    refine ⟨v, ?_, h4⟩
    rw [List.getElem?_append_left (by rw [List.length_map, hl]; exact c), List.getElem?_map, h3]; rfl
  · rw [List.getElem?_append_right (by simpa using Nat.le_of_not_lt c)] at h
    rw [List.getElem?_replicate] at h
    split at h <;> cases h
/-- a def's run, one level over its calls -/
theorem def_ok {C : Cfg} {wf n : Nat} {d : Def} (M : GOk C.G P w K mg) (fg : ∀ x, x ∈ C.fns → mg x = some (.ref (He.ga K x))) (kg : ∀ x, (C.G.dicts.lookup x).isSome = true → mg x = some (.ref (He.ga K x))) (vg : ∀ x, (C.G.vals.lookup x).isSome = true → okName x = true)
    (cl : ∀ x, x ∈ C.fns → PySem.W.keepIn K (.ref (He.ga K x)) = true ∧ ∃ fd ps, (∀ base, FnG P w K mg base C8.CX0 n (He.ga K x) fd ps (spG K (C.call false x))) ∧ Binds K fd ps []) {f : Addr} (D : DefAt C.G C.fns K f d) :
    ∃ fd, (∀ base, FnG P w K mg base C8.CX0 (n + 1) f fd d.params (spG K (runDef C reprD wf d))) ∧ Binds K fd d.params [] ∧ ∀ (s : Shared) (us : List Value), us.length = d.params.length → BindsTo s fd ⟨us, []⟩ (d.params.zip us) := by
  obtain ⟨oc, od, nm, qual, params, body, scope, kV, doc, pm, an, cdv, ct, osl, lk, code, sc, pl, ms⟩ := D.ex
  have S := C8.fnScope_by sc
  have nd := nodup_take S.pre S.nd
  refine ⟨_, fun base => fnG_of lk code S (fun vs H Q E h => ?_) (fun A outer s H vs Q E room gd h => ?_), Binds.all fun us hl => bind_plain pl rfl nd us hl, fun s us hl => .of_eq (bind_plain pl rfl nd us hl)⟩
  · obtain ⟨W, ps, A, r, P'⟩ := h
    unfold runDef at P'
    split at P'
    · rename_i hl
      rw [r.length]; exact hl
    · exact P'.elim
  · obtain ⟨W, ps, A0, r, P'⟩ := h
    refine ⟨_, PSs.nox (X := cxOf C8.CX0 P w K mg base d.slots qual scope f cdv A outer s H E) (sSs (CX := C8.CX0) (wf := wf) (fun _ _ _ _ _ z => z) d.body ⟨d.slots, scope, fun _ => true⟩ _ E ?_ body ms), ?_⟩
    · exact ⟨⟨rfl, S.nd, by
        have := room.un
        show (A.deeper (envOfC qual scope s.heap.objs.size f cdv)).units + 100 < cLine
        omega, gd, M⟩, rfl, rfl, rfl, S.kind, PassesOwn.never, C8.pass0, fg, kg, vg, fun x hx => by
        obtain ⟨k1, fd, ps, F, b⟩ := cl x hx
        exact ⟨k1, n, fd, ps, F base, room, b⟩⟩
    · refine ⟨W, _, A0, rep_start r, ?_⟩
      unfold runDef at P'
      split at P'
      · revert P'
        cases evSs C reprD wf d.body (ps.map some ++ List.replicate (d.slots.length - ps.length) none) W.st with
        | bad => exact fun h => h
        | exc c fs st => exact fun h => h
        | ok a st =>
          cases a with
          | nx e =>
            intro P' W2 H2 b h1 h2 h3 h4
            cases b with
            | nx σ => exact P' W2 H2 .non h1 h2 h3 .non
            | _ => exact h4.elim
          | ret p =>
            intro P' W2 H2 b h1 h2 h3 h4
            cases b with
            | rt v => exact P' W2 H2 v h1 h2 h3 h4
            | _ => exact h4.elim
          | bk e => exact fun h => h.elim
          | ct e => exact fun h => h.elim
      · exact P'.elim
/-- all defs, so deep -/
theorem all_ok' {G : Glb} {defs : List Def} {wf : Nat} (M : ModOk G defs P w K mg) : ∀ (n : Nat) (x : Str), x ∈ defs.map (·.name) → PySem.W.keepIn K (.ref (He.ga K x)) = true ∧
    ∃ fd ps, (∀ base, FnG P w K mg base C8.CX0 n (He.ga K x) fd ps (spG K ((⟨G, defs.map (·.name), callsN G reprD wf defs n⟩ : Cfg).call false x))) ∧ Binds K fd ps [] ∧
      ∀ d, defs.find? (fun d => decide (d.name = x)) = some d → ps = d.params ∧ ∀ (s : Shared) (us : List Value), us.length = d.params.length → BindsTo s fd ⟨us, []⟩ (d.params.zip us)
  | 0, x, hx => by
    obtain ⟨d, hd, rfl⟩ := List.mem_map.mp hx
    obtain ⟨h1, D⟩ := M.def_ d hd
    refine ⟨D.keep, ?_⟩
    cases hf : defs.find? (fun e => decide (e.name = d.name)) with
    | none => exact absurd hf (fun z => by
        have := List.find?_eq_none.mp z d hd
        simp at this)
    | some d' =>
      have hd' := List.mem_of_find?_eq_some hf
      have hn : d'.name = d.name := by simpa using List.find?_some hf
      obtain ⟨h1', D'⟩ := M.def_ d' hd'
      rw [hn] at D'
      obtain ⟨oc, od, nm, qual, params, body, scope, kV, doc, pm, an, cdv, ct, osl, lk, code, sc, pl, ms⟩ := D'.ex
      have S := C8.fnScope_by sc
      have nd := nodup_take S.pre S.nd
      refine ⟨PySem.W.fnOf nm qual params body scope .none kV doc pm an cdv ct, d'.params, fun base => ⟨fun vs H Q E h => ?_, fun A outer s H args us vs Q E _ _ _ _ _ h => ?_⟩, Binds.all fun us hl => bind_plain pl rfl nd us hl, fun d2 h2 => ?_⟩
      · obtain ⟨W, ps, _, _, P'⟩ := h; exact P'.elim
      · obtain ⟨W, ps, _, _, P'⟩ := h; exact P'.elim
      · cases h2
        exact ⟨rfl, fun s us hl => .of_eq (bind_plain pl rfl nd us hl)⟩
  | n + 1, x, hx => by
    obtain ⟨d, hd, rfl⟩ := List.mem_map.mp hx
    obtain ⟨h1, D⟩ := M.def_ d hd
    refine ⟨D.keep, ?_⟩
    cases hf : defs.find? (fun e => decide (e.name = d.name)) with
    | none => exact absurd hf (fun z => by
        have := List.find?_eq_none.mp z d hd
        simp at this)
    | some d' =>
      have hd' := List.mem_of_find?_eq_some hf
      have hn : d'.name = d.name := by simpa using List.find?_some hf
      obtain ⟨h1', D'⟩ := M.def_ d' hd'
      rw [hn] at D'
      have ih := all_ok' (wf := wf) M n
      obtain ⟨fd, F, b, b2⟩ := def_ok (C := ⟨G, defs.map (·.name), callsN G reprD wf defs n⟩) (wf := wf) (n := n) M.glb (fun x hx => by
        obtain ⟨e, he, rfl⟩ := List.mem_map.mp hx
        exact (M.def_ e he).1) M.kd M.vd (fun x hx => by
        obtain ⟨k1, fd, ps, F, b, _⟩ := ih x hx
        exact ⟨k1, fd, ps, F, b⟩) D'
      refine ⟨fd, d'.params, ?_, b, fun d2 h2 => ?_⟩
      · have e : (⟨G, defs.map (·.name), callsN G reprD wf defs (n + 1)⟩ : Cfg).call false d.name = runDef ⟨G, defs.map (·.name), callsN G reprD wf defs n⟩ reprD wf d' := by
          funext ps
          unfold Cfg.call
          dsimp only [callsN]
          rw [hf]
          rfl
        rw [e]
        exact F
      · cases h2
        exact ⟨rfl, b2⟩
end
end PL

/-! PL, part R: from a law's def to the law. -/
namespace PL
open PySem PySem.Spec PyProof.Rows L2

/-- where the script lies: in the written part, or known beside it -/
structure ScriptAt (P : Program) (w : World) (K : PySem.W.Frag) (h : Heap) (a : Addr) (ns : List Int) (H : Hp) : Prop where
  none_but : ∀ b, H b ≠ none → b = a
  frozen : ∀ b, H b = none ∨ ∃ o xs, H b = some (.frz o (.lst xs))
  rep : ∃ v, v = V.ref a ∧ Rep K [] [] H v (.scr ns)
  hok : HOk P w H h
  free : H a ≠ none → K.lookup a = none
theorem script_at {P : Program} {w : World} {K : PySem.W.Frag} {h : Heap} {a : Addr} {vs : List Value} {ns : List Int} (KX : K.In h) (ha : h.get? a = some { cls := .type "list", data := .seq vs.toArray }) (hi : IntsAre vs ns) (hl : ns.length ≤ sizeLine) :
    ∃ H, ScriptAt P w K h a ns H := by
  have rv := vals_ints hi
  have lv := hi.length
  cases hk : K.lookup a with
  | some o =>
    have e := KX a o hk
    rw [ha] at e
    cases e
    refine ⟨fun _ => none, fun b z => absurd rfl z, fun _ => .inl rfl, ⟨_, rfl, .scr (.inr ⟨_, vs.toArray, _, hk, rfl, rfl, rfl, ?_, ?_⟩)⟩, fun b u z => (nomatch z), fun z => absurd rfl z⟩
    · rw [List.size_toArray, lv]; exact hl
    · simpa using rv
  | none =>
    have at_ : ∀ b, (if b = a then some (HO.frz { cls := .type "list", data := .seq vs.toArray } (.lst (ns.map V.int))) else none) ≠ none → b = a := fun b z => by
      by_cases e : b = a
      · exact e
      · rw [if_neg e] at z; exact absurd rfl z
    refine ⟨fun b => if b = a then some (.frz { cls := .type "list", data := .seq vs.toArray } (.lst (ns.map V.int))) else none, at_, fun b => ?_, ⟨_, rfl, .scr (.inl ⟨.inr ⟨_, if_pos rfl⟩, by simp⟩)⟩, fun b u z => ?_, fun _ => hk⟩
    · by_cases e : b = a
      · exact .inr ⟨_, _, if_pos e⟩
      · exact .inl (if_neg e)
    · have e : b = a := at_ b (by rw [z]; exact fun q => nomatch q)
      subst e
      have z : (if b = b then some (HO.frz { cls := .type "list", data := .seq vs.toArray } (.lst (ns.map V.int))) else none) = some u := z
      rw [if_pos rfl] at z
      cases z
      exact ⟨ha, by rw [List.length_map]; exact hl, vs, _, rv, ha⟩
/-- the law's call at the heap behind the top -/
theorem call_G {P : Program} {w : World} {K : PySem.W.Frag} {mg mb : Str → Option Value} {k : Nat} {fa a : Addr} {fd : FuncData} {x : Str} {g : List PV → M PV} {s₁ : Shared} {vs : List Value} {ns : List Int}
    (KX : K.In s₁.heap) (hns : s₁.heap.Ns mainGlobals mg) (hb : s₁.heap.Ns builtinsNs mb) (hbb : ∀ x : Str, x ≠ "__name__" → mb x = bootBuiltins x) (lim : s₁.heap.NoLimit) (hg : s₁.gens = #[])
    (ha : s₁.heap.get? a = some { cls := .type "list", data := .seq vs.toArray }) (hi : IntsAre vs ns) (hl : ns.length ≤ sizeLine) (room : Room k callerA)
    (F : ∀ base : Heap, FnG P w K mg base C8.CX0 k fa fd [x] (spG K g)) (bind : ∀ (s : Shared) (u : Value), BindsTo s fd ⟨[u], []⟩ [(x, u)]) (res : ∃ st, g [.scr ns] [] = .ok (.bl true) st) :
    codeAny (model P w) callerA (.call (.ref fa) ⟨[.ref a], []⟩) (fun r s' => r = .ok (.ret (.bool true)) ∧ OldK s₁.heap s'.heap ∧ s'.os = s₁.os ∧ AllBare s'.gens) s₁ := by
  obtain ⟨H, S⟩ := script_at (P := P) (w := w) KX ha hi hl
  obtain ⟨v0, rfl, rv0⟩ := S.rep
  have none_of : ∀ {b : Addr} {o : Obj}, s₁.heap.get? b = some o → (b = a → o ≠ { cls := .type "list", data := .seq vs.toArray }) → H b = none := fun {b o} e n => by
    cases q : H b with
    | none => rfl
    | some u =>
      have z := S.none_but b (by rw [q]; exact fun y => nomatch y)
      refine absurd ?_ (n z)
      rw [z, ha] at e
      exact (Option.some.inj e).symm
  have stays : ∀ {b : Addr} {m : Str → Option Value}, s₁.heap.Ns b m → (hidT s₁.heap H).Ns b m := fun {b m} ⟨o, es, ep, e, d, r⟩ => ⟨o, es, ep, hidT_get e (none_of e fun _ z => by rw [z] at d; cases d), d, r⟩
  have inB : K.In (hidT s₁.heap H) := fun b o e => hidT_get (KX b o e) (by
    cases q : H b with
    | none => rfl
    | some u =>
      have z := S.none_but b (by rw [q]; exact fun y => nomatch y)
      subst z
      rw [S.free (by rw [q]; exact fun y => nomatch y)] at e
      cases e)
  have world : Env0 P w K mg (hidT s₁.heap H) callerA [] s₁ H :=
    ⟨rfl, ⟨inB, stays hns, ⟨mb, stays hb, hbb⟩, let ⟨mc, h1, h2⟩ := lim; ⟨mc, stays h1, h2⟩⟩, fun b o e => of_hidT e, Nat.le_of_eq (hidT_size _ _), trivial, fun b z => absurd z List.not_mem_nil, S.hok, .of_eq hg⟩
  have said : spG K g [.ref a] H (fun v _ => v = .bl true) XNo := by
    obtain ⟨st, hst⟩ := res
    refine ⟨⟨[], [], []⟩, [.scr ns], ⟨rfl, List.nodup_nil, fun _ z => z, fun _ z => absurd z List.not_mem_nil, fun l b o z _ => by simp at z⟩, .cons rv0 .nil, ?_⟩
    show Post K XNo (RV K) ⟨[], [], []⟩ H (g [.scr ns] []) _
    rw [hst]
    intro W' H' v _ _ _ r
    cases r
    rfl
  refine codeAny_mono ((F _).does callerA [] s₁ H ⟨[.ref a], []⟩ [.ref a] [.ref a] _ _ room rfl world (bind s₁ (.ref a)) (.cons rfl .nil) said) fun r s' z => ?_
  match r, z with
  | .ok (.ret u), ⟨v, H', os, bare, un, hok', rv, q⟩ =>
    have q' : v = .bl true := q
    subst q'
    obtain rfl : u = Value.bool true := rv
    refine ⟨rfl, OldK.of_keep fun b o e => ?_, os, bare⟩
    rcases S.frozen b with n | ⟨ob, xs, f⟩
    · exact un.keep b o e n List.not_mem_nil List.not_mem_nil
    · obtain ⟨e1, _⟩ := S.hok b _ f
      obtain ⟨e2, _⟩ := hok' b _ (un.frzs b ob _ f)
      rw [e] at e1
      cases e1
      exact e2
/-- the goal that the head leaves -/
theorem walk_G {l : PySem.W.OpenLaw} {n k wf : Nat} {q : Program} {loose : List Str} {XP : (Str → Option Value) → Heap → Prop} {YP : World → Heap → Prop} {d : DefRec} {G : Glb} {defs : List Def} {D : Def} {x : Str}
    (hn : l.most = some n) (hn2 : n ≤ sizeLine) (hdf : d.params.defaults = []) (room : Room (k + 1) callerA) (find : defs.find? (fun e => decide (e.name = d.name)) = some D) (par : D.params = [x])
    (facts : ∀ (w : World) (mg : Str → Option Value) (h : Heap), YP w h → h.Ns mainGlobals mg → ∃ K : PySem.W.Frag, K.In h ∧ ModOk G defs l.prog w K mg)
    (res : ∀ ns : List Int, ns.length ≤ n → (∀ z ∈ ns, Builtin.Int.intBits z ≤ 1048576) → ∃ st, runDef ⟨G, defs.map (·.name), callsN G reprD wf defs k⟩ reprD wf D [.scr ns] [] = .ok (.bl true) st) :
    PySem.W.WalkO q loose XP YP l.row.toRowW d [] (fun f vs => PySem.call f vs) := by
  refine Att.attach_callB hn hdf fun w s₀ s₁ mg mb fa o pm cd doc a vs ns Gd Y ho hd hcd hmg hobj hints hlen hbits hg => ?_
  obtain ⟨K, KX, M⟩ := facts w mg _ Y Gd.T.g
  have hD := List.mem_of_find?_eq_some find
  have hDn : D.name = d.name := by simpa using List.find?_some find
  obtain ⟨e1, _⟩ := M.def_ D hD
  rw [hDn, hmg] at e1
  cases e1
  obtain ⟨_, fd, ps, F, _, b2⟩ := all_ok' (wf := wf) M (k + 1) d.name (List.mem_map.mpr ⟨D, hD, hDn⟩)
  have key : (⟨G, defs.map (·.name), callsN G reprD wf defs (k + 1)⟩ : Cfg).call false d.name = runDef ⟨G, defs.map (·.name), callsN G reprD wf defs k⟩ reprD wf D := by
    funext ps
    unfold Cfg.call
    dsimp only [callsN]
    rw [find]
    rfl
  obtain ⟨rfl, b3⟩ := b2 D find
  rw [key] at F
  rw [par] at F b3
  exact call_G KX Gd.T.g Gd.T.b Gd.T.builtins Gd.T.nolimit hg hobj hints (Nat.le_trans hlen hn2) room F (fun s u => b3 s [u] rfl) (res ns hlen hbits)
end PL

/-! PL, part S: what is looked at behind the top: the module's names, in their order. -/
namespace PL
open PySem PySem.Spec PyProof.Rows L2

/-- what a name of the module stands for -/
inductive Xp where
  | any | fn (d : Def) | val (p : PV) | dict (kvs : List (Str × PV))
abbrev Exp := List (Str × Xp)
def Exp.vals (x : Exp) : List (Str × PV) := x.filterMap fun q => match q.2 with | .val p => some (q.1, p) | _ => none
def Exp.dicts (x : Exp) : List (Str × List (Str × PV)) := x.filterMap fun q => match q.2 with | .dict kvs => some (q.1, kvs) | _ => none
def Exp.defs (x : Exp) : List Def := x.filterMap fun q => match q.2 with | .fn d => some d | _ => none
def bootN : Exp := [("__name__", .any), ("__doc__", .any), ("__package__", .any), ("__loader__", .any), ("__spec__", .any), ("__annotations__", .any), ("__builtins__", .any), ("__file__", .any), ("__cached__", .any)]
def keyB (k : Str) : Value → Bool
  | .str y _ => decide (y = k)
  | _ => false
mutual
/-- a value that stands in the written part; f: the defs' addresses -/
def valB (f : Str → Addr) (K : PySem.W.Frag) : Value → PV → Bool
  | u, .non => (match u with | .none => true | _ => false)
  | u, .bl b => (match u with | .bool c => b == c | _ => false)
  | u, .int i => (match u with | .int j _ => decide (i = j) | _ => false)
  | u, .str x => (match u with | .str y _ => decide (x = y) | _ => false)
  | u, .tup xs => (match u with
    | .ref a => (match K.lookup a with
      | some ⟨.type c, _, .seq its _, _⟩ => decide (c = "tuple") && decide (its.size ≤ sizeLine) && valsB f K its.toList xs
      | _ => false)
    | _ => false)
  | u, .fn x => (match u with | .ref a => decide (a = f x) | _ => false)
  | _, _ => false
def valsB (f : Str → Addr) (K : PySem.W.Frag) : List Value → List PV → Bool
  | [], [] => true
  | u :: us, x :: xs => valB f K u x && valsB f K us xs
  | _, _ => false
end
def defB (G : Glb) (fns : List Str) (K : PySem.W.Frag) (a : Addr) (d : Def) : Bool := match K.lookup a with
  | some ⟨_, _, .func fd, _⟩ => decide (fd.globals = mainGlobals) && fd.closure.isEmpty && decide (fd.builtins = builtinsNs) && (match fd.defaults with | .none => true | _ => false) && PySem.W.codeIn K fd.code fd.qualname &&
    C8.scC d.slots d.params fd.scope && plainA fd.params d.params && (match fd.body with | .stmts b => mSs G fns ⟨d.slots, fd.scope, fun _ => true⟩ d.body b | _ => false)
  | _ => false
def dctB (f : Str → Addr) (K : PySem.W.Frag) : List DictEntry → List (Str × PV) → Bool
  | [], [] => true
  | e :: es, q :: qs => keyB q.1 e.key && valB f K e.val q.2 && dctB f K es qs
  | _, _ => false
def entB (G : Glb) (fns : List Str) (f : Str → Addr) (K : PySem.W.Frag) (u : Value) : Xp → Bool
  | .any => true
  | .fn d => (match u with | .ref a => defB G fns K a d | _ => false)
  | .val p => valB f K u p
  | .dict kvs => (match u with
    | .ref a => (match K.lookup a with
      | some ⟨_, _, .dict es _, _⟩ => dctB f K es.toList kvs
      | _ => false)
    | _ => false)
def topB (G : Glb) (fns : List Str) (f : Str → Addr) (K : PySem.W.Frag) : List DictEntry → Exp → Bool
  | [], [] => true
  | e :: es, q :: qs => keyB q.1 e.key && entB G fns f K e.val q.2 && topB G fns f K es qs
  | _, _ => false
/-- the names' addresses, off the module's own dict -/
def adr (es : List DictEntry) (x : Str) : Addr := match es.find? (·.key.isStr x) with
  | some e => (match e.val with | .ref a => a | _ => 0)
  | none => 0
def ents (K : PySem.W.Frag) : List DictEntry := match K.lookup mainGlobals with
  | some ⟨_, _, .dict es _, _⟩ => es.toList
  | _ => []
abbrev AlP := Bool × List (Option (List (Option (Str × Int))))
def obsK (G : Glb) (fns : List Str) (x : Exp) (K : PySem.W.Frag) : AlP := (topB G fns (adr (ents K)) K (ents K) x, (x.zip (ents K)).filterMap fun q => match q.1.2, q.2.val with | .dict _, .ref a => some (He.dicW K a) | _, _ => none)
def valK (x : Exp) (w : World) : AlP := (true, x.filterMap fun q => match q.2 with | .dict kvs => some (some (He.keysIn w.params (kvs.map (·.1)))) | _ => none)
/-- the objects that are looked at: what the module's names name, and what these name, so deep -/
def deepG (g : Addr → Option Obj) : Nat → List Addr → List Addr
  | 0, as => as
  | n + 1, as => as ++ deepG g n (as.flatMap fun a => match g a with
    | some o => He.refsO o
    | none => [])
def addrs (g : Addr → Option Obj) : List Addr := mainGlobals :: deepG g 2 (match g mainGlobals with
  | some ⟨_, _, .dict es _, _⟩ => (es.toList.drop 9).flatMap fun e => He.refV e.val
  | _ => [])
def obP (G : Glb) (fns : List Str) (x : Exp) (g : Addr → Option Obj) : AlP := obsK G fns x (He.frG g (addrs g))
def hookP (G : Glb) (fns : List Str) (x : Exp) : PySem.W.Hook where
  α := AlP
  obs := fun s => obP G fns x s.heap.get?
  val := valK x
  says := fun w h => ∃ K : PySem.W.Frag, K.In h ∧ obsK G fns x K = valK x w
  of := fun _ _ e => ⟨_, He.frG_in, e⟩
  keeps := fun _ _ _ ⟨K, hK, c⟩ k => ⟨K, PySem.W.Frag.In.keeps hK k, c⟩
theorem obP_eq {G : Glb} {fns : List Str} {x : Exp} {s : PySem.W.SharedT} : obP G fns x (HandSHeadRun.getT s) = (hookP G fns x).obs s.abs := by
  have e : HandSHeadRun.getT s = s.abs.heap.get? := funext fun a => HandSHeadRun.getT_eq s a
  rw [e]; rfl

/-! ### what it says -/
theorem keyB_of {k : Str} {v : Value} (h : keyB k v = true) : ∃ t, v = .str k t := by
  cases v <;> first | (cases h; done) | skip
  rename_i y t
  exact ⟨t, by rw [of_decide_eq_true (show decide (y = k) = true from h)]⟩
section
variable {K : PySem.W.Frag} {f : Str → Addr}
mutual
theorem valB_of (hf : ∀ x, f x = He.ga K x) : ∀ {u : Value} {p : PV}, valB f K u p = true → ∃ v, RelV v u ∧ KRep K v p
  | u, .non, h => by
    unfold valB at h
    split at h
    · exact ⟨.non, rfl, fun _ _ _ => .non⟩
    · cases h
  | u, .bl b, h => by
    unfold valB at h
    split at h
    · cases eq_of_beq h; exact ⟨.bl b, rfl, fun _ _ _ => .bl b⟩
    · cases h
  | u, .int i, h => by
    unfold valB at h
    split at h
    · cases of_decide_eq_true h; exact ⟨.int i, ⟨_, rfl⟩, fun _ _ _ => .int i⟩
    · cases h
  | u, .str x, h => by
    unfold valB at h
    split at h
    · cases of_decide_eq_true h; exact ⟨.str x, ⟨_, rfl⟩, fun _ _ _ => .str x⟩
    · cases h
  | u, .tup xs, h => by
    unfold valB at h
    split at h
    · rename_i a
      split at h
      · rename_i c od its n sl lk
        simp only [Bool.and_eq_true, decide_eq_true_eq] at h
        obtain ⟨⟨rfl, hz⟩, h3⟩ := h
        obtain ⟨vs, rv, rr⟩ := valsB_of hf h3
        exact ⟨.ref a, rfl, fun as F H => .tup (.inr ⟨_, its, n, lk, rfl, rfl, hz, rv⟩) (rr as F H)⟩
      · cases h
    · cases h
  | u, .fn x, h => by
    unfold valB at h
    split at h
    · cases of_decide_eq_true h
      exact ⟨.ref (He.ga K x), by rw [hf]; rfl, fun _ _ _ => .fn x⟩
    · cases h
  | u, .lst _, h => by unfold valB at h; cases h
  | u, .ref _, h => by unfold valB at h; cases h
  | u, .kd _, h => by unfold valB at h; cases h
  | u, .scr _, h => by unfold valB at h; cases h
theorem valsB_of (hf : ∀ x, f x = He.ga K x) : ∀ {us : List Value} {ps : List PV}, valsB f K us ps = true → ∃ vs, Vals vs us ∧ ∀ as F H, RepL K as F H vs ps
  | [], [], _ => ⟨[], .nil, fun _ _ _ => .nil⟩
  | u :: us, p :: ps, h => by
    unfold valsB at h
    obtain ⟨h1, h2⟩ := Bool.and_eq_true_iff.mp h
    obtain ⟨v, r1, k1⟩ := valB_of hf h1
    obtain ⟨vs, r2, k2⟩ := valsB_of hf h2
    exact ⟨v :: vs, .cons r1 r2, fun as F H => .cons (k1 as F H) (k2 as F H)⟩
  | [], _ :: _, h => by unfold valsB at h; cases h
  | _ :: _, [], h => by unfold valsB at h; cases h
end
theorem defB_of {G : Glb} {fns : List Str} {a : Addr} {d : Def} (h : defB G fns K a d = true) : DefAt G fns K a d := by
  unfold defB at h
  split at h
  · rename_i oc od fd sl lk
    obtain ⟨nm, qn, pa, bd, sc, gl, cl, dV, kV, dc, pm, an, cd, ct, bt⟩ := fd
    simp only [Bool.and_eq_true, decide_eq_true_eq, List.isEmpty_iff] at h
    obtain ⟨⟨⟨⟨⟨⟨⟨rfl, rfl⟩, rfl⟩, h4⟩, h5⟩, h6⟩, h7⟩, h8⟩ := h
    split at h4
    · split at h8
      · exact ⟨⟨oc, od, nm, qn, pa, _, sc, kV, dc, pm, an, cd, ct, sl, lk, h5, h6, h7, h8⟩⟩
      · cases h8
    · cases h4
  · cases h
/-- the first entry of a name, where the names stand in a row -/
theorem find_at : ∀ {es : List DictEntry} {ks : List Str}, Paired (fun (e : DictEntry) k => ∃ t, e.key = .str k t) es ks → ks.Nodup → ∀ (i : Nat) (k : Str) (e : DictEntry), ks[i]? = some k → es[i]? = some e → es.find? (·.key.isStr k) = some e
  | [], _, .nil, _, _, _, _, h, _ => by simp at h
  | e0 :: es, k0 :: ks, .cons r t, nd, i, k, e, h1, h2 => by
    obtain ⟨n1, n2⟩ := List.nodup_cons.mp nd
    obtain ⟨tk, ek⟩ := r
    rw [List.find?_cons]
    cases i with
    | zero =>
      simp at h1 h2
      subst h1 h2
      have : e0.key.isStr k0 = true := by rw [ek, PySem.W.isStr_of]; exact beq_self_eq_true _
      rw [this]
    | succ i =>
      have h1 : ks[i]? = some k := by simpa using h1
      have : e0.key.isStr k = false := by
        rw [ek, PySem.W.isStr_of]
        exact beq_eq_false_iff_ne.mpr fun z => n1 (z ▸ List.mem_of_getElem? h1)
      rw [this]
      exact find_at t n2 i k e h1 (by simpa using h2)
theorem find_no : ∀ {es : List DictEntry} {ks : List Str} {k : Str}, Paired (fun (e : DictEntry) k => ∃ t, e.key = .str k t) es ks → k ∉ ks → es.find? (·.key.isStr k) = none ∧ es.any (·.refKey) = false
  | [], _, _, .nil, _ => ⟨rfl, rfl⟩
  | e0 :: es, k0 :: ks, k, .cons r t, n => by
    obtain ⟨tk, ek⟩ := r
    obtain ⟨i1, i2⟩ := find_no t fun z => n (List.mem_cons_of_mem _ z)
    have : e0.key.isStr k = false := by
      rw [ek, PySem.W.isStr_of]
      exact beq_eq_false_iff_ne.mpr fun z => n (z ▸ List.mem_cons_self)
    refine ⟨by rw [List.find?_cons, this]; exact i1, ?_⟩
    rw [List.any_cons, i2]
    have : e0.refKey = false := by unfold DictEntry.refKey; rw [ek]
    rw [this]; rfl
theorem topB_keys {G : Glb} {fns : List Str} : ∀ {es : List DictEntry} {x : Exp}, topB G fns f K es x = true → Paired (fun (e : DictEntry) k => ∃ t, e.key = .str k t) es (x.map (·.1))
  | [], [], _ => .nil
  | e :: es, q :: qs, h => by
    unfold topB at h
    simp only [Bool.and_eq_true] at h
    exact .cons (keyB_of h.1.1) (topB_keys h.2)
  | [], _ :: _, h => by unfold topB at h; cases h
  | _ :: _, [], h => by unfold topB at h; cases h
theorem topB_at {G : Glb} {fns : List Str} : ∀ {es : List DictEntry} {x : Exp}, topB G fns f K es x = true → ∀ (i : Nat) (q : Str × Xp), x[i]? = some q → ∃ e, es[i]? = some e ∧ entB G fns f K e.val q.2 = true
  | [], [], _, _, _, h => by simp at h
  | e :: es, q :: qs, h, 0, _, z => by
    unfold topB at h
    simp only [Bool.and_eq_true] at h
    simp at z
    subst z
    exact ⟨e, rfl, h.1.2⟩
  | e :: es, q :: qs, h, i + 1, r, z => by
    unfold topB at h
    simp only [Bool.and_eq_true] at h
    obtain ⟨e', h1, h2⟩ := topB_at h.2 i r (by simpa using z)
    exact ⟨e', by simpa using h1, h2⟩
  | [], _ :: _, h, _, _, _ => by unfold topB at h; cases h
  | _ :: _, [], h, _, _, _ => by unfold topB at h; cases h
theorem dctB_keys : ∀ {es : List DictEntry} {x : List (Str × PV)}, dctB f K es x = true → Paired (fun (e : DictEntry) k => ∃ t, e.key = .str k t) es (x.map (·.1))
  | [], [], _ => .nil
  | e :: es, q :: qs, h => by
    unfold dctB at h
    simp only [Bool.and_eq_true] at h
    exact .cons (keyB_of h.1.1) (dctB_keys h.2)
  | [], _ :: _, h => by unfold dctB at h; cases h
  | _ :: _, [], h => by unfold dctB at h; cases h
theorem dctB_look : ∀ {es : List DictEntry} {x : List (Str × PV)} (z : Str), dctB f K es x = true → match x.lookup z with
    | some p => ∃ e, es.find? (·.key.isStr z) = some e ∧ valB f K e.val p = true
    | none => es.find? (·.key.isStr z) = none ∧ es.any (·.refKey) = false
  | [], [], _, _ => ⟨rfl, rfl⟩
  | e :: es, (k, p) :: qs, z, h => by
    unfold dctB at h
    simp only [Bool.and_eq_true] at h
    obtain ⟨⟨h1, h2⟩, h3⟩ := h
    obtain ⟨t, ek⟩ := keyB_of h1
    have ih := dctB_look z h3
    rw [List.lookup_cons]
    have st : e.key.isStr z = (k == z) := by rw [ek, PySem.W.isStr_of]; rfl
    by_cases c : z = k
    · subst c
      rw [beq_self_eq_true]
      refine ⟨e, ?_, h2⟩
      rw [List.find?_cons, st, beq_self_eq_true]
    · have c1 : (z == k) = false := beq_eq_false_iff_ne.mpr c
      have c2 : (k == z) = false := beq_eq_false_iff_ne.mpr (Ne.symm c)
      rw [c1]
      cases el : qs.lookup z with
      | some q =>
        rw [el] at ih
        obtain ⟨e', i1, i2⟩ := ih
        exact ⟨e', by rw [List.find?_cons, st, c2]; exact i1, i2⟩
      | none =>
        rw [el] at ih
        refine ⟨by rw [List.find?_cons, st, c2]; exact ih.1, ?_⟩
        rw [List.any_cons, ih.2]
        have : e.refKey = false := by unfold DictEntry.refKey; rw [ek]
        rw [this]; rfl
  | [], _ :: _, _, h => by unfold dctB at h; cases h
  | _ :: _, [], _, h => by unfold dctB at h; cases h
end
section
variable {P : Program} {w : World} {K : PySem.W.Frag} {h : Heap} {mg : Str → Option Value} {x : Exp}
theorem ents_ns (ne : ents K ≠ []) (z : Str) : PySem.W.nsIn K mainGlobals z = match (ents K).find? (·.key.isStr z) with
    | some e => some (some e.val)
    | none => if (ents K).any (·.refKey) then none else some none := by
  unfold ents at ne ⊢
  unfold PySem.W.nsIn
  split at ne
  · rename_i lk
    rw [lk]
    rfl
  · exact absurd rfl ne
theorem adr_ga (ne : ents K ≠ []) (z : Str) : adr (ents K) z = He.ga K z := by
  unfold adr He.ga
  rw [ents_ns ne]
  cases (ents K).find? (·.key.isStr z) with
  | some e =>
    dsimp only
    cases e.val <;> rfl
  | none =>
    dsimp only
    split <;> first | rfl | (rename_i q; split at q <;> cases q)
theorem lookup_mem {α : Type} : ∀ {l : List (Str × α)} {k : Str} {p : α}, l.lookup k = some p → (k, p) ∈ l
  | [], _, _, h => by cases h
  | (k0, p0) :: l, k, p, h => by
    rw [List.lookup_cons] at h
    by_cases e : (k == k0) = true
    · rw [e] at h
      cases h
      rw [beq_iff_eq.mp e]
      exact List.mem_cons_self
    · have e : (k == k0) = false := by simpa using e
      rw [e] at h
      exact List.mem_cons_of_mem _ (lookup_mem h)
/-- a name of the module -/
theorem name_at {G : Glb} {fns : List Str} (c : topB G fns (adr (ents K)) K (ents K) x = true) (X : K.In h) (Gn : h.Ns mainGlobals mg) (nd : (x.map (·.1)).Nodup) {q : Str × Xp} (hq : q ∈ x) :
    ∃ (i : Nat) (e : DictEntry), x[i]? = some q ∧ (ents K)[i]? = some e ∧ mg q.1 = some e.val ∧ PySem.W.nsIn K mainGlobals q.1 = some (some e.val) ∧ entB G fns (adr (ents K)) K e.val q.2 = true := by
  obtain ⟨i, hi⟩ := List.mem_iff_getElem?.mp hq
  obtain ⟨e, h1, h2⟩ := topB_at c i q hi
  have ne : ents K ≠ [] := fun z => by rw [z] at h1; simp at h1
  have f := find_at (topB_keys c) nd i q.1 e (by rw [List.getElem?_map, hi]; rfl) h1
  have ns : PySem.W.nsIn K mainGlobals q.1 = some (some e.val) := by rw [ents_ns ne, f]
  exact ⟨i, e, hi, h1, PySem.W.mg_of X Gn ns, ns, h2⟩
theorem dict_keys {G : Glb} {fns : List Str} {f : Str → Addr} : ∀ {es : List DictEntry} {x : Exp}, topB G fns f K es x = true →
    (x.zip es).filterMap (fun (q : (Str × Xp) × DictEntry) => match q.1.2, q.2.val with | .dict _, .ref a => some (He.dicW K a) | _, _ => none) = x.filterMap (fun q => match q.2 with | .dict kvs => some (some (He.keysIn w.params (kvs.map (·.1)))) | _ => none) →
    ∀ (i : Nat) (k : Str) (kvs : List (Str × PV)) (e : DictEntry) (a : Addr), x[i]? = some (k, .dict kvs) → es[i]? = some e → e.val = .ref a → He.dicW K a = some (He.keysIn w.params (kvs.map (·.1)))
  | [], [], _, _, _, _, _, _, _, hz, _, _ => by simp at hz
  | e0 :: es, (k0, y) :: qs, hc, he, i, k, kvs, e, a, h1, h2, h3 => by
    unfold topB at hc
    simp only [Bool.and_eq_true] at hc
    rw [List.zip_cons_cons, List.filterMap_cons, List.filterMap_cons] at he
    cases y with
    | dict kvs0 =>
      have hv : ∃ a0, e0.val = .ref a0 := by
        have := hc.1.2
        simp only [entB] at this
        cases ev0 : e0.val with
        | ref a0 => exact ⟨a0, rfl⟩
        | _ => rw [ev0] at this; cases this
      obtain ⟨a0, ha0⟩ := hv
      simp only [ha0] at he
      injection he with e1 e2
      cases i with
      | zero =>
        simp at h1 h2
        obtain ⟨rfl, rfl⟩ := h1
        subst h2
        rw [ha0] at h3
        cases h3
        exact e1
      | succ i => exact dict_keys hc.2 e2 i k kvs e a (by simpa using h1) (by simpa using h2) h3
    | any =>
      simp only at he
      cases i with
      | zero => simp at h1
      | succ i => exact dict_keys hc.2 he i k kvs e a (by simpa using h1) (by simpa using h2) h3
    | fn d =>
      simp only at he
      cases i with
      | zero => simp at h1
      | succ i => exact dict_keys hc.2 he i k kvs e a (by simpa using h1) (by simpa using h2) h3
    | val p =>
      simp only at he
      cases i with
      | zero => simp at h1
      | succ i => exact dict_keys hc.2 he i k kvs e a (by simpa using h1) (by simpa using h2) h3
  | [], _ :: _, hc, _, _, _, _, _, _, _, _, _ => by unfold topB at hc; cases hc
  | _ :: _, [], hc, _, _, _, _, _, _, _, _, _ => by unfold topB at hc; cases hc
/-- the module's facts, off what was looked at -/
theorem mod_of {blt : List Str} (c : obsK ⟨x.vals, x.dicts, blt⟩ (x.defs.map (·.name)) x K = valK x w) (X : K.In h) (Gn : h.Ns mainGlobals mg)
    (hx : x.isEmpty = false) (nd : (x.map (·.1)).Nodup) (hd : (x.all fun q => match q.2 with | .fn d => decide (d.name = q.1) | .val _ => okName q.1 | _ => true) = true) (hb : (blt.all fun b => !(x.map (·.1)).contains b) = true) :
    ModOk ⟨x.vals, x.dicts, blt⟩ x.defs P w K mg := by
  have c1 : topB ⟨x.vals, x.dicts, blt⟩ (x.defs.map (·.name)) (adr (ents K)) K (ents K) x = true := congrArg (fun z : AlP => z.1) c
  have c2 := congrArg (fun z : AlP => z.2) c
  have ne : ents K ≠ [] := fun z => by
    rw [z] at c1
    cases x with
    | nil => cases hx
    | cons a b => unfold topB at c1; cases c1
  have hga : ∀ z, adr (ents K) z = He.ga K z := adr_ga ne
  have ga_of : ∀ {k : Str} {u : Value} {a : Addr}, PySem.W.nsIn K mainGlobals k = some (some u) → u = .ref a → He.ga K k = a := fun {k u a} e1 e2 => by
    unfold He.ga; rw [e1, e2]
  have vmem : ∀ {k : Str} {p : PV}, x.vals.lookup k = some p → (k, Xp.val p) ∈ x := fun {k p} e => by
    obtain ⟨q, h1, h2⟩ := List.mem_filterMap.mp (lookup_mem e)
    obtain ⟨q1, q2⟩ := q
    cases q2 <;> simp at h2
    obtain ⟨rfl, rfl⟩ := h2
    exact h1
  have dmem : ∀ {k : Str} {kvs : List (Str × PV)}, x.dicts.lookup k = some kvs → (k, Xp.dict kvs) ∈ x := fun {k p} e => by
    obtain ⟨q, h1, h2⟩ := List.mem_filterMap.mp (lookup_mem e)
    obtain ⟨q1, q2⟩ := q
    cases q2 <;> simp at h2
    obtain ⟨rfl, rfl⟩ := h2
    exact h1
  have dict_at : ∀ {k : Str} {kvs : List (Str × PV)}, x.dicts.lookup k = some kvs → ∃ (i : Nat) (e : DictEntry) (a : Addr), x[i]? = some (k, Xp.dict kvs) ∧ (ents K)[i]? = some e ∧ e.val = .ref a ∧ mg k = some (.ref a) ∧ He.ga K k = a ∧
      ∃ c d es n sl, K.lookup a = some ⟨c, d, .dict es n, sl⟩ ∧ dctB (adr (ents K)) K es.toList kvs = true := fun {k kvs} e => by
    obtain ⟨i, en, h1, h2, h3, h4, h5⟩ := name_at c1 X Gn nd (dmem e)
    unfold entB at h5
    dsimp only at h5
    split at h5
    · rename_i a ha
      split at h5
      · rename_i c d es n sl lk
        exact ⟨i, en, a, h1, h2, ha, by rw [h3, ha], ga_of h4 ha, c, d, es, n, sl, lk, h5⟩
      · cases h5
    · cases h5
  refine ⟨⟨fun k p e => ?_, fun k kvs e => ?_, fun b hbm => ?_⟩, fun d hdm => ?_, fun k hk => ?_, fun k hk => ?_⟩
  · obtain ⟨i, en, h1, h2, h3, h4, h5⟩ := name_at c1 X Gn nd (vmem e)
    obtain ⟨v, r1, r2⟩ := valB_of hga (show valB (adr (ents K)) K en.val p = true from h5)
    exact ⟨v, en.val, h3, r1, r2⟩
  · obtain ⟨i, en, a, h1, h2, h3, h4, h5, cc, dd, es, n, sl, lk, hdct⟩ := dict_at e
    have hw := dict_keys (w := w) c1 c2 i k kvs en a h1 h2 h3
    rw [h5]
    obtain ⟨es', n', D⟩ := He.dicW_ok hw
    refine ⟨es', n', D, fun z => ?_⟩
    have := dctB_look z hdct
    have ns : PySem.W.nsIn K a z = match es.toList.find? (·.key.isStr z) with
        | some e => some (some e.val)
        | none => if es.toList.any (·.refKey) then none else some none := by
      unfold PySem.W.nsIn; rw [lk]; rfl
    rw [ns]
    cases el : kvs.lookup z with
    | some p =>
      rw [el] at this
      obtain ⟨e', i1, i2⟩ := this
      obtain ⟨v, r1, r2⟩ := valB_of hga i2
      rw [i1]
      exact ⟨v, e'.val, rfl, r1, r2⟩
    | none =>
      rw [el] at this
      rw [this.1]
      dsimp only
      rw [this.2]
      rfl
  · have hn : b ∉ x.map (·.1) := by
      have := List.all_eq_true.mp hb b hbm
      simpa using this
    obtain ⟨f1, f2⟩ := find_no (topB_keys c1) hn
    exact PySem.W.mg_none_of X Gn (by rw [ents_ns ne, f1]; dsimp only; rw [f2]; rfl)
  · obtain ⟨q, h1, h2⟩ := List.mem_filterMap.mp hdm
    obtain ⟨q1, q2⟩ := q
    cases q2 <;> simp at h2
    rename_i d'
    subst h2
    have hnm := List.all_eq_true.mp hd _ h1
    have hnm : d'.name = q1 := by simpa using hnm
    obtain ⟨i, en, g1, g2, g3, g4, g5⟩ := name_at c1 X Gn nd h1
    unfold entB at g5
    dsimp only at g5
    split at g5
    · rename_i a ha
      rw [hnm, ga_of g4 ha]
      exact ⟨by rw [g3, ha], defB_of g5⟩
    · cases g5
  · obtain ⟨kvs, e⟩ := Option.isSome_iff_exists.mp hk
    obtain ⟨i, en, a, h1, h2, h3, h4, h5, _⟩ := dict_at e
    rw [h5]; exact h4
  · obtain ⟨p, e⟩ := Option.isSome_iff_exists.mp hk
    have := List.all_eq_true.mp hd _ (vmem e)
    exact this
end
end PL

namespace S86
open PySem PL
def d_is_number : Def := ⟨"is_number", ["thing"], ["thing"],
  (.cons (.ret (.and (.isi (.var 0) .int) (.not (.isi (.var 0) .bool))))
  .nil)⟩
def d_are_numbers : Def := ⟨"are_numbers", ["thing", "many"], ["thing", "many", "one"],
  (.cons (.ret (.and (.isi (.var 0) .tuple) (.and (.cmp .eq (.bi .len (.cons (.var 0) .nil)) (.var 1)) (.bi .all (.cons (.comp false [("one", 2)] (.call true "is_number" (.cons (.var 2) .nil)) (.nm 2) (.seq (.var 0)) .nil) .nil)))))
  .nil)⟩
def d_is_word : Def := ⟨"is_word", ["thing"], ["thing", "sign"],
  (.cons (.ifs (.or (.not (.isi (.var 0) .str)) (.not (.chain .le .le (.int 1) (.bi .len (.cons (.var 0) .nil)) (.glob "MOST_LETTERS" (.int 8))))) (.cons (.ret (.bl false))
  .nil) .nil)
  (.cons (.ret (.bi .all (.cons (.comp false [("sign", 1)] (.cmp .isin (.var 1) (.glob "LETTERS" (.str "abcdefghijklmnopqrstuvwxyz"))) (.nm 1) (.seq (.var 0)) .nil) .nil)))
  .nil))⟩
def d_common_divisor : Def := ⟨"common_divisor", ["one", "other"], ["one", "other"],
  (.cons (.whl (.cmp .ne (.var 1) (.int 0)) (.cons (.par 0 1 (.var 1) (.bin false .mod (.var 0) (.var 1)))
  .nil))
  (.cons (.ret (.var 0))
  .nil))⟩
def d_is_fraction : Def := ⟨"is_fraction", ["thing"], ["thing"],
  (.cons (.ifs (.or (.not (.call true "are_numbers" (.cons (.var 0) (.cons (.int 2) .nil)))) (.cmp .le (.ix (.var 0) (.int 1)) (.int 0))) (.cons (.ret (.bl false))
  .nil) .nil)
  (.cons (.ret (.cmp .eq (.call true "common_divisor" (.cons (.bi .abs (.cons (.ix (.var 0) (.int 0)) .nil)) (.cons (.ix (.var 0) (.int 1)) .nil))) (.int 1)))
  .nil))⟩
def d_is_below : Def := ⟨"is_below", ["one", "other"], ["one", "other"],
  (.cons (.ret (.cmp .lt (.bin false .mul (.ix (.var 0) (.int 0)) (.ix (.var 1) (.int 1))) (.bin false .mul (.ix (.var 1) (.int 0)) (.ix (.var 0) (.int 1)))))
  .nil)⟩
def d_is_part : Def := ⟨"is_part", ["thing"], ["thing"],
  (.cons (.ret (.and (.call true "is_fraction" (.cons (.var 0) .nil)) (.chain .le .le (.int 0) (.ix (.var 0) (.int 0)) (.ix (.var 0) (.int 1)))))
  .nil)⟩
def d_is_pixel : Def := ⟨"is_pixel", ["thing"], ["thing"],
  (.cons (.ifs (.or (.not (.isi (.var 0) .tuple)) (.or (.cmp .ne (.bi .len (.cons (.var 0) .nil)) (.int 2)) (.or (.not (.call true "is_part" (.cons (.ix (.var 0) (.int 0)) .nil))) (.not (.call true "is_part" (.cons (.ix (.var 0) (.int 1)) .nil)))))) (.cons (.ret (.bl false))
  .nil) .nil)
  (.cons (.ret (.not (.call true "is_below" (.cons (.ix (.var 0) (.int 1)) (.cons (.ix (.var 0) (.int 0)) .nil)))))
  .nil))⟩
def d_is_covered : Def := ⟨"is_covered", ["pixel"], ["pixel"],
  (.cons (.ret (.cmp .eq (.ix (.var 0) (.int 1)) (.glob "WHOLE" (.tup [(.int 1), (.int 1)]))))
  .nil)⟩
def d_is_rectangle : Def := ⟨"is_rectangle", ["thing"], ["thing"],
  (.cons (.ret (.and (.call true "are_numbers" (.cons (.var 0) (.cons (.int 4) .nil))) (.and (.cmp .lt (.ix (.var 0) (.int 0)) (.ix (.var 0) (.int 2))) (.cmp .lt (.ix (.var 0) (.int 1)) (.ix (.var 0) (.int 3))))))
  .nil)⟩
def d_stands_behind : Def := ⟨"stands_behind", ["ahead", "rectangle"], ["ahead", "rectangle"],
  (.cons (.ifs (.cmp .eq (.ix (.var 1) (.int 1)) (.ix (.var 0) (.int 1))) (.cons (.ret (.and (.cmp .eq (.ix (.var 1) (.int 3)) (.ix (.var 0) (.int 3))) (.cmp .gt (.ix (.var 1) (.int 0)) (.ix (.var 0) (.int 2)))))
  .nil) .nil)
  (.cons (.ret (.cmp .ge (.ix (.var 1) (.int 1)) (.ix (.var 0) (.int 3))))
  .nil))⟩
def d_bands_of : Def := ⟨"bands_of", ["region"], ["region", "found", "left", "top", "right", "bottom"],
  (.cons (.asg (.nm 1) (.lst true .nil))
  (.cons (.fr (.tup (.cons (.nm 2) (.cons (.nm 3) (.cons (.nm 4) (.cons (.nm 5) .nil))))) (.seq (.var 0)) (.cons (.ifs (.or (.cmp .eq (.var 1) (.lst true .nil)) (.cmp .ne (.ix (.ix (.var 1) (.neg (.int 1))) (.int 0)) (.var 3))) (.cons (.expr (.mt .append (.var 1) (.cons (.tup (.cons (.var 3) (.cons (.var 5) (.cons (.lst true .nil) .nil)))) .nil)))
  .nil) .nil)
  (.cons (.expr (.mt .append (.ix (.ix (.var 1) (.neg (.int 1))) (.int 2)) (.cons (.tup (.cons (.var 2) (.cons (.var 4) .nil))) .nil)))
  .nil)))
  (.cons (.ret (.var 1))
  .nil)))⟩
def d_are_one : Def := ⟨"are_one", ["ahead", "band"], ["ahead", "band"],
  (.cons (.ret (.and (.cmp .eq (.ix (.var 0) (.int 1)) (.ix (.var 1) (.int 0))) (.cmp .eq (.ix (.var 0) (.int 2)) (.ix (.var 1) (.int 2)))))
  .nil)⟩
def d_is_region : Def := ⟨"is_region", ["thing"], ["thing", "bands", "one", "other"],
  (.cons (.ifs (.or (.not (.isi (.var 0) .tuple)) (.not (.bi .all (.cons (.comp false [("one", 2)] (.call true "is_rectangle" (.cons (.var 2) .nil)) (.nm 2) (.seq (.var 0)) .nil) .nil)))) (.cons (.ret (.bl false))
  .nil) .nil)
  (.cons (.ifs (.not (.bi .all (.cons (.comp false [("one", 2), ("other", 3)] (.call true "stands_behind" (.cons (.var 2) (.cons (.var 3) .nil))) (.tup (.cons (.nm 2) (.cons (.nm 3) .nil))) (.zip false (.var 0) (.sl false (.var 0) (.some (.int 1)) .none)) .nil) .nil))) (.cons (.ret (.bl false))
  .nil) .nil)
  (.cons (.asg (.nm 1) (.call false "bands_of" (.cons (.var 0) .nil)))
  (.cons (.ret (.not (.bi .any (.cons (.comp false [("one", 2), ("other", 3)] (.call false "are_one" (.cons (.var 2) (.cons (.var 3) .nil))) (.tup (.cons (.nm 2) (.cons (.nm 3) .nil))) (.zip false (.var 1) (.sl false (.var 1) (.some (.int 1)) .none)) .nil) .nil))))
  .nil))))⟩
def d_is_name : Def := ⟨"is_name", ["thing"], ["thing"],
  (.cons (.ret (.call true "is_word" (.cons (.var 0) .nil)))
  .nil)⟩
def d_is_count : Def := ⟨"is_count", ["thing"], ["thing"],
  (.cons (.ret (.and (.call true "is_number" (.cons (.var 0) .nil)) (.cmp .ge (.var 0) (.int 1))))
  .nil)⟩
def d_is_figure : Def := ⟨"is_figure", ["thing"], ["thing"],
  (.cons (.ret (.and (.call true "is_number" (.cons (.var 0) .nil)) (.cmp .ge (.var 0) (.int 0))))
  .nil)⟩
def d_is_truth : Def := ⟨"is_truth", ["thing"], ["thing"],
  (.cons (.ret (.isi (.var 0) .bool))
  .nil)⟩
def d_is_parent : Def := ⟨"is_parent", ["thing"], ["thing"],
  (.cons (.ret (.or (.call true "is_word" (.cons (.var 0) .nil)) (.and (.isi (.var 0) .str) (.cmp .eq (.var 0) (.str "")))))
  .nil)⟩
def d_is_board : Def := ⟨"is_board", ["thing"], ["thing"],
  (.cons (.ret (.or (.isN false (.var 0)) (.call true "is_word" (.cons (.var 0) .nil))))
  .nil)⟩
def d_is_clip : Def := ⟨"is_clip", ["thing"], ["thing"],
  (.cons (.ret (.or (.isN false (.var 0)) (.call true "is_rectangle" (.cons (.var 0) .nil))))
  .nil)⟩
def d_is_share : Def := ⟨"is_share", ["thing"], ["thing"],
  (.cons (.ret (.and (.call true "is_fraction" (.cons (.var 0) .nil)) (.and (.not (.call true "is_below" (.cons (.var 0) (.cons (.tup (.cons (.int 0) (.cons (.int 1) .nil))) .nil)))) (.not (.call true "is_below" (.cons (.tup (.cons (.int 1) (.cons (.int 1) .nil))) (.cons (.var 0) .nil)))))))
  .nil)⟩
def d_is_pair : Def := ⟨"is_pair", ["thing"], ["thing", "one"],
  (.cons (.ret (.and (.isi (.var 0) .tuple) (.and (.cmp .eq (.bi .len (.cons (.var 0) .nil)) (.int 2)) (.bi .all (.cons (.comp false [("one", 1)] (.call true "is_number" (.cons (.var 1) .nil)) (.nm 1) (.seq (.var 0)) .nil) .nil)))))
  .nil)⟩
def d_are_names : Def := ⟨"are_names", ["thing"], ["thing", "one"],
  (.cons (.ret (.and (.isi (.var 0) .tuple) (.bi .all (.cons (.comp false [("one", 1)] (.call true "is_word" (.cons (.var 1) .nil)) (.nm 1) (.seq (.var 0)) .nil) .nil))))
  .nil)⟩
def d_is_back : Def := ⟨"is_back", ["thing"], ["thing"],
  (.cons (.ret (.and (.call true "is_pixel" (.cons (.var 0) .nil)) (.call true "is_covered" (.cons (.var 0) .nil))))
  .nil)⟩
def d_is_of : Def := ⟨"is_of", ["form", "thing"], ["form", "thing", "look"],
  (.cons (.asg (.nm 2) (.ix (.kdv "KINDS") (.var 0)))
  (.cons (.ret (.callv true 2 (.cons (.var 1) .nil)))
  .nil))⟩
def d_fraction_word : Def := ⟨"fraction_word", ["fraction"], ["fraction"],
  (.cons (.ret (.ite (.cmp .eq (.ix (.var 0) (.int 1)) (.int 1)) (.bi .str (.cons (.ix (.var 0) (.int 0)) .nil)) (.bin false .add (.bin false .add (.bi .str (.cons (.ix (.var 0) (.int 0)) .nil)) (.str "/")) (.bi .str (.cons (.ix (.var 0) (.int 1)) .nil)))))
  .nil)⟩
def d_pixel_word : Def := ⟨"pixel_word", ["pixel"], ["pixel", "part"],
  (.cons (.ret (.mt .join (.str ":") (.cons (.comp false [("part", 1)] (.call true "fraction_word" (.cons (.var 1) .nil)) (.nm 1) (.seq (.var 0)) .nil) .nil)))
  .nil)⟩
def d_numbers_word : Def := ⟨"numbers_word", ["numbers"], ["numbers", "one"],
  (.cons (.ret (.ite (.cmp .gt (.bi .len (.cons (.var 0) .nil)) (.int 0)) (.mt .join (.str ",") (.cons (.comp false [("one", 1)] (.bi .str (.cons (.var 1) .nil)) (.nm 1) (.seq (.var 0)) .nil) .nil)) (.glob "VOID" (.str "-"))))
  .nil)⟩
def d_region_word : Def := ⟨"region_word", ["region"], ["region", "rectangle"],
  (.cons (.ret (.ite (.cmp .gt (.bi .len (.cons (.var 0) .nil)) (.int 0)) (.mt .join (.str ";") (.cons (.comp false [("rectangle", 1)] (.call true "numbers_word" (.cons (.var 1) .nil)) (.nm 1) (.seq (.var 0)) .nil) .nil)) (.glob "VOID" (.str "-"))))
  .nil)⟩
def d_plain_word : Def := ⟨"plain_word", ["thing"], ["thing"],
  (.cons (.ret (.ite (.or (.isN false (.var 0)) (.cmp .eq (.var 0) (.str ""))) (.glob "VOID" (.str "-")) (.bi .str (.cons (.var 0) .nil))))
  .nil)⟩
def d_truth_word : Def := ⟨"truth_word", ["truth"], ["truth"],
  (.cons (.ret (.ite (.var 0) (.str "yes") (.str "no")))
  .nil)⟩
def d_clip_word : Def := ⟨"clip_word", ["clip"], ["clip"],
  (.cons (.ret (.ite (.isN false (.var 0)) (.glob "VOID" (.str "-")) (.call true "numbers_word" (.cons (.var 0) .nil))))
  .nil)⟩
def d_thing_word : Def := ⟨"thing_word", ["form", "thing"], ["form", "thing", "writer"],
  (.cons (.asg (.nm 2) (.mt .get (.kdv "WRITERS") (.cons (.var 0) (.cons (.fnv "plain_word") .nil))))
  (.cons (.ret (.callv true 2 (.cons (.var 1) .nil)))
  .nil))⟩
def d_row_line : Def := ⟨"row_line", ["row"], ["row", "forms", "word", "things", "form", "thing"],
  (.cons (.asg (.star (.cons (.nm 2) .nil) 3 .nil) (.var 0))
  (.cons (.asg (.nm 1) (.ite (.cmp .eq (.var 2) (.str "court")) (.glob "FIRST" (.tup [(.str "count"), (.str "count"), (.str "back"), (.str "count"), (.str "count")])) (.ix (.kdv "FORMS") (.var 2))))
  (.cons (.ret (.mt .join (.str " ") (.cons (.bin false .add (.lst false (.cons (.var 2) .nil)) (.comp false [("form", 4), ("thing", 5)] (.call true "thing_word" (.cons (.var 4) (.cons (.var 5) .nil))) (.tup (.cons (.nm 4) (.cons (.nm 5) .nil))) (.zip true (.var 1) (.var 3)) .nil)) .nil)))
  .nil)))⟩
def d_log_lines : Def := ⟨"log_lines", ["log"], ["log", "row"],
  (.cons (.ret (.comp true [("row", 1)] (.call true "row_line" (.cons (.var 1) .nil)) (.nm 1) (.seq (.var 0)) .nil))
  .nil)⟩
def d_figures_in : Def := ⟨"figures_in", ["word"], ["word", "sign"],
  (.cons (.ifs (.or (.not (.chain .le .le (.int 1) (.bi .len (.cons (.var 0) .nil)) (.glob "MOST_FIGURES" (.int 9)))) (.not (.bi .all (.cons (.comp false [("sign", 1)] (.cmp .isin (.var 1) (.glob "FIGURES" (.str "0123456789"))) (.nm 1) (.seq (.var 0)) .nil) .nil)))) (.cons (.ret .non)
  .nil) .nil)
  (.cons (.ret (.ite (.or (.cmp .eq (.var 0) (.str "0")) (.cmp .ne (.ix (.var 0) (.int 0)) (.str "0"))) (.bi .int (.cons (.var 0) .nil)) .non))
  .nil))⟩
def d_number_in : Def := ⟨"number_in", ["word"], ["word", "found"],
  (.cons (.ifs (.not (.mt .startswith (.var 0) (.cons (.glob "VOID" (.str "-")) .nil))) (.cons (.ret (.call true "figures_in" (.cons (.var 0) .nil)))
  .nil) .nil)
  (.cons (.asg (.nm 1) (.call true "figures_in" (.cons (.sl false (.var 0) (.some (.int 1)) .none) .nil)))
  (.cons (.ret (.ite (.or (.isN false (.var 1)) (.cmp .eq (.var 1) (.int 0))) .non (.neg (.var 1))))
  .nil)))⟩
def d_fraction_in : Def := ⟨"fraction_in", ["word"], ["word", "found", "above", "mark", "below"],
  (.cons (.asg (.tup (.cons (.nm 2) (.cons (.nm 3) (.cons (.nm 4) .nil)))) (.mt .partition (.var 0) (.cons (.str "/") .nil)))
  (.cons (.asg (.nm 1) (.tup (.cons (.call true "number_in" (.cons (.var 2) .nil)) (.cons (.ite (.cmp .ne (.var 3) (.str "")) (.call true "figures_in" (.cons (.var 4) .nil)) (.int 1)) .nil))))
  (.cons (.ret (.ite (.or (.cmp .isin .non (.var 1)) (.and (.cmp .ne (.var 3) (.str "")) (.cmp .eq (.ix (.var 1) (.int 1)) (.int 1)))) .non (.var 1)))
  .nil)))⟩
def d_parts_in : Def := ⟨"parts_in", ["word", "sign", "form"], ["word", "sign", "form", "found", "part"],
  (.cons (.asg (.nm 3) (.comp false [("part", 4)] (.callv true 2 (.cons (.var 4) .nil)) (.nm 4) (.seq (.mt .split (.var 0) (.cons (.var 1) .nil))) .nil))
  (.cons (.ret (.ite (.cmp .isin .non (.var 3)) .non (.bi .tuple (.cons (.var 3) .nil))))
  .nil))⟩
def d_numbers_in : Def := ⟨"numbers_in", ["word"], ["word"],
  (.cons (.ret (.call true "parts_in" (.cons (.var 0) (.cons (.str ",") (.cons (.fnv "number_in") .nil)))))
  .nil)⟩
def d_pixel_in : Def := ⟨"pixel_in", ["word"], ["word"],
  (.cons (.ret (.call true "parts_in" (.cons (.var 0) (.cons (.str ":") (.cons (.fnv "fraction_in") .nil)))))
  .nil)⟩
def d_region_in : Def := ⟨"region_in", ["word"], ["word"],
  (.cons (.ret (.ite (.cmp .eq (.var 0) (.glob "VOID" (.str "-"))) (.tup .nil) (.call true "parts_in" (.cons (.var 0) (.cons (.str ";") (.cons (.fnv "numbers_in") .nil))))))
  .nil)⟩
def d_names_in : Def := ⟨"names_in", ["word"], ["word"],
  (.cons (.ret (.ite (.cmp .eq (.var 0) (.glob "VOID" (.str "-"))) (.tup .nil) (.bi .tuple (.cons (.mt .split (.var 0) (.cons (.str ",") .nil)) .nil))))
  .nil)⟩
def d_truth_in : Def := ⟨"truth_in", ["word"], ["word"],
  (.cons (.ret (.mt .get (.dct (.cons (.str "yes") (.bl true) (.cons (.str "no") (.bl false) .nil))) (.cons (.var 0) (.cons .non .nil))))
  .nil)⟩
def d_parent_in : Def := ⟨"parent_in", ["word"], ["word"],
  (.cons (.ifs (.cmp .eq (.var 0) (.str "")) (.cons (.ret .non)
  .nil) .nil)
  (.cons (.ret (.ite (.cmp .eq (.var 0) (.glob "VOID" (.str "-"))) (.str "") (.var 0)))
  .nil))⟩
def d_plain_in : Def := ⟨"plain_in", ["word"], ["word"],
  (.cons (.ret (.var 0))
  .nil)⟩
def d_word_in : Def := ⟨"word_in", ["form", "word"], ["form", "word", "reader", "found"],
  (.cons (.ifs (.and (.cmp .eq (.var 1) (.glob "VOID" (.str "-"))) (.cmp .isin (.var 0) (.tup (.cons (.str "board") (.cons (.str "clip") .nil))))) (.cons (.ret (.tup (.cons .non .nil)))
  .nil) .nil)
  (.cons (.asg (.nm 2) (.ix (.kdv "READERS") (.var 0)))
  (.cons (.asg (.nm 3) (.callv true 2 (.cons (.var 1) .nil)))
  (.cons (.ret (.ite (.and (.isN true (.var 3)) (.call true "is_of" (.cons (.var 0) (.cons (.var 3) .nil)))) (.tup (.cons (.var 3) .nil)) (.tup .nil)))
  .nil))))⟩
def d_things_in : Def := ⟨"things_in", ["row", "words", "forms"], ["row", "words", "forms", "found", "k", "form", "thing"],
  (.cons (.asg (.nm 3) (.lst true .nil))
  (.cons (.fr (.tup (.cons (.nm 4) (.cons (.nm 5) .nil))) (.enum (.var 2)) (.cons (.asg (.nm 6) (.ite (.cmp .lt (.bin false .add (.var 4) (.int 1)) (.bi .len (.cons (.var 1) .nil))) (.call true "word_in" (.cons (.var 5) (.cons (.ix (.var 1) (.bin false .add (.var 4) (.int 1))) .nil))) (.tup .nil)))
  (.cons (.ifs (.cmp .eq (.var 6) (.tup .nil)) (.cons .never
  .nil) .nil)
  (.cons (.expr (.mt .extend (.var 3) (.cons (.var 6) .nil)))
  .nil))))
  (.cons (.ifs (.cmp .gt (.bi .len (.cons (.var 1) .nil)) (.bin false .add (.bi .len (.cons (.var 2) .nil)) (.int 1))) (.cons .never
  .nil) .nil)
  (.cons (.ret (.bi .tuple (.cons (.var 3) .nil)))
  .nil))))⟩
def d_line_in : Def := ⟨"line_in", ["row", "line", "can_begin"], ["row", "line", "can_begin", "words", "first"],
  (.cons (.asg (.nm 3) (.mt .split (.var 1) (.cons (.str " ") .nil)))
  (.cons (.asg (.nm 4) (.ix (.var 3) (.int 0)))
  (.cons (.ifs (.and (.cmp .eq (.var 4) (.str "court")) (.var 2)) (.cons (.ret (.bin false .add (.tup (.cons (.var 4) .nil)) (.call true "things_in" (.cons (.var 0) (.cons (.var 3) (.cons (.glob "FIRST" (.tup [(.str "count"), (.str "count"), (.str "back"), (.str "count"), (.str "count")])) .nil))))))
  .nil) .nil)
  (.cons (.ifs (.cmp .notin (.var 4) (.kdv "FORMS")) (.cons .never
  .nil) .nil)
  (.cons (.ret (.bin false .add (.tup (.cons (.var 4) .nil)) (.call true "things_in" (.cons (.var 0) (.cons (.var 3) (.cons (.ix (.kdv "FORMS") (.var 4)) .nil))))))
  .nil)))))⟩
def d_read_row : Def := ⟨"read_row", ["text"], ["text"],
  (.cons (.ret (.call true "line_in" (.cons (.int 0) (.cons (.var 0) (.cons (.bl true) .nil)))))
  .nil)⟩
def d_read_log : Def := ⟨"read_log", ["lines"], ["lines", "found", "row", "line"],
  (.cons (.ifs (.cmp .eq (.bi .len (.cons (.var 0) .nil)) (.int 0)) (.cons .never
  .nil) .nil)
  (.cons (.asg (.nm 1) (.lst true .nil))
  (.cons (.fr (.tup (.cons (.nm 2) (.cons (.nm 3) .nil))) (.enum (.var 0)) (.cons (.ifs (.and (.cmp .eq (.var 2) (.int 0)) (.cmp .ne (.ix (.mt .split (.var 3) (.cons (.str " ") .nil)) (.int 0)) (.str "court"))) (.cons .never
  .nil) .nil)
  (.cons (.expr (.mt .append (.var 1) (.cons (.call true "line_in" (.cons (.var 2) (.cons (.var 3) (.cons (.cmp .eq (.var 2) (.int 0)) .nil)))) .nil)))
  .nil)))
  (.cons (.ret (.bi .tuple (.cons (.var 1) .nil)))
  .nil))))⟩
def d_law_feed : Def := ⟨"_law_feed", ["script"], ["script"],
  (.cons (.ret (.lst true (.cons (.sl false (.var 0) .none (.some (.int 63))) (.cons (.int 0) (.cons (.int 0) (.cons (.int 0) .nil))))))
  .nil)⟩
def d_law_draw : Def := ⟨"_law_draw", ["feed", "bound"], ["feed", "bound", "at", "cell", "first", "found"],
  (.cons (.ifs (.cmp .gt (.ix (.var 0) (.int 2)) (.int 0)) (.cons (.asg (.nm 5) (.bin false .mod (.ix (.var 0) (.int 2)) (.var 1)))
  (.cons (.setix (.var 0) (.int 2) (.bin false .fdiv (.ix (.var 0) (.int 2)) (.var 1)))
  (.cons (.ret (.var 5))
  .nil))) .nil)
  (.cons (.asg (.nm 2) (.ix (.var 0) (.int 1)))
  (.cons (.setix (.var 0) (.int 1) (.bin false .add (.var 2) (.int 1)))
  (.cons (.setix (.var 0) (.int 3) (.bin false .add (.ix (.var 0) (.int 3)) (.int 1)))
  (.cons (.asg (.nm 3) (.ite (.cmp .gt (.bi .len (.cons (.ix (.var 0) (.int 0)) .nil)) (.int 0)) (.ix (.ix (.var 0) (.int 0)) (.bin false .mod (.var 2) (.bi .len (.cons (.ix (.var 0) (.int 0)) .nil)))) (.int 0)))
  (.cons (.ifs (.and (.cmp .ge (.var 3) (.bin false .pow (.int 10) (.int 18))) (.cmp .lt (.var 2) (.bi .len (.cons (.ix (.var 0) (.int 0)) .nil)))) (.cons (.setix (.var 0) (.int 2) (.bin false .fdiv (.var 3) (.var 1)))
  (.cons (.ret (.bin false .mod (.var 3) (.var 1)))
  .nil)) .nil)
  (.cons (.asg (.nm 4) (.bin false .mod (.bin false .pow (.bin false .add (.bin false .add (.bin false .mod (.var 3) (.int 1000003)) (.bin false .mul (.int 613) (.ix (.var 0) (.int 3)))) (.int 17)) (.int 5)) (.int 2147483647)))
  (.cons (.ret (.bin false .mod (.bin false .fdiv (.bin false .mod (.bin false .pow (.bin false .add (.var 4) (.bin false .mul (.int 4099) (.ix (.var 0) (.int 3)))) (.int 5)) (.int 2147483587)) (.int 7)) (.var 1)))
  .nil))))))))⟩
def d_law_pixel : Def := ⟨"_law_pixel", ["feed"], ["feed", "menu"],
  (.cons (.asg (.nm 1) (.lst false (.cons (.tup (.cons (.tup (.cons (.int 1) (.cons (.int 1) .nil))) (.cons (.tup (.cons (.int 1) (.cons (.int 1) .nil))) .nil))) (.cons (.tup (.cons (.tup (.cons (.int 0) (.cons (.int 1) .nil))) (.cons (.tup (.cons (.int 1) (.cons (.int 1) .nil))) .nil))) (.cons (.tup (.cons (.tup (.cons (.int 3) (.cons (.int 8) .nil))) (.cons (.tup (.cons (.int 1) (.cons (.int 1) .nil))) .nil))) (.cons (.tup (.cons (.tup (.cons (.int 1) (.cons (.int 4) .nil))) (.cons (.tup (.cons (.int 1) (.cons (.int 2) .nil))) .nil))) (.cons (.tup (.cons (.tup (.cons (.int 0) (.cons (.int 1) .nil))) (.cons (.tup (.cons (.int 1) (.cons (.int 16) .nil))) .nil))) (.cons (.tup (.cons (.tup (.cons (.int 0) (.cons (.int 1) .nil))) (.cons (.tup (.cons (.int 0) (.cons (.int 1) .nil))) .nil))) .nil))))))))
  (.cons (.ret (.ix (.var 1) (.call false "_law_draw" (.cons (.var 0) (.cons (.int 6) .nil)))))
  .nil))⟩
def d_law_begin : Def := ⟨"_law_begin", ["feed"], ["feed", "back", "across", "all_rows"],
  (.cons (.asg (.nm 1) (.ix (.lst false (.cons (.tup (.cons (.tup (.cons (.int 0) (.cons (.int 1) .nil))) (.cons (.tup (.cons (.int 1) (.cons (.int 1) .nil))) .nil))) (.cons (.tup (.cons (.tup (.cons (.int 1) (.cons (.int 2) .nil))) (.cons (.tup (.cons (.int 1) (.cons (.int 1) .nil))) .nil))) .nil))) (.call false "_law_draw" (.cons (.var 0) (.cons (.int 2) .nil)))))
  (.cons (.par 2 3 (.bin false .add (.int 1) (.call false "_law_draw" (.cons (.var 0) (.cons (.int 4) .nil)))) (.bin false .add (.int 1) (.call false "_law_draw" (.cons (.var 0) (.cons (.int 3) .nil)))))
  (.cons (.ret (.tup (.cons (.str "court") (.cons (.var 2) (.cons (.var 3) (.cons (.var 1) (.cons (.bin false .add (.int 2) (.call false "_law_draw" (.cons (.var 0) (.cons (.int 3) .nil)))) (.cons (.bin false .add (.int 1) (.call false "_law_draw" (.cons (.var 0) (.cons (.int 3) .nil)))) .nil))))))))
  .nil)))⟩
def d_law_state_deed : Def := ⟨"_law_state_deed", ["feed", "name"], ["feed", "name", "way"],
  (.cons (.asg (.nm 2) (.call false "_law_draw" (.cons (.var 0) (.cons (.int 6) .nil))))
  (.cons (.ifs (.cmp .lt (.var 2) (.int 2)) (.cons (.ret (.tup (.cons (.str "place") (.cons (.var 1) (.cons (.bin false .sub (.call false "_law_draw" (.cons (.var 0) (.cons (.int 5) .nil))) (.int 1)) (.cons (.bin false .sub (.call false "_law_draw" (.cons (.var 0) (.cons (.int 4) .nil))) (.int 1)) .nil))))))
  .nil) .nil)
  (.cons (.ifs (.cmp .eq (.var 2) (.int 2)) (.cons (.ret (.tup (.cons (.str "clip") (.cons (.var 1) (.cons (.ix (.lst false (.cons .non (.cons (.tup (.cons (.int 0) (.cons (.int 0) (.cons (.int 1) (.cons (.int 2) .nil))))) (.cons (.tup (.cons (.bin false .sub (.int 0) (.int 1)) (.cons (.int 0) (.cons (.int 2) (.cons (.int 1) .nil))))) .nil)))) (.call false "_law_draw" (.cons (.var 0) (.cons (.int 3) .nil)))) .nil)))))
  .nil) .nil)
  (.cons (.ifs (.cmp .eq (.var 2) (.int 3)) (.cons (.ret (.tup (.cons (.str "fade") (.cons (.var 1) (.cons (.ix (.lst false (.cons (.tup (.cons (.int 1) (.cons (.int 1) .nil))) (.cons (.tup (.cons (.int 1) (.cons (.int 2) .nil))) (.cons (.tup (.cons (.int 0) (.cons (.int 1) .nil))) (.cons (.tup (.cons (.int 13) (.cons (.int 16) .nil))) .nil))))) (.call false "_law_draw" (.cons (.var 0) (.cons (.int 4) .nil)))) .nil)))))
  .nil) .nil)
  (.cons (.ret (.ite (.cmp .eq (.var 2) (.int 4)) (.tup (.cons (.str "hide") (.cons (.var 1) (.cons (.cmp .eq (.call false "_law_draw" (.cons (.var 0) (.cons (.int 2) .nil))) (.int 0)) .nil)))) (.tup (.cons (.str "order") (.cons (.var 1) (.cons (.call false "_law_draw" (.cons (.var 0) (.cons (.int 3) .nil))) .nil))))))
  .nil)))))⟩
def d_law_deed : Def := ⟨"_law_deed", ["feed", "clock"], ["feed", "clock", "name", "way", "board", "region", "spoilt_region", "flat_ones"],
  (.cons (.par 2 4 (.ix (.lst false (.cons (.str "a") (.cons (.str "b") (.cons (.str "c") (.cons (.str "d") .nil))))) (.call false "_law_draw" (.cons (.var 0) (.cons (.int 4) .nil)))) (.ix (.lst false (.cons (.str "p") (.cons (.str "q") (.cons (.str "r") .nil)))) (.call false "_law_draw" (.cons (.var 0) (.cons (.int 3) .nil)))))
  (.cons (.asg (.nm 2) (.ite (.cmp .eq (.call false "_law_draw" (.cons (.var 0) (.cons (.int 6) .nil))) (.int 0)) (.ix (.lst false (.cons (.str "e") (.cons (.str "f") .nil))) (.call false "_law_draw" (.cons (.var 0) (.cons (.int 2) .nil)))) (.var 2)))
  (.cons (.asg (.nm 3) (.call false "_law_draw" (.cons (.var 0) (.cons (.int 30) .nil))))
  (.cons (.ifs (.cmp .lt (.var 3) (.int 4)) (.cons (.asg (.nm 5) (.ix (.lst false (.cons (.tup (.cons (.tup (.cons (.int 0) (.cons (.int 0) (.cons (.int 8) (.cons (.int 8) .nil))))) .nil)) (.cons (.tup (.cons (.tup (.cons (.int 1) (.cons (.int 0) (.cons (.int 2) (.cons (.int 1) .nil))))) .nil)) (.cons (.tup .nil) (.cons (.tup (.cons (.tup (.cons (.int 0) (.cons (.int 0) (.cons (.int 1) (.cons (.int 1) .nil))))) (.cons (.tup (.cons (.int 0) (.cons (.int 1) (.cons (.int 2) (.cons (.int 2) .nil))))) .nil))) .nil))))) (.call false "_law_draw" (.cons (.var 0) (.cons (.int 4) .nil)))))
  (.cons (.ret (.tup (.cons (.str "draw") (.cons (.var 4) (.cons (.var 5) (.cons (.call false "_law_pixel" (.cons (.var 0) .nil)) .nil))))))
  .nil)) .nil)
  (.cons (.ifs (.cmp .lt (.var 3) (.int 9)) (.cons (.asg (.nm 4) (.ix (.lst false (.cons (.var 4) (.cons (.var 4) (.cons (.var 4) (.cons .non (.cons (.str "no") .nil)))))) (.call false "_law_draw" (.cons (.var 0) (.cons (.int 5) .nil)))))
  (.cons (.asg (.nm 6) (.ix (.lst false (.cons (.tup (.cons (.tup (.cons (.int 0) (.cons (.int 0) (.cons (.int 8) (.cons (.int 8) .nil))))) .nil)) (.cons (.tup (.cons (.tup (.cons (.int 0) (.cons (.int 0) (.cons (.int 8) (.cons (.int 8) .nil))))) .nil)) (.cons (.tup (.cons (.tup (.cons (.int 0) (.cons (.int 0) (.cons (.int 1) (.cons (.int 1) .nil))))) .nil)) (.cons (.tup .nil) .nil))))) (.call false "_law_draw" (.cons (.var 0) (.cons (.int 4) .nil)))))
  (.cons (.ret (.tup (.cons (.str "attach") (.cons (.var 2) (.cons (.var 4) (.cons (.var 6) (.cons (.ix (.lst false (.cons (.tup (.cons (.int 0) (.cons (.int 0) .nil))) (.cons (.tup (.cons (.int 0) (.cons (.int 0) .nil))) (.cons (.tup (.cons (.int 1) (.cons (.int 0) .nil))) .nil)))) (.call false "_law_draw" (.cons (.var 0) (.cons (.int 3) .nil)))) .nil)))))))
  .nil))) .nil)
  (.cons (.ifs (.cmp .lt (.var 3) (.int 16)) (.cons (.ret (.tup (.cons (.str "commit") (.cons (.var 2) .nil))))
  .nil) .nil)
  (.cons (.ifs (.cmp .lt (.var 3) (.int 20)) (.cons (.ret (.call false "_law_state_deed" (.cons (.var 0) (.cons (.var 2) .nil))))
  .nil) .nil)
  (.cons (.ifs (.cmp .lt (.var 3) (.int 24)) (.cons (.setix (.var 1) (.int 0) (.bin false .add (.ix (.var 1) (.int 0)) (.call false "_law_draw" (.cons (.var 0) (.cons (.int 2) .nil)))))
  (.cons (.asg (.nm 7) (.ix (.lst false (.cons (.tup .nil) (.cons (.tup .nil) (.cons (.tup (.cons (.var 2) .nil)) (.cons (.tup (.cons (.str "a") (.cons (.str "b") .nil))) (.cons (.tup (.cons (.str "a") (.cons (.str "b") (.cons (.str "c") .nil)))) .nil)))))) (.call false "_law_draw" (.cons (.var 0) (.cons (.int 5) .nil)))))
  (.cons (.ret (.tup (.cons (.str "latch") (.cons (.ix (.var 1) (.int 0)) (.cons (.bin false .add (.int 1) (.call false "_law_draw" (.cons (.var 0) (.cons (.int 2) .nil)))) (.cons .non (.cons (.var 7) .nil)))))))
  .nil))) .nil)
  (.cons (.ifs (.cmp .lt (.var 3) (.int 27)) (.cons (.setix (.var 1) (.int 0) (.bin false .add (.ix (.var 1) (.int 0)) (.call false "_law_draw" (.cons (.var 0) (.cons (.int 3) .nil)))))
  (.cons (.ret (.tup (.cons (.str "refresh") (.cons (.ix (.var 1) (.int 0)) .nil))))
  .nil)) .nil)
  (.cons (.ifs (.cmp .eq (.var 3) (.int 27)) (.cons (.ret (.ix (.lst false (.cons (.tup (.cons (.str "add") (.cons (.var 2) (.cons (.str "") .nil)))) (.cons (.tup (.cons (.str "add") (.cons (.var 2) (.cons (.str "b") .nil)))) (.cons (.tup (.cons (.str "make") (.cons (.var 4) (.cons (.int 2) (.cons (.int 1) .nil))))) (.cons (.tup (.cons (.str "scrap") (.cons (.var 4) .nil))) .nil))))) (.call false "_law_draw" (.cons (.var 0) (.cons (.int 4) .nil)))))
  .nil) .nil)
  (.cons (.ret (.ite (.cmp .eq (.var 3) (.int 28)) (.tup (.cons (.str "flag") (.cons (.var 2) (.cons (.cmp .eq (.call false "_law_draw" (.cons (.var 0) (.cons (.int 2) .nil))) (.int 0)) .nil)))) (.tup (.cons (.str "drop") (.cons (.ix (.lst false (.cons (.str "c") (.cons (.str "d") (.cons (.var 2) .nil)))) (.call false "_law_draw" (.cons (.var 0) (.cons (.int 3) .nil)))) .nil)))))
  .nil)))))))))))⟩
def d_law_frac_word : Def := ⟨"_law_frac_word", ["one"], ["one"],
  (.cons (.ret (.ite (.cmp .eq (.ix (.var 0) (.int 1)) (.int 1)) (.bi .str (.cons (.ix (.var 0) (.int 0)) .nil)) (.bin false .add (.bin false .add (.bi .str (.cons (.ix (.var 0) (.int 0)) .nil)) (.str "/")) (.bi .str (.cons (.ix (.var 0) (.int 1)) .nil)))))
  .nil)⟩
def d_law_pixel_word : Def := ⟨"_law_pixel_word", ["pixel"], ["pixel"],
  (.cons (.ret (.bin false .add (.bin false .add (.call true "_law_frac_word" (.cons (.ix (.var 0) (.int 0)) .nil)) (.str ":")) (.call true "_law_frac_word" (.cons (.ix (.var 0) (.int 1)) .nil))))
  .nil)⟩
def d_law_numbers_word : Def := ⟨"_law_numbers_word", ["numbers"], ["numbers", "one"],
  (.cons (.ret (.ite (.cmp .gt (.bi .len (.cons (.var 0) .nil)) (.int 0)) (.mt .join (.str ",") (.cons (.comp false [("one", 1)] (.bi .str (.cons (.var 1) .nil)) (.nm 1) (.seq (.var 0)) .nil) .nil)) (.str "-")))
  .nil)⟩
def d_law_forms : Def := ⟨"_law_forms", [], ["found"],
  (.cons (.asg (.nm 0) (.dct (.cons (.str "make") (.lst false (.cons (.str "name") (.cons (.str "count") (.cons (.str "count") .nil)))) (.cons (.str "draw") (.lst false (.cons (.str "name") (.cons (.str "region") (.cons (.str "pixel") .nil)))) (.cons (.str "scrap") (.lst false (.cons (.str "name") .nil)) .nil)))))
  (.cons (.expr (.mt .update (.var 0) (.cons (.dct (.cons (.str "add") (.lst false (.cons (.str "name") (.cons (.str "parent") .nil))) (.cons (.str "drop") (.lst false (.cons (.str "name") .nil)) (.cons (.str "flag") (.lst false (.cons (.str "name") (.cons (.str "truth") .nil))) (.cons (.str "refresh") (.lst false (.cons (.str "figure") .nil)) .nil))))) .nil)))
  (.cons (.expr (.mt .update (.var 0) (.cons (.dct (.cons (.str "place") (.lst false (.cons (.str "name") (.cons (.str "number") (.cons (.str "number") .nil)))) (.cons (.str "clip") (.lst false (.cons (.str "name") (.cons (.str "clip") .nil))) (.cons (.str "fade") (.lst false (.cons (.str "name") (.cons (.str "share") .nil))) .nil)))) .nil)))
  (.cons (.expr (.mt .update (.var 0) (.cons (.dct (.cons (.str "hide") (.lst false (.cons (.str "name") (.cons (.str "truth") .nil))) (.cons (.str "order") (.lst false (.cons (.str "name") (.cons (.str "figure") .nil))) (.cons (.str "commit") (.lst false (.cons (.str "name") .nil)) .nil)))) .nil)))
  (.cons (.expr (.mt .update (.var 0) (.cons (.dct (.cons (.str "attach") (.lst false (.cons (.str "name") (.cons (.str "board") (.cons (.str "region") (.cons (.str "pair") .nil))))) (.cons (.str "latch") (.lst false (.cons (.str "figure") (.cons (.str "count") (.cons (.str "figure") (.cons (.str "names") .nil))))) .nil))) .nil)))
  (.cons (.setix (.var 0) (.str "court") (.lst false (.cons (.str "count") (.cons (.str "count") (.cons (.str "back") (.cons (.str "count") (.cons (.str "count") .nil)))))))
  (.cons (.ret (.var 0))
  .nil)))))))⟩
def d_law_thing_word : Def := ⟨"_law_thing_word", ["form", "thing"], ["form", "thing", "one"],
  (.cons (.ifs (.cmp .isin (.var 0) (.tup (.cons (.str "pixel") (.cons (.str "back") .nil)))) (.cons (.ret (.call true "_law_pixel_word" (.cons (.var 1) .nil)))
  .nil) .nil)
  (.cons (.ifs (.cmp .eq (.var 0) (.str "region")) (.cons (.ret (.ite (.cmp .ne (.var 1) (.tup .nil)) (.mt .join (.str ";") (.cons (.comp false [("one", 2)] (.call true "_law_numbers_word" (.cons (.var 2) .nil)) (.nm 2) (.seq (.var 1)) .nil) .nil)) (.str "-")))
  .nil) .nil)
  (.cons (.ifs (.cmp .eq (.var 0) (.str "share")) (.cons (.ret (.call true "_law_frac_word" (.cons (.var 1) .nil)))
  .nil) .nil)
  (.cons (.ifs (.cmp .eq (.var 0) (.str "truth")) (.cons (.ret (.ite (.var 1) (.str "yes") (.str "no")))
  .nil) .nil)
  (.cons (.ifs (.and (.cmp .isin (.var 0) (.tup (.cons (.str "pair") (.cons (.str "names") (.cons (.str "clip") .nil))))) (.isN true (.var 1))) (.cons (.ret (.call true "_law_numbers_word" (.cons (.var 1) .nil)))
  .nil) .nil)
  (.cons (.ret (.ite (.or (.isN false (.var 1)) (.and (.isi (.var 1) .str) (.cmp .eq (.var 1) (.str "")))) (.str "-") (.bi .str (.cons (.var 1) .nil))))
  .nil))))))⟩
def d_law_line : Def := ⟨"_law_line", ["row"], ["row", "forms", "form", "thing"],
  (.cons (.asg (.nm 1) (.ix (.call false "_law_forms" .nil) (.ix (.var 0) (.int 0))))
  (.cons (.ret (.mt .join (.str " ") (.cons (.bin false .add (.lst false (.cons (.ix (.var 0) (.int 0)) .nil)) (.comp false [("form", 2), ("thing", 3)] (.call true "_law_thing_word" (.cons (.var 2) (.cons (.var 3) .nil))) (.tup (.cons (.nm 2) (.cons (.nm 3) .nil))) (.zip false (.var 1) (.sl false (.var 0) (.some (.int 1)) .none)) .nil)) .nil)))
  .nil))⟩
def d_law_by_hand : Def := ⟨"_law_by_hand", ["feed"], ["feed", "name", "great", "found", "region"],
  (.cons (.asg (.nm 1) (.ix (.lst false (.cons (.str "a") (.cons (.str "latch") (.cons (.str "zzzzzzzz") (.cons (.str "court") .nil))))) (.call false "_law_draw" (.cons (.var 0) (.cons (.int 4) .nil)))))
  (.cons (.asg (.nm 2) (.bin false .sub (.int 999999999) (.call false "_law_draw" (.cons (.var 0) (.cons (.int 3) .nil)))))
  (.cons (.asg (.nm 3) (.lst true (.cons (.tup (.cons (.str "make") (.cons (.var 1) (.cons (.var 2) (.cons (.int 1) .nil))))) (.cons (.tup (.cons (.str "place") (.cons (.var 1) (.cons (.bin false .sub (.int 0) (.var 2)) (.cons (.var 2) .nil))))) (.cons (.tup (.cons (.str "clip") (.cons (.var 1) (.cons (.tup (.cons (.bin false .sub (.int 0) (.var 2)) (.cons (.bin false .sub (.int 0) (.int 1)) (.cons (.int 0) (.cons (.var 2) .nil))))) .nil)))) .nil)))))
  (.cons (.asg (.nm 3) (.bin true .add (.var 3) (.lst false (.cons (.tup (.cons (.str "clip") (.cons (.var 1) (.cons .non .nil)))) (.cons (.tup (.cons (.str "fade") (.cons (.var 1) (.cons (.tup (.cons (.var 2) (.cons (.bin false .add (.int 999999999) (.int 0)) .nil))) .nil)))) (.cons (.tup (.cons (.str "order") (.cons (.var 1) (.cons (.var 2) .nil)))) .nil))))))
  (.cons (.setix (.var 3) (.int 4) (.tup (.cons (.str "fade") (.cons (.var 1) (.cons (.ix (.lst false (.cons (.tup (.cons (.int 0) (.cons (.int 1) .nil))) (.cons (.tup (.cons (.int 1) (.cons (.int 1) .nil))) (.cons (.tup (.cons (.int 1) (.cons (.int 999999999) .nil))) (.cons (.tup (.cons (.int 999999998) (.cons (.int 999999999) .nil))) .nil))))) (.call false "_law_draw" (.cons (.var 0) (.cons (.int 4) .nil)))) .nil)))))
  (.cons (.asg (.nm 4) (.tup (.cons (.tup (.cons (.bin false .sub (.int 0) (.int 9)) (.cons (.bin false .sub (.int 0) (.int 9)) (.cons (.bin false .sub (.int 0) (.int 2)) (.cons (.bin false .sub (.int 0) (.int 8)) .nil))))) (.cons (.tup (.cons (.bin false .sub (.int 0) (.int 9)) (.cons (.int 0) (.cons (.int 1) (.cons (.int 2) .nil))))) (.cons (.tup (.cons (.int 3) (.cons (.int 0) (.cons (.int 4) (.cons (.int 2) .nil))))) (.cons (.tup (.cons (.int 0) (.cons (.int 2) (.cons (.var 2) (.cons (.int 3) .nil))))) .nil))))))
  (.cons (.asg (.nm 3) (.bin true .add (.var 3) (.lst false (.cons (.tup (.cons (.str "draw") (.cons (.var 1) (.cons (.var 4) (.cons (.tup (.cons (.tup (.cons (.int 1) (.cons (.int 16) .nil))) (.cons (.tup (.cons (.int 15) (.cons (.int 16) .nil))) .nil))) .nil))))) (.cons (.tup (.cons (.str "draw") (.cons (.var 1) (.cons (.tup .nil) (.cons (.tup (.cons (.tup (.cons (.int 0) (.cons (.int 1) .nil))) (.cons (.tup (.cons (.int 0) (.cons (.int 1) .nil))) .nil))) .nil))))) .nil)))))
  (.cons (.asg (.nm 3) (.bin true .add (.var 3) (.lst false (.cons (.tup (.cons (.str "attach") (.cons (.var 1) (.cons .non (.cons (.tup .nil) (.cons (.tup (.cons (.bin false .sub (.int 0) (.var 2)) (.cons (.var 2) .nil))) .nil)))))) (.cons (.tup (.cons (.str "attach") (.cons (.var 1) (.cons (.str "p") (.cons (.var 4) (.cons (.tup (.cons (.int 0) (.cons (.int 0) .nil))) .nil)))))) .nil)))))
  (.cons (.asg (.nm 3) (.bin true .add (.var 3) (.lst false (.cons (.tup (.cons (.str "latch") (.cons (.var 2) (.cons (.var 2) (.cons (.var 2) (.cons (.tup (.cons (.str "a") (.cons (.str "zzzzzzzz") (.cons (.str "b") .nil)))) .nil)))))) (.cons (.tup (.cons (.str "latch") (.cons (.int 0) (.cons (.int 1) (.cons (.int 0) (.cons (.tup .nil) .nil)))))) (.cons (.tup (.cons (.str "refresh") (.cons (.var 2) .nil))) .nil))))))
  (.cons (.ret (.bin false .add (.var 3) (.lst false (.cons (.tup (.cons (.str "add") (.cons (.var 1) (.cons (.str "") .nil)))) (.cons (.tup (.cons (.str "add") (.cons (.var 1) (.cons (.str "court") .nil)))) (.cons (.tup (.cons (.str "flag") (.cons (.var 1) (.cons (.bl true) .nil)))) (.cons (.tup (.cons (.str "hide") (.cons (.var 1) (.cons (.bl false) .nil)))) .nil)))))))
  .nil))))))))))⟩
def d_law : Def := ⟨"law", ["script"], ["script", "feed", "all_rows", "row", "log", "lines", "told", "first", "clock", "line", "read", "kept", "k"],
  (.cons (.asg (.nm 1) (.call false "_law_feed" (.cons (.var 0) .nil)))
  (.cons (.asg (.tup (.cons (.nm 7) (.cons (.nm 8) .nil))) (.tup (.cons (.call false "_law_begin" (.cons (.var 1) .nil)) (.cons (.lst true (.cons (.int 0) .nil)) .nil))))
  (.cons (.asg (.nm 2) (.bin false .add (.comp false [("k", 12)] (.call false "_law_deed" (.cons (.var 1) (.cons (.var 8) .nil))) (.nm 12) (.range1 (.call false "_law_draw" (.cons (.var 1) (.cons (.int 25) .nil)))) .nil) (.call false "_law_by_hand" (.cons (.var 1) .nil))))
  (.cons (.asg (.nm 2) (.comp false [("row", 3)] (.ite (.cmp .ne (.ix (.var 3) (.int 0)) (.str "latch")) (.var 3) (.bin false .add (.bin false .add (.sl false (.var 3) .none (.some (.int 3))) (.tup (.cons (.int 7) .nil))) (.sl false (.var 3) (.some (.int 4)) .none))) (.nm 3) (.seq (.var 2)) .nil))
  (.cons (.fr (.nm 3) (.seq (.bin false .add (.lst false (.cons (.var 7) .nil)) (.var 2))) (.cons (.asg (.nm 9) (.call true "_law_line" (.cons (.var 3) .nil)))
  (.cons (.asg (.nm 10) (.call true "read_row" (.cons (.var 9) .nil)))
  (.cons (.ifs (.or (.cmp .ne (.bi .repr (.cons (.var 10) .nil)) (.bi .repr (.cons (.var 3) .nil))) (.cmp .ne (.call true "row_line" (.cons (.var 10) .nil)) (.var 9))) (.cons (.ret (.bl false))
  .nil) .nil)
  .nil))))
  (.cons (.asg (.nm 4) (.bin false .add (.tup (.cons (.var 7) .nil)) (.bi .tuple (.cons (.var 2) .nil))))
  (.cons (.asg (.nm 5) (.comp false [("row", 3)] (.call true "_law_line" (.cons (.var 3) .nil)) (.nm 3) (.seq (.var 4)) .nil))
  (.cons (.par 11 10 (.bi (.list false) (.cons (.var 5) .nil)) (.call true "read_log" (.cons (.var 5) .nil)))
  (.cons (.ifs (.or (.cmp .ne (.bi .repr (.cons (.var 10) .nil)) (.bi .repr (.cons (.var 4) .nil))) (.cmp .ne (.var 5) (.var 11))) (.cons (.ret (.bl false))
  .nil) .nil)
  (.cons (.asg (.nm 6) (.call false "log_lines" (.cons (.var 10) .nil)))
  (.cons (.ifs (.cmp .ne (.bi .repr (.cons (.var 6) .nil)) (.bi .repr (.cons (.var 5) .nil))) (.cons (.ret (.bl false))
  .nil) .nil)
  (.cons (.expr (.mt .append (.var 6) (.cons (.str "") .nil)))
  (.cons (.ret (.and (.cmp .eq (.call false "log_lines" (.cons (.var 10) .nil)) (.var 5)) (.cmp .eq (.bi .repr (.cons (.call true "read_log" (.cons (.sl false (.var 5) .none (.some (.int 1))) .nil)) .nil)) (.bi .repr (.cons (.tup (.cons (.var 7) .nil)) .nil)))))
  .nil)))))))))))))⟩
def gvals : List (Str × PV) := [("LETTERS", (.str "abcdefghijklmnopqrstuvwxyz")),
  ("MOST_LETTERS", (.int 8)),
  ("WHOLE", (.tup [(.int 1), (.int 1)])),
  ("FIRST", (.tup [(.str "count"), (.str "count"), (.str "back"), (.str "count"), (.str "count")])),
  ("VOID", (.str "-")),
  ("FIGURES", (.str "0123456789")),
  ("MOST_FIGURES", (.int 9))]
def gdicts : List (Str × List (Str × PV)) := [("FORMS", [("make", (.tup [(.str "name"), (.str "count"), (.str "count")])), ("draw", (.tup [(.str "name"), (.str "region"), (.str "pixel")])), ("scrap", (.tup [(.str "name")])), ("add", (.tup [(.str "name"), (.str "parent")])), ("drop", (.tup [(.str "name")])), ("flag", (.tup [(.str "name"), (.str "truth")])), ("place", (.tup [(.str "name"), (.str "number"), (.str "number")])), ("clip", (.tup [(.str "name"), (.str "clip")])), ("fade", (.tup [(.str "name"), (.str "share")])), ("hide", (.tup [(.str "name"), (.str "truth")])), ("order", (.tup [(.str "name"), (.str "figure")])), ("attach", (.tup [(.str "name"), (.str "board"), (.str "region"), (.str "pair")])), ("commit", (.tup [(.str "name")])), ("latch", (.tup [(.str "figure"), (.str "count"), (.str "figure"), (.str "names")])), ("refresh", (.tup [(.str "figure")]))]),
  ("KINDS", [("name", (.fn "is_name")), ("count", (.fn "is_count")), ("figure", (.fn "is_figure")), ("number", (.fn "is_number")), ("truth", (.fn "is_truth")), ("parent", (.fn "is_parent")), ("board", (.fn "is_board")), ("clip", (.fn "is_clip")), ("share", (.fn "is_share")), ("pair", (.fn "is_pair")), ("names", (.fn "are_names")), ("back", (.fn "is_back")), ("pixel", (.fn "is_pixel")), ("region", (.fn "is_region"))]),
  ("WRITERS", [("truth", (.fn "truth_word")), ("clip", (.fn "clip_word")), ("share", (.fn "fraction_word")), ("pair", (.fn "numbers_word")), ("names", (.fn "numbers_word")), ("back", (.fn "pixel_word")), ("pixel", (.fn "pixel_word")), ("region", (.fn "region_word"))]),
  ("READERS", [("name", (.fn "plain_in")), ("count", (.fn "number_in")), ("figure", (.fn "number_in")), ("number", (.fn "number_in")), ("truth", (.fn "truth_in")), ("parent", (.fn "parent_in")), ("board", (.fn "plain_in")), ("clip", (.fn "numbers_in")), ("share", (.fn "fraction_in")), ("pair", (.fn "numbers_in")), ("names", (.fn "names_in")), ("back", (.fn "pixel_in")), ("pixel", (.fn "pixel_in")), ("region", (.fn "region_in"))])]
def gblt : List Str := ["abs", "all", "any", "bool", "enumerate", "int", "isinstance", "len", "list", "range", "repr", "str", "tuple", "zip"]
def G : Glb := ⟨gvals, gdicts, gblt⟩
def fnsL : List Str := (["is_number", "are_numbers", "is_word", "common_divisor", "is_fraction", "is_below", "is_part", "is_pixel", "is_covered", "is_rectangle", "stands_behind", "bands_of", "are_one", "is_region", "is_name", "is_count", "is_figure", "is_truth", "is_parent", "is_board", "is_clip", "is_share", "is_pair", "are_names", "is_back", "is_of", "fraction_word", "pixel_word", "numbers_word", "region_word"] : List Str) ++ (["plain_word", "truth_word", "clip_word", "thing_word", "row_line", "log_lines", "figures_in", "number_in", "fraction_in", "parts_in", "numbers_in", "pixel_in", "region_in", "names_in", "truth_in", "parent_in", "plain_in", "word_in", "things_in", "line_in", "read_row", "read_log", "_law_feed", "_law_draw", "_law_pixel", "_law_begin", "_law_state_deed", "_law_deed", "_law_frac_word", "_law_pixel_word"] : List Str) ++ (["_law_numbers_word", "_law_forms", "_law_thing_word", "_law_line", "_law_by_hand", "law"] : List Str)
def xps : Exp := (bootN ++ ([("CourtError", .any),
  ("NoText", .any),
  ("LETTERS", .val (.str "abcdefghijklmnopqrstuvwxyz")),
  ("MOST_LETTERS", .val (.int 8)),
  ("is_number", .fn d_is_number),
  ("are_numbers", .fn d_are_numbers),
  ("is_word", .fn d_is_word),
  ("common_divisor", .fn d_common_divisor),
  ("is_fraction", .fn d_is_fraction),
  ("is_below", .fn d_is_below),
  ("WHOLE", .val (.tup [(.int 1), (.int 1)])),
  ("is_part", .fn d_is_part),
  ("is_pixel", .fn d_is_pixel),
  ("is_covered", .fn d_is_covered),
  ("is_rectangle", .fn d_is_rectangle),
  ("stands_behind", .fn d_stands_behind),
  ("bands_of", .fn d_bands_of),
  ("are_one", .fn d_are_one),
  ("is_region", .fn d_is_region),
  ("FIRST", .val (.tup [(.str "count"), (.str "count"), (.str "back"), (.str "count"), (.str "count")])),
  ("FORMS", .dict [("make", (.tup [(.str "name"), (.str "count"), (.str "count")])), ("draw", (.tup [(.str "name"), (.str "region"), (.str "pixel")])), ("scrap", (.tup [(.str "name")])), ("add", (.tup [(.str "name"), (.str "parent")])), ("drop", (.tup [(.str "name")])), ("flag", (.tup [(.str "name"), (.str "truth")])), ("place", (.tup [(.str "name"), (.str "number"), (.str "number")])), ("clip", (.tup [(.str "name"), (.str "clip")])), ("fade", (.tup [(.str "name"), (.str "share")])), ("hide", (.tup [(.str "name"), (.str "truth")])), ("order", (.tup [(.str "name"), (.str "figure")])), ("attach", (.tup [(.str "name"), (.str "board"), (.str "region"), (.str "pair")])), ("commit", (.tup [(.str "name")])), ("latch", (.tup [(.str "figure"), (.str "count"), (.str "figure"), (.str "names")])), ("refresh", (.tup [(.str "figure")]))]),
  ("is_name", .fn d_is_name),
  ("is_count", .fn d_is_count),
  ("is_figure", .fn d_is_figure),
  ("is_truth", .fn d_is_truth),
  ("is_parent", .fn d_is_parent),
  ("is_board", .fn d_is_board),
  ("is_clip", .fn d_is_clip),
  ("is_share", .fn d_is_share),
  ("is_pair", .fn d_is_pair)] : List (Str × Xp)) ++
  ([("are_names", .fn d_are_names),
  ("is_back", .fn d_is_back),
  ("KINDS", .dict [("name", (.fn "is_name")), ("count", (.fn "is_count")), ("figure", (.fn "is_figure")), ("number", (.fn "is_number")), ("truth", (.fn "is_truth")), ("parent", (.fn "is_parent")), ("board", (.fn "is_board")), ("clip", (.fn "is_clip")), ("share", (.fn "is_share")), ("pair", (.fn "is_pair")), ("names", (.fn "are_names")), ("back", (.fn "is_back")), ("pixel", (.fn "is_pixel")), ("region", (.fn "is_region"))]),
  ("is_of", .fn d_is_of),
  ("VOID", .val (.str "-")),
  ("fraction_word", .fn d_fraction_word),
  ("pixel_word", .fn d_pixel_word),
  ("numbers_word", .fn d_numbers_word),
  ("region_word", .fn d_region_word),
  ("plain_word", .fn d_plain_word),
  ("truth_word", .fn d_truth_word),
  ("clip_word", .fn d_clip_word),
  ("WRITERS", .dict [("truth", (.fn "truth_word")), ("clip", (.fn "clip_word")), ("share", (.fn "fraction_word")), ("pair", (.fn "numbers_word")), ("names", (.fn "numbers_word")), ("back", (.fn "pixel_word")), ("pixel", (.fn "pixel_word")), ("region", (.fn "region_word"))]),
  ("thing_word", .fn d_thing_word),
  ("row_line", .fn d_row_line),
  ("log_lines", .fn d_log_lines),
  ("FIGURES", .val (.str "0123456789")),
  ("MOST_FIGURES", .val (.int 9)),
  ("figures_in", .fn d_figures_in),
  ("number_in", .fn d_number_in),
  ("fraction_in", .fn d_fraction_in),
  ("parts_in", .fn d_parts_in),
  ("numbers_in", .fn d_numbers_in),
  ("pixel_in", .fn d_pixel_in),
  ("region_in", .fn d_region_in),
  ("names_in", .fn d_names_in),
  ("truth_in", .fn d_truth_in),
  ("parent_in", .fn d_parent_in),
  ("plain_in", .fn d_plain_in),
  ("READERS", .dict [("name", (.fn "plain_in")), ("count", (.fn "number_in")), ("figure", (.fn "number_in")), ("number", (.fn "number_in")), ("truth", (.fn "truth_in")), ("parent", (.fn "parent_in")), ("board", (.fn "plain_in")), ("clip", (.fn "numbers_in")), ("share", (.fn "fraction_in")), ("pair", (.fn "numbers_in")), ("names", (.fn "names_in")), ("back", (.fn "pixel_in")), ("pixel", (.fn "pixel_in")), ("region", (.fn "region_in"))])] : List (Str × Xp)) ++
  ([("word_in", .fn d_word_in),
  ("things_in", .fn d_things_in),
  ("line_in", .fn d_line_in),
  ("read_row", .fn d_read_row),
  ("read_log", .fn d_read_log),
  ("_law_feed", .fn d_law_feed),
  ("_law_draw", .fn d_law_draw),
  ("_law_pixel", .fn d_law_pixel),
  ("_law_begin", .fn d_law_begin),
  ("_law_state_deed", .fn d_law_state_deed),
  ("_law_deed", .fn d_law_deed),
  ("_law_frac_word", .fn d_law_frac_word),
  ("_law_pixel_word", .fn d_law_pixel_word),
  ("_law_numbers_word", .fn d_law_numbers_word),
  ("_law_forms", .fn d_law_forms),
  ("_law_thing_word", .fn d_law_thing_word),
  ("_law_line", .fn d_law_line),
  ("_law_by_hand", .fn d_law_by_hand),
  ("law", .fn d_law)] : List (Str × Xp)) : List (Str × Xp))
def loose : List Str := (["CourtError", "FIGURES", "FIRST", "FORMS", "KINDS", "LETTERS", "MOST_FIGURES", "MOST_LETTERS", "NoText", "READERS", "VOID", "WHOLE", "WRITERS", "__name__", "_law_begin", "_law_by_hand", "_law_deed", "_law_draw", "_law_feed", "_law_forms", "_law_frac_word", "_law_line", "_law_numbers_word", "_law_pixel", "_law_pixel_word", "_law_state_deed", "_law_thing_word", "are_names", "are_numbers", "are_one"] : List Str) ++ (["bands_of", "clip_word", "common_divisor", "figures_in", "fraction_in", "fraction_word", "is_back", "is_below", "is_board", "is_clip", "is_count", "is_covered", "is_figure", "is_fraction", "is_name", "is_number", "is_of", "is_pair", "is_parent", "is_part", "is_pixel", "is_rectangle", "is_region", "is_share", "is_truth", "is_word", "line_in", "log_lines", "names_in", "number_in"] : List Str) ++ (["numbers_in", "numbers_word", "parent_in", "parts_in", "pixel_in", "pixel_word", "plain_in", "plain_word", "read_log", "read_row", "region_in", "region_word", "row_line", "stands_behind", "thing_word", "things_in", "truth_in", "truth_word", "word_in"] : List Str)
def lawIx : Nat := 87
def lawAt : Nat := 87
def defs : List Def := ([d_is_number, d_are_numbers, d_is_word, d_common_divisor, d_is_fraction, d_is_below, d_is_part, d_is_pixel, d_is_covered, d_is_rectangle, d_stands_behind, d_bands_of, d_are_one, d_is_region, d_is_name, d_is_count, d_is_figure, d_is_truth, d_is_parent, d_is_board, d_is_clip, d_is_share, d_is_pair, d_are_names, d_is_back, d_is_of, d_fraction_word, d_pixel_word, d_numbers_word, d_region_word] : List Def) ++ ([d_plain_word, d_truth_word, d_clip_word, d_thing_word, d_row_line, d_log_lines, d_figures_in, d_number_in, d_fraction_in, d_parts_in, d_numbers_in, d_pixel_in, d_region_in, d_names_in, d_truth_in, d_parent_in, d_plain_in, d_word_in, d_things_in, d_line_in, d_read_row, d_read_log, d_law_feed, d_law_draw, d_law_pixel, d_law_begin, d_law_state_deed, d_law_deed, d_law_frac_word, d_law_pixel_word] : List Def) ++ ([d_law_numbers_word, d_law_forms, d_law_thing_word, d_law_line, d_law_by_hand, d_law] : List Def)
end S86

/-! plain helpers over the evaluator -/
namespace PL
open PySem PySem.Spec PyProof.Rows L2

theorem pureCall_ok {g : List PV → M PV} {ps : List PV} {p : PV} {st st' : Stor} (h : g ps [] = .ok p st') (hn : noRefs ps = true) (hp : noRef p = true) : pureCall g ps st = .ok p st := by
  unfold pureCall
  rw [if_pos hn, h]
  dsimp only
  rw [if_pos hp]
/-- a comprehension whose turns leave the store as it is -/
theorem lcL_map {src : Src} {tg : PV → Env' → M Env'} {cond : Env' → M Bool} {elt : Env' → M PV} {env0 : Env'} {st : Stor} (hs : src.ok st = true) : ∀ (xs : List PV) (ys acc : List PV),
    Paired (fun x y => ∃ env1, tg x env0 st = .ok env1 st ∧ cond env1 st = .ok true st ∧ elt env1 st = .ok y st) xs ys → acc.length + xs.length ≤ sizeLine → lcL src tg cond elt env0 xs acc st = .ok (acc ++ ys) st
  | [], _, acc, .nil, _ => by
    unfold lcL
    rw [if_pos hs, List.append_nil]
  | x :: xs, y :: ys, acc, .cons ⟨env1, h1, h2, h3⟩ t, hl => by
    have ih := lcL_map hs xs ys (acc ++ [y]) t (by simp at hl ⊢; omega)
    unfold lcL
    rw [if_pos hs]
    simp only [M.bind_def, noExc, h1, h2, h3, if_true]
    rw [if_pos (by simp at hl; omega), ih, List.append_assoc]
    rfl
/-- the same where some are left out -/
theorem lcL_filter {src : Src} {tg : PV → Env' → M Env'} {cond : Env' → M Bool} {elt : Env' → M PV} {env0 : Env'} {st : Stor} (hs : src.ok st = true) (keep : PV → Bool) (f : PV → PV) : ∀ (xs acc : List PV),
    (∀ x ∈ xs, ∃ env1, tg x env0 st = .ok env1 st ∧ cond env1 st = .ok (keep x) st ∧ (keep x = true → elt env1 st = .ok (f x) st)) → acc.length + xs.length ≤ sizeLine → lcL src tg cond elt env0 xs acc st = .ok (acc ++ (xs.filter keep).map f) st
  | [], acc, _, _ => by
    unfold lcL
    rw [if_pos hs]; simp
  | x :: xs, acc, h, hl => by
    obtain ⟨env1, h1, h2, h3⟩ := h x List.mem_cons_self
    have rest := fun z hz => h z (List.mem_cons_of_mem _ hz)
    unfold lcL
    rw [if_pos hs]
    cases hk : keep x with
    | true =>
      have ih := lcL_filter hs keep f xs (acc ++ [f x]) rest (by simp at hl ⊢; omega)
      rw [hk] at h2
      simp only [M.bind_def, noExc, h1, h2, if_true, h3 hk]
      rw [if_pos (by simp at hl; omega), ih]
      simp [hk]
    | false =>
      have ih := lcL_filter hs keep f xs acc rest (by simp at hl ⊢; omega)
      rw [hk] at h2
      simp only [M.bind_def, noExc, h1, h2, Bool.false_eq_true, if_false]
      rw [ih]
      simp [hk]
/-- a comprehension whose turns change the store: an invariant by the turn -/
theorem lcL_inv {src : Src} {tg : PV → Env' → M Env'} {cond : Env' → M Bool} {elt : Env' → M PV} {env0 : Env'} (Pv : Nat → List PV → Stor → Prop) (hs : ∀ i acc st, Pv i acc st → src.ok st = true) : ∀ (xs acc : List PV) (i : Nat) (st : Stor), Pv i acc st →
    (∀ j x acc st, xs[j]? = some x → Pv (i + j) acc st → ∃ env1 y st', tg x env0 st = .ok env1 st ∧ cond env1 st = .ok true st ∧ elt env1 st = .ok y st' ∧ Pv (i + j + 1) (acc ++ [y]) st') → acc.length + xs.length ≤ sizeLine →
    ∃ ys st', lcL src tg cond elt env0 xs acc st = .ok ys st' ∧ Pv (i + xs.length) ys st' ∧ ys.length = acc.length + xs.length
  | [], acc, i, st, p, _, _ => by
    refine ⟨acc, st, ?_, p, rfl⟩
    unfold lcL
    rw [if_pos (hs _ _ _ p)]
  | x :: xs, acc, i, st, p, h, hl => by
    obtain ⟨env1, y, st', h1, h2, h3, p'⟩ := h 0 x acc st rfl p
    obtain ⟨ys, st2, q1, q2, q3⟩ := lcL_inv Pv hs xs (acc ++ [y]) (i + 1) st' (by simpa using p') (fun j z acc st e q => by
      have := h (j + 1) z acc st (by simpa using e) (by rw [show i + (j + 1) = i + 1 + j by omega]; exact q)
      rw [show i + (j + 1) + 1 = i + 1 + j + 1 by omega] at this
      exact this) (by simp at hl ⊢; omega)
    refine ⟨ys, st2, ?_, by rw [List.length_cons, show i + (xs.length + 1) = i + 1 + xs.length by omega]; exact q2, by rw [q3]; simp; omega⟩
    unfold lcL
    rw [if_pos (hs _ _ _ p)]
    simp only [M.bind_def, noExc, h1, h2, h3, if_true]
    rw [if_pos (by simp at hl; omega), q1]
/-- a loop that runs to its end: an invariant by the turn -/
theorem forL_inv {src : Src} {tg : PV → Env' → M Env'} {body : Env' → M Fl} (Pv : Nat → Env' → Stor → Prop) (hs : ∀ i env st, Pv i env st → src.ok st = true) : ∀ (xs : List PV) (i : Nat) (env : Env') (st : Stor), Pv i env st →
    (∀ j x env st, xs[j]? = some x → Pv (i + j) env st → ∃ env1 st1 env2 st2, tg x env st = .ok env1 st1 ∧ (body env1 st1 = .ok (.nx env2) st2 ∨ body env1 st1 = .ok (.ct env2) st2) ∧ Pv (i + j + 1) env2 st2) →
    ∃ env' st', forL src tg body xs env st = .ok (.nx env') st' ∧ Pv (i + xs.length) env' st'
  | [], i, env, st, p, _ => by
    refine ⟨env, st, ?_, p⟩
    unfold forL
    rw [if_pos (hs _ _ _ p)]
  | x :: xs, i, env, st, p, h => by
    obtain ⟨env1, st1, env2, st2, h1, h2, p'⟩ := h 0 x env st rfl p
    obtain ⟨env', st', q1, q2⟩ := forL_inv Pv hs xs (i + 1) env2 st2 (by simpa using p') fun j z env st e q => by
      have := h (j + 1) z env st (by simpa using e) (by rw [show i + (j + 1) = i + 1 + j by omega]; exact q)
      rw [show i + (j + 1) + 1 = i + 1 + j + 1 by omega] at this
      exact this
    refine ⟨env', st', ?_, by rw [List.length_cons, show i + (xs.length + 1) = i + 1 + xs.length by omega]; exact q2⟩
    unfold forL
    rw [if_pos (hs _ _ _ p)]
    simp only [M.bind_def, h1]
    rcases h2 with h2 | h2 <;> (simp only [h2]; exact q1)
end PL

/-! PL, part T: data of values that hold nothing that can change; how long their reprs are. -/
namespace PL
open PySem PySem.Spec PyProof.Rows L2

theorem toDn_toD : ∀ (n : Nat) (st : Stor) (p : PV), noRef p = true → toDn n st p = toD [] p
  | n, st, p => by
    have base : (∀ p : PV, toD st p = toD [] p) ∧ (∀ ps : List PV, toDs st ps = toDs [] ps) := by
      have one : ∀ p : PV, toD st p = toD [] p := fun p =>
        PV.rec (motive_1 := fun p => toD st p = toD [] p) (motive_2 := fun ps => toDs st ps = toDs [] ps)
          (by simp only [toD]) (fun b => by simp only [toD]) (fun b => by simp only [toD]) (fun b => by simp only [toD])
          (fun xs ih => by simp only [toD, ih]) (fun xs ih => by simp only [toD, ih]) (fun b => by simp only [toD]) (fun b => by simp only [toD]) (fun b => by simp only [toD]) (fun b => by simp only [toD])
          (by simp only [toDs]) (fun x xs h1 h2 => by simp only [toDs, h1, h2]) p
      refine ⟨one, fun ps => ?_⟩
      induction ps with
      | nil => simp only [toDs]
      | cons x xs ih => simp only [toDs, one x, ih]
    induction n generalizing p with
    | zero => intro _; unfold toDn; exact base.1 p
    | succ n ih =>
      intro h
      have all : ∀ xs : List PV, noRefs xs = true → optAll (toDn n st) xs = toDs [] xs := by
        intro xs
        induction xs with
        | nil => intro _; simp only [optAll, toDs]
        | cons x xs ihx =>
          intro hx
          simp only [noRefs, Bool.and_eq_true] at hx
          simp only [optAll, toDs, ih x hx.1, ihx hx.2]
          cases toD [] x <;> cases toDs [] xs <;> rfl
      cases p with
      | tup xs => simp only [noRef] at h; unfold toDn; simp only [toD, all xs h]
      | lst xs => simp only [noRef] at h; unfold toDn; simp only [toD, all xs h]
      | ref l => simp only [noRef] at h; cases h
      | _ => unfold toDn; exact base.1 _
/-- data whose repr is told, so deep, so long -/
structure Okd (D B : Nat) (d : PyData) : Prop where
  s : d.showable = true
  h : d.hasDict = false
  l : d.canLay0 = true
  dp : d.depth ≤ D
  b : d.shown.length ≤ B
theorem join_le (B : Nat) : ∀ ts : List Str, (∀ t ∈ ts, t.length ≤ B) → (Str.join ", " ts).length ≤ ts.length * (B + 2)
  | [], _ => by
    show (Str.ofString "").length ≤ _
    rw [show (Str.ofString "").length = 0 from rfl]; omega
  | [x], h => by
    have := h x List.mem_cons_self
    show x.length ≤ _
    simp; omega
  | x :: y :: r, h => by
    have ih := join_le B (y :: r) fun t ht => h t (List.mem_cons_of_mem _ ht)
    have hx := h x List.mem_cons_self
    show (x ++ ", " ++ Str.join ", " (y :: r)).length ≤ _
    have e2 : ((", " : String) : Str).length = 2 := rfl
    rw [strLen_append, strLen_append, e2]
    simp only [List.length_cons, Nat.add_mul] at ih ⊢
    omega
theorem shownAll_le {B : Nat} : ∀ ds : List PyData, (∀ d ∈ ds, d.shown.length ≤ B) → (PyData.shownAll ds).length = ds.length ∧ ∀ t ∈ PyData.shownAll ds, t.length ≤ B
  | [], _ => by simp [PyData.shownAll]
  | d :: ds, h => by
    obtain ⟨h1, h2⟩ := shownAll_le ds fun e he => h e (List.mem_cons_of_mem _ he)
    refine ⟨by simp [PyData.shownAll, h1], fun t ht => ?_⟩
    simp only [PyData.shownAll, List.mem_cons] at ht
    rcases ht with rfl | ht
    · exact h d List.mem_cons_self
    · exact h2 t ht
theorem tuple_len {B : Nat} (ts : List Str) (h : ∀ t ∈ ts, t.length ≤ B) : (tupleText ts).length ≤ ts.length * (B + 2) + 3 := by
  have j := join_le B ts h
  unfold tupleText
  rw [strLen_append, strLen_append]
  have e1 : ((("(" : String) : Str)).length = 1 := rfl
  have e3 : (((if ts.length == 1 then ",)" else ")" : String) : Str)).length ≤ 2 := by split <;> decide
  omega
theorem textFrom_le (B : Nat) : ∀ (ts : List Str) (k : Nat) (acc : Str), (∀ t ∈ ts, t.length ≤ B) → (textFrom k acc ts).length ≤ acc.length + ts.length * (B + 2)
  | [], k, acc, _ => by simp [textFrom]
  | t :: ts, k, acc, h => by
    have ih := textFrom_le B ts (k + 1) (acc ++ (if k > 0 then ", " else "" : String) ++ t) fun u hu => h u (List.mem_cons_of_mem _ hu)
    have ht := h t List.mem_cons_self
    have e : (acc ++ (if k > 0 then ", " else "" : String) ++ t).length ≤ acc.length + 2 + t.length := by
      rw [strLen_append, strLen_append]
      have : ((((if k > 0 then ", " else "" : String)) : Str)).length ≤ 2 := by split <;> decide
      omega
    show (textFrom (k + 1) _ ts).length ≤ _
    simp only [List.length_cons, Nat.add_mul]
    omega
theorem list_len {B : Nat} (ts : List Str) (h : ∀ t ∈ ts, t.length ≤ B) : (listText ts).length ≤ ts.length * (B + 2) + 3 := by
  have j := textFrom_le B ts 0 (("[" : String) : Str) h
  unfold listText
  rw [strLen_append]
  have e1 : ((("[" : String) : Str)).length = 1 := rfl
  have e2 : ((("]" : String) : Str)).length = 1 := rfl
  omega
theorem Okd.alls {D B : Nat} : ∀ {ds : List PyData}, (∀ d ∈ ds, Okd D B d) → PyData.showableAll ds = true ∧ PyData.hasDictAll ds = false ∧ PyData.canLayAll0 ds = true ∧ PyData.depthAll ds ≤ D
  | [], _ => by simp [PyData.showableAll, PyData.hasDictAll, PyData.canLayAll0, PyData.depthAll]
  | d :: ds, h => by
    obtain ⟨h1, h2, h3, h4⟩ := Okd.alls (ds := ds) fun e he => h e (List.mem_cons_of_mem _ he)
    have o := h d List.mem_cons_self
    simp [PyData.showableAll, PyData.hasDictAll, PyData.canLayAll0, PyData.depthAll, h1, h2, h3, o.s, o.h, o.l]
    have := o.dp
    omega
theorem Okd.tuple {D B N : Nat} {ds : List PyData} (h : ∀ d ∈ ds, Okd D B d) (hn : ds.length * (B + 2) + 3 ≤ N) : Okd (D + 1) N (.tuple ds) := by
  obtain ⟨h1, h2, h3, h4⟩ := Okd.alls h
  obtain ⟨l1, l2⟩ := shownAll_le ds fun d hd => (h d hd).b
  have := tuple_len _ l2
  rw [l1] at this
  exact ⟨by simpa [PyData.showable] using h1, by simpa [PyData.hasDict] using h2, by simpa [PyData.canLay0] using h3, by simp [PyData.depth]; exact h4, by simp only [PyData.shown]; omega⟩
theorem Okd.list {D B N : Nat} {ds : List PyData} (h : ∀ d ∈ ds, Okd D B d) (hn : ds.length * (B + 2) + 3 ≤ N) : Okd (D + 1) N (.list ds) := by
  obtain ⟨h1, h2, h3, h4⟩ := Okd.alls h
  obtain ⟨l1, l2⟩ := shownAll_le ds fun d hd => (h d hd).b
  have := list_len _ l2
  rw [l1] at this
  exact ⟨by simpa [PyData.showable] using h1, by simpa [PyData.hasDict] using h2, by simpa [PyData.canLay0] using h3, by simp [PyData.depth]; exact h4, by simp only [PyData.shown]; omega⟩
theorem Okd.mono {D B D' B' : Nat} {d : PyData} (h : Okd D B d) (h1 : D ≤ D') (h2 : B ≤ B') : Okd D' B' d := ⟨h.s, h.h, h.l, Nat.le_trans h.dp h1, Nat.le_trans h.b h2⟩
/-- a word of plain signs -/
def asc (w : Str) : Bool := w.cps.toList.all fun c => decide (c < 127)
theorem Okd.str {w : Str} {N : Nat} (h : asc w = true) (hn : 10 * w.length + 2 ≤ N) : Okd 0 N (.str w) := by
  have h' : ∀ c ∈ w.cps.toList, c < 127 := by
    intro c hc
    have := List.all_eq_true.mp h c hc
    simpa using this
  have := StrLaws.reprText_len w fun c hc => by have := h' c hc; omega
  refine ⟨by simp [PyData.showable], by simp [PyData.hasDict], ?_, by simp [PyData.depth], by simp only [PyData.shown]; omega⟩
  simp only [PyData.canLay0, PyData.strOk]
  rw [← Array.all_toList]
  exact List.all_eq_true.mpr fun c hc => by have := h' c hc; simp; omega
theorem Okd.reprD {D B : Nat} {d : PyData} (h : Okd D B d) (h1 : D ≤ 40) (h2 : B ≤ sizeLine) : reprD d = some d.shown := by
  have q1 : d.depth ≤ 40 := Nat.le_trans h.dp h1
  have q2 : d.shown.length ≤ sizeLine := Nat.le_trans h.b h2
  unfold PL.reprD
  simp [h.s, h.h, q1, q2]
theorem Okd.shaped {D B : Nat} {d : PyData} (h : Okd D B d) (h1 : D ≤ 64) : SeqAt.shaped d = true := by
  have q1 : d.depth ≤ 64 := Nat.le_trans h.dp h1
  unfold SeqAt.shaped
  simp [h.l, q1]
/-- data, checked -/
def okB (D B : Nat) (d : PyData) : Bool := d.showable && !d.hasDict && d.canLay0 && decide (d.depth ≤ D) && decide (d.shown.length ≤ B)
theorem okB_of {D B : Nat} {d : PyData} (h : okB D B d = true) : Okd D B d := by
  unfold okB at h
  simp only [Bool.and_eq_true, decide_eq_true_eq, Bool.not_eq_true'] at h
  obtain ⟨⟨⟨⟨h1, h2⟩, h3⟩, h4⟩, h5⟩ := h
  exact ⟨h1, h2, h3, h4, h5⟩
/-- what repr and == say of values with data -/
theorem repr_val {D B : Nat} {p : PV} {d : PyData} {st : Stor} (hd : toDn 3 st p = some d) (h : Okd D B d) (h1 : D ≤ 40) (h2 : B ≤ sizeLine) : reprV PL.reprD [p] st = .ok (.str d.shown) st := by
  unfold reprV
  simp [hd, h.reprD h1 h2]
theorem eq_val {D B : Nat} {p q : PV} {d : PyData} {st : Stor} {ng : Bool} (hf : eqF p q = none) (hp : toDn 3 st p = some d) (hq : toDn 3 st q = some d) (h : Okd D B d) (h1 : D ≤ 64) (refl : eqvS d d = true) : PL.eqV ng p q st = .ok (.bl (true != ng)) st := by
  unfold PL.eqV
  rw [hf]
  unfold eqD
  simp [hp, hq, h.shaped h1, refl]
mutual
theorem eqvS_refl : ∀ d : PyData, d.hasDict = false → eqvS d d = true
  | .none, _ => by simp [eqvS]
  | .bool b, _ => by simp [eqvS]
  | .int i, _ => by simp [eqvS]
  | .str x, _ => by simp [eqvS]
  | .list xs, h => by simp only [eqvS]; exact eqvSs_refl xs (by simpa [PyData.hasDict] using h)
  | .tuple xs, h => by simp only [eqvS]; exact eqvSs_refl xs (by simpa [PyData.hasDict] using h)
  | .dict _, h => by simp [PyData.hasDict] at h
theorem eqvSs_refl : ∀ ds : List PyData, PyData.hasDictAll ds = false → eqvSs ds ds = true
  | [], _ => by simp [eqvSs]
  | d :: ds, h => by
    simp only [PyData.hasDictAll, Bool.or_eq_false_iff] at h
    simp [eqvSs, eqvS_refl d h.1, eqvSs_refl ds h.2]
end
end PL

/-! PL, part U: a def's body, statement by statement, to what it hands back. -/
namespace PL
open PySem PySem.Spec PyProof.Rows L2
section
variable {C : Cfg} {R : PyData → Option Str} {wf : Nat} {s : LS} {r a b : LSs} {c : LE} {env e : Env'} {st st' : Stor} {Q : PV → Stor → Prop} {p : PV}
/-- it hands back something of which Q is true -/
def WR (m : M Fl) (st : Stor) (Q : PV → Stor → Prop) : Prop := ∃ p st', m st = .ok (.ret p) st' ∧ Q p st'
theorem WR.nx (h : evS C R wf s env st = .ok (.nx e) st') (k : WR (evSs C R wf r e) st' Q) : WR (evSs C R wf (.cons s r) env) st Q := by
  obtain ⟨p, st2, e1, q⟩ := k
  refine ⟨p, st2, ?_, q⟩
  simp only [evSs, M.bind_def, h]
  exact e1
theorem WR.rt (h : evS C R wf s env st = .ok (.ret p) st') (q : Q p st') : WR (evSs C R wf (.cons s r) env) st Q := by
  refine ⟨p, st', ?_, q⟩
  simp only [evSs, M.bind_def, h]
  rfl
theorem WR.ifT (h : (ev C R c).t env st = .ok true st') (k : WR (evSs C R wf a env) st' Q) : WR (evSs C R wf (.cons (.ifs c a b) r) env) st Q := by
  obtain ⟨p, st2, e1, q⟩ := k
  refine ⟨p, st2, ?_, q⟩
  simp only [evSs, evS, M.bind_def, h, if_true, e1]
  rfl
theorem WR.ifE (h : (ev C R c).t env st = .ok false st') (k : WR (evSs C R wf b env) st' Q) : WR (evSs C R wf (.cons (.ifs c a b) r) env) st Q := by
  obtain ⟨p, st2, e1, q⟩ := k
  refine ⟨p, st2, ?_, q⟩
  simp only [evSs, evS, M.bind_def, h, Bool.false_eq_true, if_false, e1]
  rfl
theorem WR.ifF (h : (ev C R c).t env st = .ok false st') (k : WR (evSs C R wf r env) st' Q) : WR (evSs C R wf (.cons (.ifs c a .nil) r) env) st Q := by
  obtain ⟨p, st2, e1, q⟩ := k
  refine ⟨p, st2, ?_, q⟩
  simp only [evSs, evS, M.bind_def, h, Bool.false_eq_true, if_false]
  exact e1
theorem WR.run {d : Def} {ps : List PV} (hl : ps.length = d.params.length) (h : WR (evSs C R wf d.body (ps.map some ++ List.replicate (d.slots.length - ps.length) none)) st Q) : ∃ p st', runDef C R wf d ps st = .ok p st' ∧ Q p st' := by
  obtain ⟨p, st2, e1, q⟩ := h
  refine ⟨p, st2, ?_, q⟩
  unfold runDef
  rw [if_pos hl, e1]
theorem WR.mono {m : M Fl} {Q' : PV → Stor → Prop} (h : WR m st Q) (i : ∀ p st, Q p st → Q' p st) : WR m st Q' := by
  obtain ⟨p, st2, e1, q⟩ := h
  exact ⟨p, st2, e1, i _ _ q⟩
end
end PL

/-! PL, part V: expressions and statements by their parts. -/
namespace PL
open PySem PySem.Spec PyProof.Rows L2
section
variable {C : Cfg} {R : PyData → Option Str} {wf : Nat} {env env1 : Env'} {st st1 st2 st3 : Stor}
theorem ev_comp {nw : Bool} {own : List (Str × Nat)} {elt : LE} {tg : LT} {it : LI} {cs : LEs} {s : Src} {ys : List PV} {p : PV} (h1 : evi C R it env st = .ok s st1)
    (h2 : lcL s (asgT tg) (evc C R cs) (ev C R elt).e (wipeE env (own.map (·.2))) s.items [] st1 = .ok ys st2) (h3 : mkL nw ys st2 = .ok p st3) : (ev C R (.comp nw own elt tg it cs)).e env st = .ok p st3 := by
  simp only [ev, EV.mk', M.bind_def, h1, h2, h3]
theorem ev_bin {nw : Bool} {o : BOp} {a b : LE} {x y z : PV} (h1 : (ev C R a).e env st = .ok x st1) (h2 : (ev C R b).e env st1 = .ok y st2) (h3 : o.f nw x y st2 = .ok z st3) : (ev C R (.bin nw o a b)).e env st = .ok z st3 := by
  simp only [ev, EV.mk', M.bind_def, h1, h2, h3]
theorem evS_asg {t : LT} {e : LE} {p : PV} (h1 : (ev C R e).e env st = .ok p st1) (h2 : asgT t p env st1 = .ok env1 st2) : evS C R wf (.asg t e) env st = .ok (.nx env1) st2 := by
  simp only [evS, M.bind_def, h1, h2]
  rfl
theorem evS_fr {t : LT} {it : LI} {body : LSs} {s : Src} {f : Fl} (h1 : evi C R it env st = .ok s st1) (h2 : forL s (asgT t) (evSs C R wf body) s.items env st1 = .ok f st2) : evS C R wf (.fr t it body) env st = .ok f st2 := by
  simp only [evS, M.bind_def, h1, h2]
theorem ev_call {pu : Bool} {x : Str} {es : LEs} {ps : List PV} {p : PV} (h1 : evs C R es env st = .ok ps st1) (h2 : C.call pu x ps st1 = .ok p st2) : (ev C R (.call pu x es)).e env st = .ok p st2 := by
  simp only [ev, EV.mk', M.bind_def, h1, h2]
end
theorem eqD_val {D B : Nat} {p q : PV} {d : PyData} {st : Stor} (hp : toDn 3 st p = some d) (hq : toDn 3 st q = some d) (h : Okd D B d) (h1 : D ≤ 64) : eqD st p q = some true := by
  unfold eqD
  simp [hp, hq, h.shaped h1, eqvS_refl _ h.h]
theorem pair_at {α β : Type} {P : α → β → Prop} {xs : List α} {ys : List β} (h : Paired P xs ys) : ∀ (i : Nat) (x : α) (y : β), xs[i]? = some x → ys[i]? = some y → P x y := by
  induction h with
  | nil => intro i x y h1; simp at h1
  | cons a t ih =>
    intro i x y h1 h2
    cases i with
    | zero => simp at h1 h2; subst h1 h2; exact a
    | succ i => exact ih i x y (by simpa using h1) (by simpa using h2)
theorem pair_length {α β : Type} {P : α → β → Prop} {xs : List α} {ys : List β} (h : Paired P xs ys) : xs.length = ys.length := by
  induction h with
  | nil => rfl
  | cons a t ih => simp [ih]
theorem pairs_of {α β : Type} {P : α → β → Prop} : ∀ {xs : List α}, (∀ x ∈ xs, ∃ y, P x y) → ∃ ys, Paired P xs ys
  | [], _ => ⟨[], .nil⟩
  | x :: xs, h => by
    obtain ⟨y, hy⟩ := h x List.mem_cons_self
    obtain ⟨ys, hys⟩ := pairs_of fun z hz => h z (List.mem_cons_of_mem _ hz)
    exact ⟨y :: ys, .cons hy hys⟩
theorem pair_map {α β γ : Type} {P : α → β → Prop} {Q : α → γ → Prop} {f : β → γ} (i : ∀ a b, P a b → Q a (f b)) : ∀ {xs : List α} {ys : List β}, Paired P xs ys → Paired Q xs (ys.map f)
  | _, _, .nil => .nil
  | _, _, .cons a t => .cons (i _ _ a) (pair_map i t)
theorem pair_mem {α β : Type} {P : α → β → Prop} : ∀ {xs : List α} {ys : List β}, Paired P xs ys → (∀ y ∈ ys, ∃ x ∈ xs, P x y) ∧ ∀ x ∈ xs, ∃ y ∈ ys, P x y
  | _, _, .nil => ⟨by simp, by simp⟩
  | _, _, .cons a t => by
    obtain ⟨h1, h2⟩ := pair_mem t
    refine ⟨fun y hy => ?_, fun x hx => ?_⟩
    · rcases List.mem_cons.mp hy with rfl | hy
      · exact ⟨_, List.mem_cons_self, a⟩
      · obtain ⟨x, h3, h4⟩ := h1 y hy
        exact ⟨x, List.mem_cons_of_mem _ h3, h4⟩
    · rcases List.mem_cons.mp hx with rfl | hx
      · exact ⟨_, List.mem_cons_self, a⟩
      · obtain ⟨y, h3, h4⟩ := h2 x hx
        exact ⟨y, List.mem_cons_of_mem _ h3, h4⟩
end PL

namespace S86
open PySem PySem.Spec PyProof.Rows L2 PL
def R (n : Nat) (d : Def) := runDef ⟨G, fnsL, callsN G reprD 100 defs n⟩ reprD 100 d
theorem eF : defs.map (·.name) = fnsL := rfl
theorem c_law_forms (n : Nat) : callsN G reprD 100 defs (n + 1) "_law_forms" = some (R n d_law_forms) := by rfl
theorem c_law_thing_word (n : Nat) : callsN G reprD 100 defs (n + 1) "_law_thing_word" = some (R n d_law_thing_word) := by rfl
theorem cut1 (x : PV) (xs : List PV) : cutP (x :: xs) (some 1) none = xs := by
  unfold cutP
  have e1 : HT.sIx (x :: xs).length 0 (some 1) = 1 := by
    have := HT.sIx_nat (x :: xs).length 0 1
    rw [show ((1 : Nat) : Int) = 1 from rfl] at this
    rw [this]; simp
  rw [e1, HT.sIx_none]
  simp
/-- three rows side by side -/
inductive All3 {α β γ : Type} (P : α → β → γ → Prop) : List α → List β → List γ → Prop
  | nil : All3 P [] [] []
  | cons {a b c as bs cs} (h : P a b c) (t : All3 P as bs cs) : All3 P (a :: as) (b :: bs) (c :: cs)
theorem All3.len {α β γ : Type} {P : α → β → γ → Prop} {as : List α} {bs : List β} {cs : List γ} (h : All3 P as bs cs) : as.length = bs.length ∧ cs.length = bs.length := by
  induction h with
  | nil => exact ⟨rfl, rfl⟩
  | cons _ _ ih => exact ⟨by simp [ih.1], by simp [ih.2]⟩
theorem zip_all3 {P : PV → PV → Str → Prop} {fs ps : List PV} {ws : List Str} (h : All3 P fs ps ws) : Paired (fun x y => ∃ f p w, x = PV.tup [f, p] ∧ y = PV.str w ∧ P f p w) (zipL fs ps) (ws.map PV.str) := by
  induction h with
  | nil => exact .nil
  | cons h _ ih => exact .cons ⟨_, _, _, rfl, rfl, h⟩ ih
theorem pair_imp {P Q : PV → PV → Prop} (h : ∀ x y, P x y → Q x y) : ∀ {xs ys : List PV}, Paired P xs ys → Paired Q xs ys
  | _, _, .nil => .nil
  | _, _, .cons a t => .cons (h _ _ a) (pair_imp h t)
theorem asgT_nm (i : Nat) (p : PV) (env : Env') : asgT (.nm i) p env = pureR (env.set i (some p)) := by simp only [asgT]
def TW (g : List PV → M PV) (f p : PV) (w : Str) : Prop := noRef f = true ∧ noRef p = true ∧ ∃ st, g [f, p] [] = .ok (.str w) st
theorem law_line_ok {n : Nat} {word : Str} {ps : List PV} {ws : List Str} {l : Nat} {st0 : Stor} {kvs : List (Key × PV)} {fs : List PV} (h0 : R n d_law_forms [] [] = .ok (.ref l) st0) (h1 : st0[l]? = some (.dct kvs)) (h2 : valP kvs (.inr word) = some (.lst fs))
    (hz : ps.length < 100) (hp : All3 (TW (R n d_law_thing_word)) fs ps ws) (hb : (word.length + (ws.map (·.length)).sum) + (ws.length + 1) ≤ 16777216) :
    R (n + 1) d_law_line [.tup (.str word :: ps)] [] = .ok (.str (Txt.join " " (word :: ws))) st0 := by
  obtain ⟨l1, l2⟩ := hp.len
  have q1 : (1 : Nat) ≤ sizeLine := by decide
  have q2 : ps.length ≤ sizeLine := by rw [sizeLine_eq]; omega
  have q3 : ws.length ≤ sizeLine := by rw [sizeLine_eq]; omega
  have q4 : ws.length + 1 ≤ sizeLine := by rw [sizeLine_eq]; omega
  have txt : ∀ zs : List Str, texts (zs.map PV.str) = some zs := fun zs => by
    induction zs with
    | nil => rfl
    | cons a b ih => simp [texts, ih]
  unfold R runDef
  simp [d_law_line, evSs, evS, ev, EV.mk', evs, evi, evo, evc, M.bind_def, look, pureR, Cfg.call, c_law_forms, h0, ixV, ixD, seqA, seqL, seqM, h1, h2, atI, ixN, keyP, asgT_nm, chkM, tyM, mkL, partOf, slV, cut1, mkT, srcA, srcZip, locsOf, q1, q2]
  rw [lcL_map (by rfl) _ (ws.map PV.str) _ (pair_imp ?_ (zip_all3 hp)) (by rw [zip_len, sizeLine_eq]; simp; omega)]
  · simp [BOp.f, addV, seqM, mkL, q3, q4, mtV, joinV, seqA, seqL, texts, txt, Function.comp_def, hb]
    rw [if_pos (by rw [show (Str.ofString " ").length = 1 from rfl]; omega)]
    rfl
  · rintro x y ⟨f, p, w, rfl, rfl, n1, n2, st, e⟩
    refine ⟨[some (.tup (.str word :: ps)), some (.lst fs), some f, some p], ?_, rfl, ?_⟩
    · rfl
    · simp [M.bind_def, look, pureR, c_law_thing_word]
      exact pureCall_ok e (by simp [noRefs, n1, n2]) rfl
theorem c_thing_word (n : Nat) : callsN G reprD 100 defs (n + 1) "thing_word" = some (R n d_thing_word) := by rfl
theorem txts : ∀ zs : List Str, texts (zs.map PV.str) = some zs
  | [] => rfl
  | a :: b => by simp [texts, txts b]
end S86

namespace S86
open PySem PySem.Spec PyProof.Rows L2 PL
theorem asgT_star (pre post : LTs) (j : Nat) (xs : List PV) (env : Env') (st : Stor) (h : ltsLen pre + ltsLen post ≤ xs.length) : asgT (.star pre j post) (.tup xs) env st = (asgTs pre (xs.take (ltsLen pre)) env >>= fun env1 => asgTs post (xs.drop (xs.length - ltsLen post)) (env1.set j (some (.lst ((xs.drop (ltsLen pre)).take (xs.length - ltsLen pre - ltsLen post)))))) st := by
  simp only [asgT, seqA, h, if_true]
theorem asgTs_nil (env : Env') : asgTs .nil [] env = pureR env := by simp only [asgTs]
theorem asgTs_cons (t : LT) (r : LTs) (x : PV) (xs : List PV) (env : Env') : asgTs (.cons t r) (x :: xs) env = (asgT t x env >>= fun env1 => asgTs r xs env1) := by simp only [asgTs]
def FORMSd : List (Str × PV) := (gdicts.lookup (Str.ofString "FORMS")).getD []
/-- the forms of a word, by the program's tables -/
def formsP (word : Str) : Option (List PV) := if word = "court" then some [.str "count", .str "count", .str "back", .str "count", .str "count"] else match FORMSd.lookup word with
  | some (PV.tup fs) => some fs
  | _ => none
theorem eq_str (ng : Bool) (st : Stor) (x y : Str) : PL.eqV ng (.str x) (.str y) st = .ok (.bl ((x == y) != ng)) st := by
  simp [PL.eqV, eqF]
theorem forms_at {word : Str} {fs : List PV} (h : formsP word = some fs) : (word = "court" ∧ fs = [.str "count", .str "count", .str "back", .str "count", .str "count"]) ∨ (word ≠ "court" ∧ FORMSd.lookup word = some (PV.tup fs)) := by
  unfold formsP at h
  split at h
  · rename_i e; cases h; exact .inl ⟨e, rfl⟩
  · rename_i e
    split at h
    · rename_i e2; cases h; exact .inr ⟨e, e2⟩
    · cases h
theorem G_forms : G.dicts.lookup (Str.ofString "FORMS") = some FORMSd := by rfl
theorem row_line_ok {n : Nat} {word : Str} {ps : List PV} {ws : List Str} {fs : List PV} (h2 : formsP word = some fs)
    (hz : ps.length < 100) (hp : All3 (TW (R n d_thing_word)) fs ps ws) (hb : (word.length + (ws.map (·.length)).sum) + (ws.length + 1) ≤ 16777216) :
    R (n + 1) d_row_line [.tup (.str word :: ps)] [] = .ok (.str (Txt.join " " (word :: ws))) [] := by
  obtain ⟨l1, l2⟩ := hp.len
  have q1 : (1 : Nat) ≤ sizeLine := by decide
  have q2 : ps.length ≤ sizeLine := by rw [sizeLine_eq]; omega
  have q3 : ws.length ≤ sizeLine := by rw [sizeLine_eq]; omega
  have q4 : ws.length + 1 ≤ sizeLine := by rw [sizeLine_eq]; omega
  have s1 : asgT (.star (.cons (.nm 2) .nil) 3 .nil) (.tup (.str word :: ps)) [some (.tup (.str word :: ps)), none, none, none, none, none] [] = .ok [some (.tup (.str word :: ps)), none, some (.str word), some (.lst ps), none, none] [] := by
    rw [asgT_star _ _ _ _ _ _ (by simp [ltsLen])]
    simp [ltsLen, asgTs_cons, asgTs_nil, asgT_nm, M.bind_def, pureR]
  rcases forms_at h2 with ⟨rfl, rfl⟩ | ⟨hne, hlk⟩
  · unfold R runDef
    simp [d_row_line, evSs, evS, ev, EV.mk', EV.cmp, evs, evi, evo, evc, M.bind_def, look, pureR, s1, COp.f, eq_str, boolOf, asgT_nm, Cfg.call, ixV, ixD, chkM, tyM, mkL, seqA, seqL, seqM, srcA, srcZip, locsOf, q1, q2, l1]
    rw [lcL_map (by rfl) _ (ws.map PV.str) _ (pair_imp ?_ (zip_all3 hp)) (by rw [zip_len, sizeLine_eq]; simp; omega)]
    · simp [BOp.f, addV, seqM, mkL, q3, q4, mtV, joinV, seqA, seqL, texts, txts, Function.comp_def, hb]
      rw [if_pos (by rw [show (Str.ofString " ").length = 1 from rfl]; omega)]
      rfl
    · rintro x y ⟨f, p, w, rfl, rfl, n1, n2, st, e⟩
      refine ⟨[some (.tup (.str "court" :: ps)), some (.tup [.str "count", .str "count", .str "back", .str "count", .str "count"]), some (.str "court"), some (.lst ps), some f, some p], ?_, rfl, ?_⟩
      · rfl
      · simp [M.bind_def, look, pureR, c_thing_word]
        exact pureCall_ok e (by simp [noRefs, n1, n2]) rfl
  · have hne' : (word == Str.ofString "court") = false := beq_eq_false_iff_ne.mpr hne
    unfold R runDef
    simp [d_row_line, evSs, evS, ev, EV.mk', EV.cmp, evs, evi, evo, evc, M.bind_def, look, pureR, s1, COp.f, eq_str, hne', boolOf, asgT_nm, Cfg.call, ixV, ixD, G_forms, hlk, chkM, tyM, mkL, seqA, seqL, seqM, srcA, srcZip, locsOf, q1, q2, l1]
    rw [lcL_map (by rfl) _ (ws.map PV.str) _ (pair_imp ?_ (zip_all3 hp)) (by rw [zip_len, sizeLine_eq]; simp; omega)]
    · simp [BOp.f, addV, seqM, mkL, q3, q4, mtV, joinV, seqA, seqL, texts, txts, Function.comp_def, hb]
      rw [if_pos (by rw [show (Str.ofString " ").length = 1 from rfl]; omega)]
      rfl
    · rintro x y ⟨f, p, w, rfl, rfl, n1, n2, st, e⟩
      refine ⟨[some (.tup (.str word :: ps)), some (.tup fs), some (.str word), some (.lst ps), some f, some p], ?_, rfl, ?_⟩
      · rfl
      · simp [M.bind_def, look, pureR, c_thing_word]
        exact pureCall_ok e (by simp [noRefs, n1, n2]) rfl
end S86

namespace S86
open PySem PySem.Spec PyProof.Rows L2 PL
theorem c_word_in (n : Nat) : callsN G reprD 100 defs (n + 1) "word_in" = some (R n d_word_in) := by rfl
/-- a word is read back: as a row of one thing, which is not the empty row -/
def RW (g : List PV → M PV) (f p : PV) (w : Str) : Prop := noRef f = true ∧ noRef p = true ∧ (∀ st, PL.eqV false (.tup [p]) (.tup []) st = .ok (.bl false) st) ∧ ∃ st, g [f, .str w] [] = .ok (.tup [p]) st
theorem enumL_get : ∀ (xs : List PV) (k : Int) (j : Nat), (enumL k xs)[j]? = (xs[j]?).map fun x => .tup [.int (k + j), x]
  | [], k, j => by simp [enumL]
  | x :: xs, k, 0 => by simp [enumL]
  | x :: xs, k, j + 1 => by
    simp only [enumL, List.getElem?_cons_succ]
    rw [enumL_get xs (k + 1) j]
    have : k + 1 + (j : Int) = k + ((j + 1 : Nat) : Int) := by omega
    rw [this]
theorem All3.at {α β γ : Type} {P : α → β → γ → Prop} {as : List α} {bs : List β} {cs : List γ} (h : All3 P as bs cs) : ∀ (j : Nat) (a : α), as[j]? = some a → ∃ b c, bs[j]? = some b ∧ cs[j]? = some c ∧ P a b c := by
  induction h with
  | nil => intro j a h; simp at h
  | cons h _ ih =>
    intro j a e
    cases j with
    | zero => simp at e; subst e; exact ⟨_, _, rfl, rfl, h⟩
    | succ j => simpa using ih j a (by simpa using e)
theorem enumL_len : ∀ (xs : List PV) (k : Int), (enumL k xs).length = xs.length
  | [], _ => rfl
  | x :: xs, k => by simp [enumL, enumL_len xs]
theorem things_in_ok {n : Nat} {row : Int} {word : Str} {ps : List PV} {ws : List Str} {fs : List PV} (hz : ps.length < 100) (hp : All3 (RW (R n d_word_in)) fs ps ws) :
    ∃ st, R (n + 1) d_things_in [.int row, .lst (PV.str word :: ws.map PV.str), .tup fs] [] = .ok (.tup ps) st := by
  obtain ⟨l1, l2⟩ := hp.len
  have q1 : ws.length + 1 ≤ sizeLine := by rw [sizeLine_eq]; omega
  unfold R runDef
  simp [d_things_in, evSs, evS, ev, EV.mk', EV.cmp, evs, evi, evo, evc, M.bind_def, look, pureR, COp.f, boolOf, asgT_nm, Cfg.call, ixV, ixD, chkM, tyM, mkL, seqA, seqL, seqM, srcA, srcEn, locsOf]
  generalize hF : forL _ _ _ _ _ _ = O
  have : ∃ env' st', O = .ok (.nx env') st' ∧ ∃ a b c, env' = [some (PV.int row), some (PV.lst (PV.str word :: List.map PV.str ws)), some (PV.tup fs), some (PV.ref 0), a, b, c] ∧ st' = [PO.lst (ps.take (0 + (enumL 0 fs).length))] := by
    subst hF
    refine forL_inv (Pv := fun i env st => ∃ a b c, env = [some (PV.int row), some (PV.lst (PV.str word :: List.map PV.str ws)), some (PV.tup fs), some (PV.ref 0), a, b, c] ∧ st = [PO.lst (ps.take i)]) (fun _ _ _ _ => rfl) (enumL 0 fs) 0 _ _ ⟨_, _, _, rfl, rfl⟩ ?_
    · rintro j x env st hx ⟨a, b, c, rfl, rfl⟩
      rw [enumL_get] at hx
      obtain ⟨f, hf, rfl⟩ := Option.map_eq_some_iff.mp hx
      obtain ⟨p, w, h1, h2, n1, n2, hq, st, hw⟩ := hp.at j f hf
      refine ⟨_, _, [some (PV.int row), some (PV.lst (PV.str word :: List.map PV.str ws)), some (PV.tup fs), some (PV.ref 0), some (.int j), some f, some (.tup [p])], [PO.lst (ps.take (j + 1))], rfl, .inl ?_, _, _, _, rfl, by simp⟩
      obtain ⟨hj, rfl⟩ := List.getElem?_eq_some_iff.mp h2
      have hc : pureCall (R n d_word_in) [f, .str ws[j]] [PO.lst (ps.take j)] = .ok (.tup [p]) [PO.lst (ps.take j)] := pureCall_ok hw (by simp [noRefs, noRef, n1]) (by simp [noRef, noRefs, n2])
      have nn : (0 : Int) ≤ (j : Int) + 1 := by omega
      have pl : (ps.take j).length + 1 ≤ sizeLine := by rw [sizeLine_eq]; simp; omega
      have tk : ps.take (j + 1) = ps.take j ++ [p] := by rw [List.take_add_one, h1]; rfl
      simp [M.bind_def, nn, look, pureR, BOp.f, addV, biV, lenV, seqA, seqL, seqM, cmpI, boolOf, c_word_in, hc, hq, ixV, ixD, atI, ixN, lenD, hj, asgT_nm, chkM, tyM, mtV, extendV, mkT]
      rw [if_pos (by simpa using pl), tk]
      rfl
  obtain ⟨_, _, rfl, a, b, c, rfl, rfl⟩ := this
  simp [M.bind_def, look, pureR, BOp.f, addV, biV, lenV, seqA, seqL, seqM, cmpI, boolOf, enumL_len, l1, l2, mkT, lenD, tupleV, show ps.length ≤ sizeLine by omega]
end S86

namespace S86
open PySem PySem.Spec PyProof.Rows L2 PL
theorem c_things_in (n : Nat) : callsN G reprD 100 defs (n + 1) "things_in" = some (R n d_things_in) := by rfl
theorem c_line_in (n : Nat) : callsN G reprD 100 defs (n + 1) "line_in" = some (R n d_line_in) := by rfl
theorem G_FORMS_has {word : Str} {fs : PV} (h : FORMSd.lookup word = some fs) : G.dicts.lookup (Str.ofString "FORMS") = some FORMSd := G_forms
theorem nr_strs : ∀ ws : List Str, noRefs (ws.map PV.str) = true
  | [] => rfl
  | a :: b => by simp [noRefs, noRef, nr_strs b]
theorem nr_all {g : List PV → M PV} {fs ps : List PV} {ws : List Str} (h : All3 (RW g) fs ps ws) : noRefs fs = true ∧ noRefs ps = true := by
  induction h with
  | nil => exact ⟨rfl, rfl⟩
  | cons h _ ih => exact ⟨by simp [noRefs, h.1, ih.1], by simp [noRefs, h.2.1, ih.2]⟩
/-- a row's line is read: the program's forms -/
theorem line_in_ok {n : Nat} {row : Int} {cb : Bool} {word line : Str} {ps : List PV} {ws : List Str} {fs : List PV} (h2 : formsP word = some fs) (hcb : word = "court" → cb = true)
    (hl : line.length + 2 ≤ sizeLine) (hs : Txt.split line " " = word :: ws) (hz : ps.length < 100) (hp : All3 (RW (R n d_word_in)) fs ps ws) :
    ∃ st, R (n + 2) d_line_in [.int row, .str line, .bl cb] [] = .ok (.tup (.str word :: ps)) st := by
  obtain ⟨l1, l2⟩ := hp.len
  have q1 : ws.length + 1 ≤ sizeLine := by rw [sizeLine_eq]; omega
  have q2 : 1 + ps.length ≤ sizeLine := by rw [sizeLine_eq]; omega
  obtain ⟨st0, ht⟩ := things_in_ok (row := row) (word := word) hz hp
  have nr : noRefs [PV.int row, PV.lst (PV.str word :: ws.map PV.str), PV.tup fs] = true ∧ noRef (PV.tup ps) = true := by
    exact ⟨by simp [noRefs, noRef, nr_strs, (nr_all hp).1], by simp [noRef, (nr_all hp).2]⟩
  have hc := pureCall_ok (st := []) ht nr.1 nr.2
  have q0 : (1 : Nat) ≤ sizeLine := by decide
  have q3 : ps.length + 1 ≤ sizeLine := by omega
  have b0 : (Str.ofString " ").length = 1 := rfl
  rcases forms_at h2 with ⟨rfl, rfl⟩ | ⟨hne, hlk⟩
  · unfold R runDef
    simp [d_line_in, evSs, evS, ev, EV.mk', EV.cmp, evs, evi, evo, evc, M.bind_def, look, pureR, COp.f, eq_str, boolOf, asgT_nm, Cfg.call, ixV, ixD, chkM, tyM, mtV, splitV, hs, hl, b0, mkL, mkT, seqA, seqL, seqM, srcA, locsOf, atI, ixN, q0, q1, q2, q3, hcb, BOp.f, addV, c_things_in, truthV, truthD, hc]
  · have hne' : (word == Str.ofString "court") = false := beq_eq_false_iff_ne.mpr hne
    unfold R runDef
    simp [d_line_in, evSs, evS, ev, EV.mk', EV.cmp, evs, evi, evo, evc, M.bind_def, look, pureR, COp.f, eq_str, hne', boolOf, asgT_nm, Cfg.call, ixV, ixD, chkM, tyM, mtV, splitV, hs, hl, b0, mkL, mkT, seqA, seqL, seqM, srcA, locsOf, atI, ixN, q0, q1, q2, q3, BOp.f, addV, c_things_in, truthV, G_forms, hlk, inOp, inD, hc]
end S86

namespace S86
open PySem PySem.Spec PyProof.Rows L2 PL
theorem read_row_ok {n : Nat} {word line : Str} {ps : List PV} {ws : List Str} {fs : List PV} (h2 : formsP word = some fs)
    (hl : line.length + 2 ≤ sizeLine) (hs : Txt.split line " " = word :: ws) (hz : ps.length < 100) (hp : All3 (RW (R n d_word_in)) fs ps ws) :
    ∃ st, R (n + 3) d_read_row [.str line] [] = .ok (.tup (.str word :: ps)) st := by
  obtain ⟨st, h⟩ := line_in_ok (row := 0) (cb := true) h2 (fun _ => rfl) hl hs hz hp
  have hc := pureCall_ok (st := []) h rfl (by simp [noRef, noRefs, (nr_all hp).2])
  have e : callsN G reprD 100 defs (n + 3) "line_in" = some (R (n + 2) d_line_in) := rfl
  unfold R runDef
  simp [d_read_row, evSs, evS, ev, EV.mk', evs, M.bind_def, look, pureR, Cfg.call, e, hc]
end S86

namespace S86
open PySem PySem.Spec PyProof.Rows L2 PL
/-- a word without a blank -/
def noBl (w : Str) : Bool := !(w.cps.toList.contains 32)
theorem split_words {ws : List Str} (hne : ws ≠ []) (h : ∀ w ∈ ws, noBl w = true) : Txt.split (Txt.join " " ws) " " = ws := by
  refine TL.split_join (s := 32) (S := []) (by rfl) (by decide +kernel) hne fun p hp => ?_
  have := h p hp
  simp [noBl] at this
  simpa [TL.tl] using this
end S86

namespace S86
open PySem PySem.Spec PyProof.Rows L2 PL
theorem c_row_line (n : Nat) : callsN G reprD 100 defs (n + 1) "row_line" = some (R n d_row_line) := by rfl
def RL (g : List PV → M PV) (row : PV) (line : PV) : Prop := noRef row = true ∧ noRef line = true ∧ ∃ st, g [row] [] = .ok line st
theorem pair_len {P : PV → PV → Prop} : ∀ {xs ys : List PV}, Paired P xs ys → xs.length = ys.length
  | _, _, .nil => rfl
  | _, _, .cons _ t => by simp [pair_len t]
theorem log_lines_ok {n : Nat} {rows lines : List PV} {st0 : Stor} (hz : rows.length < 1000) (hp : Paired (RL (R n d_row_line)) rows lines) :
    R (n + 1) d_log_lines [.tup rows] st0 = .ok (.ref st0.length) (st0 ++ [.lst lines]) := by
  have l := pair_len hp
  unfold R runDef
  simp [d_log_lines, evSs, evS, ev, EV.mk', evs, evi, evo, evc, M.bind_def, look, pureR, Cfg.call, srcA, srcV, seqA, locsOf, mkL, wipeE]
  rw [lcL_map (by rfl) _ lines _ (pair_imp ?_ hp) (by rw [sizeLine_eq]; simp; omega)]
  · have q : lines.length ≤ sizeLine := by rw [sizeLine_eq]; omega
    simp [q, pureR]
  · rintro x y ⟨n1, n2, st, e⟩
    refine ⟨[some (.tup rows), some x], ?_, rfl, ?_⟩
    · simp [asgT_nm, pureR]
    · simp [M.bind_def, look, pureR, c_row_line]
      exact pureCall_ok e (by simp [noRefs, n1]) n2
end S86

namespace S86
open PySem PySem.Spec PyProof.Rows L2 PL
/-- a line and its row: read at any place but the first as no first row, or as one -/
def LR (g : List PV → M PV) (i : Nat) (row : PV) (line : Str) : Prop := noRef row = true ∧ line.length + 2 ≤ sizeLine ∧ (∃ w ws, Txt.split line " " = w :: ws ∧ ws.length + 1 ≤ sizeLine ∧ (i = 0 → w = "court")) ∧ ∃ st, g [.int i, .str line, .bl (decide (i = 0))] [] = .ok row st
theorem read_log_ok {n : Nat} {rows : List PV} {lines : List Str} (h0 : 0 < lines.length) (hz : lines.length < 1000) (hl : rows.length = lines.length)
    (h : ∀ (i : Nat) (r : PV) (l : Str), rows[i]? = some r → lines[i]? = some l → LR (R n d_line_in) i r l) :
    ∃ st, R (n + 1) d_read_log [.lst (lines.map PV.str)] [] = .ok (.tup rows) st := by
  have h0' : ¬ (lines = []) := by rintro rfl; simp at h0
  unfold R runDef
  simp [d_read_log, evSs, evS, ev, EV.mk', EV.cmp, evs, evi, evo, evc, M.bind_def, look, pureR, COp.f, boolOf, asgT_nm, Cfg.call, chkM, tyM, mkL, seqA, seqL, seqM, srcA, srcEn, locsOf, biV, lenV, lenD, PL.eqV, eqF, h0']
  generalize hF : forL _ _ _ _ _ _ = O
  have el : (enumL 0 (lines.map PV.str)).length = lines.length := by simp [enumL_len]
  have : ∃ env' st', O = .ok (.nx env') st' ∧ ∃ a b, env' = [some (PV.lst (lines.map PV.str)), some (PV.ref 0), a, b] ∧ st' = [PO.lst (rows.take (0 + (enumL 0 (lines.map PV.str)).length))] := by
    subst hF
    refine forL_inv (Pv := fun i env st => ∃ a b, env = [some (PV.lst (lines.map PV.str)), some (PV.ref 0), a, b] ∧ st = [PO.lst (rows.take i)]) (fun _ _ _ _ => rfl) (enumL 0 (lines.map PV.str)) 0 _ _ ⟨_, _, rfl, rfl⟩ ?_
    rintro j x env st hx ⟨a, b, rfl, rfl⟩
    rw [enumL_get] at hx
    obtain ⟨f, hf, rfl⟩ := Option.map_eq_some_iff.mp hx
    rw [List.getElem?_map] at hf
    obtain ⟨li, hli, rfl⟩ := Option.map_eq_some_iff.mp hf
    obtain ⟨hj, rfl⟩ := List.getElem?_eq_some_iff.mp hli
    have hj' : j < rows.length := by omega
    obtain ⟨n1, n2, ⟨w, ws, n3, n4, n5⟩, st, hw⟩ := h j rows[j] lines[j] (List.getElem?_eq_getElem hj') hli
    have hc := pureCall_ok (st := [PO.lst (rows.take j)]) hw rfl n1
    refine ⟨_, _, [some (PV.lst (lines.map PV.str)), some (PV.ref 0), some (.int j), some (.str lines[j])], [PO.lst (rows.take (j + 1))], rfl, .inl ?_, _, _, rfl, by simp⟩
    have tk : rows.take (j + 1) = rows.take j ++ [rows[j]] := by rw [List.take_add_one, List.getElem?_eq_getElem hj']; rfl
    have q2 : (rows.take j).length + 1 ≤ sizeLine := by rw [sizeLine_eq]; simp; omega
    have b0 : (Str.ofString " ").length = 1 := rfl
    have e : callsN G reprD 100 defs (n + 1) "line_in" = some (R n d_line_in) := rfl
    by_cases z : j = 0
    · subst z
      simp at hc
      simp [M.bind_def, look, pureR, boolOf, PL.eqV, eqF, BOp.f, chkM, tyM, mtV, splitV, n2, n3, n4, n5 rfl, b0, mkL, ixV, ixD, seqA, atI, ixN, e, hc, cmpI, COp.f, seqL, seqM, appendV]
      rw [if_pos (by decide), show rows.take 1 = [rows[0]] by simpa using tk]
      rfl
    · have zb : ((j : Int) == 0) = false := by simpa using z
      simp [z] at hc
      simp [M.bind_def, look, pureR, boolOf, PL.eqV, eqF, BOp.f, chkM, tyM, mtV, splitV, n2, n3, n4, b0, mkL, ixV, ixD, seqA, atI, ixN, e, hc, zb, z, cmpI, COp.f, appendV]
      rw [if_pos (by simp at q2; omega), tk]
      rfl
  obtain ⟨_, _, rfl, a, b, rfl, rfl⟩ := this
  have q : rows.length ≤ sizeLine := by rw [sizeLine_eq]; omega
  rw [el, Nat.zero_add, ← hl, List.take_length]
  simp [M.bind_def, look, pureR, tupleV, seqL, mkT, q, seqM]
end S86

namespace S86
open PySem PySem.Spec PyProof.Rows L2 PL
/-- the feed of draws -/
def FeedAt (N : Nat) (o : PO) : Prop := ∃ (ns : List Int) (a c k : Int), o = .lst [.lst (ns.map .int), .int a, .int c, .int k] ∧ ns.length ≤ 63 ∧ 0 ≤ a ∧ a ≤ N ∧ 0 ≤ k ∧ k ≤ N
theorem fmod_in (a b : Int) (h : 0 < b) : 0 ≤ a.fmod b ∧ a.fmod b < b := by
  rw [Int.fmod_eq_emod_of_nonneg a (by omega)]
  exact ⟨Int.emod_nonneg _ (by omega), Int.emod_lt_of_pos _ h⟩
theorem atI_map (ns : List Int) (i : Int) (h0 : 0 ≤ i) (h1 : i < ns.length) : ∃ z, atI (ns.map PV.int) i = some (.int z) := by
  unfold atI ixN
  have : i.toNat < ns.length := by omega
  simp [h0, h1, this]
theorem at4_0 (w x y z : PV) : atI [w, x, y, z] 0 = some w := rfl
theorem at4_1 (w x y z : PV) : atI [w, x, y, z] 1 = some x := rfl
theorem at4_2 (w x y z : PV) : atI [w, x, y, z] 2 = some y := rfl
theorem at4_3 (w x y z : PV) : atI [w, x, y, z] 3 = some z := rfl
theorem draw_ok {n N : Nat} {o : PO} {rest : Stor} {b : Int} (h : FeedAt N o) (hN : N < 1000000) (hb : 0 < b) (hb2 : b < 1000000) :
    ∃ r o', R n d_law_draw [.ref 0, .int b] (o :: rest) = .ok (.int r) (o' :: rest) ∧ 0 ≤ r ∧ r < b ∧ FeedAt (N + 1) o' := by
  obtain ⟨ns, a, c, k, rfl, hl, ha0, ha1, hk0, hk1⟩ := h
  have b0 : b ≠ 0 := by omega
  have b1 : b.natAbs < 1073741824 := by omega
  by_cases hc : 0 < c
  · refine ⟨c.fmod b, .lst [.lst (ns.map .int), .int a, .int (c.fdiv b), .int k], ?_, (fmod_in _ _ hb).1, (fmod_in _ _ hb).2, ns, a, _, k, rfl, hl, ha0, by omega, hk0, by omega⟩
    unfold R runDef
    simp [d_law_draw, evSs, evS, ev, EV.mk', EV.cmp, evs, M.bind_def, look, pureR, COp.f, boolOf, asgT_nm, BOp.f, cmpI, ixV, ixD, atI, ixN, hc, modV, fdivV, b0, b1, setV]
  · -- the cell
    obtain ⟨cell, hcell⟩ : ∃ cell : Int, (ns = [] → cell = 0) ∧ (ns ≠ [] → atI (ns.map PV.int) (a.fmod ns.length) = some (.int cell)) := by
      by_cases h0 : ns = []
      · exact ⟨0, fun _ => rfl, fun z => absurd h0 z⟩
      · have h1 : 0 < (ns.length : Int) := by have := List.length_pos_iff.mpr h0; omega
        obtain ⟨f1, f2⟩ := fmod_in a ns.length h1
        obtain ⟨z, hz⟩ := atI_map ns _ f1 f2
        exact ⟨z, fun q => absurd q h0, fun _ => hz⟩
    obtain ⟨hc0, hc1⟩ := hcell
    by_cases h18 : (10 : Int) ^ 18 ≤ cell ∧ a < ns.length
    · refine ⟨cell.fmod b, .lst [.lst (ns.map .int), .int (a + 1), .int (cell.fdiv b), .int (k + 1)], ?_, (fmod_in _ _ hb).1, (fmod_in _ _ hb).2, ns, _, _, _, rfl, hl, by omega, by omega, by omega, by omega⟩
      have ne : ns ≠ [] := by rintro rfl; simp at h18; omega
      have g := hc1 ne
      have h1 : 0 < ns.length := List.length_pos_iff.mpr ne
      have nl : (ns.length : Int) ≠ 0 := by omega
      have h18' : (1000000000000000000 : Int) ≤ cell := by have := h18.1; omega
      unfold R runDef
      simp [d_law_draw, evSs, evS, ev, EV.mk', EV.cmp, evs, M.bind_def, look, pureR, COp.f, boolOf, asgT_nm, BOp.f, cmpI, ixV, ixD, ixN, hc, modV, fdivV, b0, b1, setV, addV, powV, biV, lenV, lenD, seqA, seqL, seqM, at4_0, at4_1, at4_2, at4_3, h18.2, h1, nl, ne, g, h18']
    · have c0 : ∃ cell' : Int, cell' = cell := ⟨_, rfl⟩
      have f0 := fmod_in cell 1000003 (by omega)
      have f1 := fmod_in ((cell.fmod 1000003 + 613 * (k + 1) + 17) ^ 5) 2147483647 (by omega)
      refine ⟨(((((cell.fmod 1000003 + 613 * (k + 1) + 17) ^ 5).fmod 2147483647 + 4099 * (k + 1)) ^ 5).fmod 2147483587).fdiv 7 |>.fmod b, .lst [.lst (ns.map .int), .int (a + 1), .int c, .int (k + 1)], ?_, (fmod_in _ _ hb).1, (fmod_in _ _ hb).2, ns, _, _, _, rfl, hl, by omega, by omega, by omega, by omega⟩
      have p1 : (cell.fmod 1000003 + 613 * (k + 1) + 17).natAbs < 18446744073709551616 := by omega
      have p2 : (((cell.fmod 1000003 + 613 * (k + 1) + 17) ^ 5).fmod 2147483647 + 4099 * (k + 1)).natAbs < 18446744073709551616 := by omega
      have bg : ∀ x : Int, PL.big 613 = true := fun _ => rfl
      by_cases ne : ns = []
      · have z := hc0 ne
        subst ne z
        rw [show Int.fmod 0 1000003 = 0 from rfl] at p1 p2
        simp only [Int.zero_add] at p1 p2
        unfold R runDef
        simp [d_law_draw, evSs, evS, ev, EV.mk', EV.cmp, evs, M.bind_def, look, pureR, COp.f, boolOf, asgT_nm, BOp.f, cmpI, ixV, ixD, ixN, hc, modV, fdivV, b0, b1, setV, addV, powV, mulV, PL.big, biV, lenV, lenD, seqA, seqL, seqM, at4_0, at4_1, at4_2, at4_3, p1, p2]
      · have g := hc1 ne
        have h1 : 0 < ns.length := List.length_pos_iff.mpr ne
        have nl : (ns.length : Int) ≠ 0 := by omega
        by_cases q : (1000000000000000000 : Int) ≤ cell
        · have q2 : ¬ (a < ns.length) := fun z => h18 ⟨by omega, z⟩
          unfold R runDef
          simp [d_law_draw, evSs, evS, ev, EV.mk', EV.cmp, evs, M.bind_def, look, pureR, COp.f, boolOf, asgT_nm, BOp.f, cmpI, ixV, ixD, ixN, hc, modV, fdivV, b0, b1, setV, addV, powV, mulV, PL.big, biV, lenV, lenD, seqA, seqL, seqM, at4_0, at4_1, at4_2, at4_3, p1, p2, g, h1, nl, ne, q, q2]
        · unfold R runDef
          simp [d_law_draw, evSs, evS, ev, EV.mk', EV.cmp, evs, M.bind_def, look, pureR, COp.f, boolOf, asgT_nm, BOp.f, cmpI, ixV, ixD, ixN, hc, modV, fdivV, b0, b1, setV, addV, powV, mulV, PL.big, biV, lenV, lenD, seqA, seqL, seqM, at4_0, at4_1, at4_2, at4_3, p1, p2, g, h1, nl, ne, q]
end S86

namespace S86
open PySem PySem.Spec PyProof.Rows L2 PL
/-- a thing, checked: its word by the law and by the program, the word read back -/
def chk (q : PV × PV) : Bool := match R 9 d_law_thing_word [q.1, q.2] [] with
  | .ok (.str w) _ => (match R 9 d_thing_word [q.1, q.2] [] with | .ok (.str v) _ => decide (v = w) | _ => false) && (match R 8 d_thing_word [q.1, q.2] [] with | .ok (.str v) _ => decide (v = w) | _ => false) &&
    (match R 7 d_word_in [q.1, .str w] [] with | .ok (.tup [p]) _ => eqPV p q.2 | _ => false) && noBl w && asc w && decide (w.length ≤ 200) && noRef q.1 && noRef q.2 && (match toD [] q.2 with | some d => okB 4 300 d | none => false)
  | _ => false
def i4 (a b c d : Int) : PV := .tup [.int a, .int b, .int c, .int d]
def i2 (a b : Int) : PV := .tup [.int a, .int b]
def namesT : List PV := ["a", "b", "c", "d", "e", "f", "p", "q", "r", "latch", "zzzzzzzz", "court"].map fun s => .str (Str.ofString s)
def greats : List Int := [999999999, 999999998, 999999997]
def countsT : List PV := ([1, 2, 3, 4] ++ greats).map .int
def figuresT : List PV := ((List.range 80).map Int.ofNat ++ greats).map .int
def numbersT : List PV := ([-1, 0, 1, 2, 3] ++ greats ++ greats.map (fun g => -g)).map .int
def regionsT : List PV := [.tup [i4 0 0 8 8], .tup [i4 1 0 2 1], .tup [], .tup [i4 0 0 1 1, i4 0 1 2 2], .tup [i4 0 0 1 1]] ++ greats.map fun g => .tup [i4 (-9) (-9) (-2) (-8), i4 (-9) 0 1 2, i4 3 0 4 2, i4 0 2 g 3]
def pixelsT : List PV := [((1, 1), (1, 1)), ((0, 1), (1, 1)), ((3, 8), (1, 1)), ((1, 4), (1, 2)), ((0, 1), (1, 16)), ((0, 1), (0, 1)), ((1, 16), (15, 16))].map fun q => .tup [i2 q.1.1 q.1.2, i2 q.2.1 q.2.2]
def backsT : List PV := [.tup [i2 0 1, i2 1 1], .tup [i2 1 2, i2 1 1]]
def boardsT : List PV := [.non, .str "p", .str "q", .str "r", .str "no"]
def pairsT : List PV := [i2 0 0, i2 1 0] ++ greats.map fun g => i2 (-g) g
def parentsT : List PV := [.str "", .str "b", .str "court"]
def truthsT : List PV := [.bl true, .bl false]
def clipsT : List PV := [.non, i4 0 0 1 2, i4 (-1) 0 2 1] ++ greats.map fun g => i4 (-g) (-1) 0 g
def sharesT : List PV := [i2 1 1, i2 1 2, i2 0 1, i2 13 16, i2 1 999999999, i2 999999998 999999999]
def flatsT : List PV := [.tup [], .tup [.str "a", .str "b"], .tup [.str "a", .str "b", .str "c"], .tup [.str "a", .str "zzzzzzzz", .str "b"]] ++ namesT.map fun n => .tup [n]
def things (f : Str) : List PV := if f = "name" then namesT else if f = "count" then countsT else if f = "figure" then figuresT else if f = "number" then numbersT else if f = "region" then regionsT else
  if f = "pixel" then pixelsT else if f = "back" then backsT else if f = "board" then boardsT else if f = "pair" then pairsT else if f = "parent" then parentsT else if f = "truth" then truthsT else
  if f = "clip" then clipsT else if f = "share" then sharesT else if f = "names" then flatsT else []
def formNames : List Str := ["name", "count", "figure", "number", "region", "pixel", "back", "board", "pair", "parent", "truth", "clip", "share", "names"].map Str.ofString
def okF (f : Str) : Bool := (things f).all fun p => chk (.str f, p)
theorem t_name : okF "name" = true := by decide +kernel
theorem t_count : okF "count" = true := by decide +kernel
theorem t_figure : okF "figure" = true := by decide +kernel
theorem t_number : okF "number" = true := by decide +kernel
theorem t_region : okF "region" = true := by decide +kernel
theorem t_pixel : okF "pixel" = true := by decide +kernel
theorem t_back : okF "back" = true := by decide +kernel
theorem t_board : okF "board" = true := by decide +kernel
theorem t_pair : okF "pair" = true := by decide +kernel
theorem t_parent : okF "parent" = true := by decide +kernel
theorem t_truth : okF "truth" = true := by decide +kernel
theorem t_clip : okF "clip" = true := by decide +kernel
theorem t_share : okF "share" = true := by decide +kernel
theorem t_names : okF "names" = true := by decide +kernel
/-- what a table says of a thing -/
structure Good (f : Str) (p : PV) (w : Str) : Prop where
  a : TW (R 9 d_law_thing_word) (.str f) p w
  b : TW (R 9 d_thing_word) (.str f) p w
  c : TW (R 8 d_thing_word) (.str f) p w
  d : RW (R 7 d_word_in) (.str f) p w
  n : noBl w = true
  s : asc w = true
  l : w.length ≤ 200
  dt : ∃ d, toD [] p = some d ∧ Okd 4 300 d
theorem good_of {f : Str} {p : PV} (h : chk (.str f, p) = true) : ∃ w, Good f p w := by
  unfold chk at h
  split at h
  · rename_i w st1 e1
    simp only [Bool.and_eq_true, decide_eq_true_eq] at h
    obtain ⟨⟨⟨⟨⟨⟨⟨⟨h1, h2⟩, h3⟩, h4⟩, h5⟩, h6⟩, h7⟩, h8⟩, h9⟩ := h
    split at h1
    · rename_i v1 s1 q1
      have := of_decide_eq_true h1
      subst this
      split at h2
      · rename_i v2 s2 q2
        have := of_decide_eq_true h2
        subst this
        split at h3
        · rename_i p' s3 q3
          have := eqPV_sound _ _ h3
          subst this
          split at h9
          · rename_i d q4
            have ok := okB_of h9
            refine ⟨_, ⟨h7, h8, _, e1⟩, ⟨h7, h8, _, q1⟩, ⟨h7, h8, _, q2⟩, ⟨h7, h8, fun st => ?_, _, q3⟩, h4, h5, h6, _, q4, ok⟩
            have n1 : noRef (PV.tup [p']) = true := by simpa [noRef, noRefs] using h8
            have n2 : noRef (PV.tup []) = true := by simp [noRef, noRefs]
            have o1 : Okd 5 1000 (.tuple [d]) := Okd.tuple (D := 4) (B := 300) (by simpa using ok) (by simp)
            have o2 : Okd 5 1000 (.tuple []) := Okd.tuple (D := 4) (B := 300) (by simp) (by simp)
            unfold PL.eqV eqF eqD
            simp only [toDn_toD 3 st _ n1, toDn_toD 3 st _ n2]
            simp [toD, toDs, q4, o1.shaped, o2.shaped, eqvS, eqvSs]
          · cases h9
        · cases h3
      · cases h2
    · cases h1
  · cases h
theorem good_in {f : Str} {p : PV} (hf : okF f = true) (hp : p ∈ things f) : ∃ w, Good f p w := good_of (List.all_eq_true.mp hf p hp)
def formsAll : List Str := ["name", "count", "figure", "number", "region", "pixel", "back", "board", "pair", "parent", "truth", "clip", "share", "names"].map Str.ofString
theorem okF_all : ∀ f ∈ formsAll, okF f = true := by
  intro f hf
  simp only [formsAll, List.map_cons, List.map_nil, List.mem_cons, List.not_mem_nil, or_false] at hf
  rcases hf with rfl | rfl | rfl | rfl | rfl | rfl | rfl | rfl | rfl | rfl | rfl | rfl | rfl | rfl
  · exact t_name
  · exact t_count
  · exact t_figure
  · exact t_number
  · exact t_region
  · exact t_pixel
  · exact t_back
  · exact t_board
  · exact t_pair
  · exact t_parent
  · exact t_truth
  · exact t_clip
  · exact t_share
  · exact t_names
end S86

namespace S86
open PySem PySem.Spec PyProof.Rows L2 PL
def words16 : List Str := ["court", "make", "draw", "scrap", "add", "drop", "flag", "place", "clip", "fade", "hide", "order", "attach", "commit", "latch", "refresh"].map Str.ofString
def chkForms : Bool := match R 9 d_law_forms [] [] with
  | .ok (.ref l) st0 => (match st0[l]? with
    | some (.dct kvs) => words16.all fun w => match valP kvs (.inr w), formsP w with | some (.lst a), some b => eqPVs a b | _, _ => false
    | _ => false)
  | _ => false
theorem chkForms_ok : chkForms = true := by decide +kernel
theorem words_ok : (words16.all fun w => noBl w && asc w && decide (w.length ≤ 20)) = true := by decide +kernel
theorem forms_law : ∃ l st0 kvs, R 9 d_law_forms [] [] = .ok (.ref l) st0 ∧ st0[l]? = some (.dct kvs) ∧ ∀ w ∈ words16, ∀ fs, formsP w = some fs → valP kvs (.inr w) = some (.lst fs) := by
  have h := chkForms_ok
  unfold chkForms at h
  split at h
  · rename_i l st0 e
    split at h
    · rename_i kvs e2
      refine ⟨l, st0, kvs, e, e2, fun w hw fs hf => ?_⟩
      have := List.all_eq_true.mp h w hw
      rw [hf] at this
      split at this
      · rename_i a b e3 e4
        cases e4
        rw [e3, eqPVs_sound _ _ this]
      · cases this
    · cases h
  · cases h
/-- a row of a log: its word, its things of the word's forms -/
def RowT (row : PV) : Prop := ∃ (word : Str) (ps : List PV) (fs : List Str), row = .tup (.str word :: ps) ∧ word ∈ words16 ∧ formsP word = some (fs.map .str) ∧ ps.length ≤ 5 ∧ Paired (fun f p => f ∈ formsAll ∧ p ∈ things f) fs ps
/-- what is told of a row and its line -/
structure RowL (row : PV) (word line : Str) : Prop where
  w : ∃ ps, row = .tup (.str word :: ps)
  a : ∃ st, R 10 d_law_line [row] [] = .ok (.str line) st
  b : R 10 d_row_line [row] [] = .ok (.str line) []
  c : R 9 d_row_line [row] [] = .ok (.str line) []
  d : ∃ st, R 10 d_read_row [.str line] [] = .ok row st
  e : ∀ (i : Int) (cb : Bool), (word = "court" → cb = true) → ∃ st, R 9 d_line_in [.int i, .str line, .bl cb] [] = .ok row st
  s : asc line = true
  l : line.length ≤ 2000
  sp : ∃ ws, Txt.split line " " = word :: ws ∧ ws.length ≤ 5
  nr : noRef row = true
  dt : ∃ d, toD [] row = some d ∧ Okd 5 3000 d
theorem good_all : ∀ {fs : List Str} {ps : List PV}, Paired (fun f p => f ∈ formsAll ∧ p ∈ things f) fs ps → ∃ ws : List Str, All3 (fun f p w => ∃ f', f = PV.str f' ∧ Good f' p w) (fs.map PV.str) ps ws
  | _, _, .nil => ⟨[], .nil⟩
  | _, _, .cons h t => by
    obtain ⟨ws, hw⟩ := good_all t
    obtain ⟨w, hg⟩ := good_in (okF_all _ h.1) h.2
    exact ⟨w :: ws, .cons ⟨_, rfl, hg⟩ hw⟩
theorem All3.imp {α β γ : Type} {P Q : α → β → γ → Prop} (i : ∀ a b c, P a b c → Q a b c) : ∀ {as : List α} {bs : List β} {cs : List γ}, All3 P as bs cs → All3 Q as bs cs
  | _, _, _, .nil => .nil
  | _, _, _, .cons h t => .cons (i _ _ _ h) (All3.imp i t)
theorem words_sum : ∀ {fs ps : List PV} {ws : List Str}, All3 (fun f p w => ∃ f', f = PV.str f' ∧ Good f' p w) fs ps ws → (ws.map (·.length)).sum ≤ 200 * ws.length ∧ (∀ w ∈ ws, noBl w = true ∧ asc w = true) ∧ (∃ ds, toDs [] ps = some ds ∧ (∀ d ∈ ds, Okd 4 300 d) ∧ ds.length = ps.length) ∧ noRefs ps = true
  | _, _, _, .nil => ⟨by simp, by simp, ⟨[], by simp [toDs], by simp, rfl⟩, by simp [noRefs]⟩
  | _, _, _, .cons ⟨f', _, g⟩ t => by
    obtain ⟨h1, h2, ⟨ds, h3, h4, h6⟩, h5⟩ := words_sum t
    have := g.l
    obtain ⟨d, hd, ok⟩ := g.dt
    refine ⟨by simp; omega, by simpa [g.n, g.s] using h2, ⟨d :: ds, by simp [toDs, hd, h3], by simpa [ok] using h4, by simp [h6]⟩, by simp [noRefs, g.a.2.1, h5]⟩
theorem asc_append (a b : Str) : asc (a ++ b) = (asc a && asc b) := by
  show (a.cps ++ b.cps).toList.all _ = _
  rw [Array.toList_append, List.all_append]
  rfl
theorem asc_join : ∀ ws : List Str, (∀ w ∈ ws, asc w = true) → asc (Txt.join " " ws) = true := by
  intro ws
  rw [TL.join_eq]
  induction ws with
  | nil => intro _; rfl
  | cons x r ih =>
    intro h
    cases r with
    | nil => exact h x List.mem_cons_self
    | cons y r =>
      show asc (x ++ " " ++ Str.join " " (y :: r)) = true
      rw [asc_append, asc_append, h x List.mem_cons_self, ih fun w hw => h w (List.mem_cons_of_mem _ hw)]
      rfl
theorem join_len : ∀ ws : List Str, (Txt.join " " ws).length ≤ (ws.map (·.length)).sum + ws.length := by
  intro ws
  rw [TL.join_eq]
  induction ws with
  | nil => exact Nat.le_refl _
  | cons x r ih =>
    cases r with
    | nil => show x.length ≤ _; simp
    | cons y r =>
      show (x ++ " " ++ Str.join " " (y :: r)).length ≤ _
      have e2 : ((" " : String) : Str).length = 1 := rfl
      rw [strLen_append, strLen_append, e2]
      simp only [List.map_cons, List.sum_cons, List.length_cons] at ih ⊢
      omega
theorem row_ok {row : PV} (h : RowT row) : ∃ word line, word ∈ words16 ∧ RowL row word line := by
  obtain ⟨word, ps, fs, rfl, hw, hf, hl, hp⟩ := h
  obtain ⟨ws, hg⟩ := good_all hp
  obtain ⟨l1, l2⟩ := hg.len
  obtain ⟨s1, s2, ⟨ds, s3, s4, s6⟩, s5⟩ := words_sum hg
  obtain ⟨l, st0, kvs, f1, f2, f3⟩ := forms_law
  have wk := List.all_eq_true.mp words_ok word hw
  simp only [Bool.and_eq_true, decide_eq_true_eq] at wk
  obtain ⟨⟨w1, w2⟩, w3⟩ := wk
  have hz : ps.length < 100 := by omega
  have hb : (word.length + (ws.map (·.length)).sum) + (ws.length + 1) ≤ 16777216 := by omega
  have sp : Txt.split (Txt.join " " (word :: ws)) " " = word :: ws := split_words (by simp) fun w hw => by
    rcases List.mem_cons.mp hw with rfl | hw
    · exact w1
    · exact (s2 w hw).1
  have ll : (Txt.join " " (word :: ws)).length ≤ 2000 := by
    have := join_len (word :: ws)
    simp at this
    omega
  have ll2 : (Txt.join " " (word :: ws)).length + 2 ≤ sizeLine := by rw [sizeLine_eq]; omega
  have dts : All3 (RW (R 7 d_word_in)) (fs.map PV.str) ps ws := hg.imp fun f p w ⟨f', e, g⟩ => e ▸ g.d
  refine ⟨word, Txt.join " " (word :: ws), hw, ⟨_, rfl⟩, ⟨st0, law_line_ok f1 f2 (f3 word hw _ hf) hz (hg.imp fun f p w ⟨f', e, g⟩ => e ▸ g.a) hb⟩, row_line_ok hf hz (hg.imp fun f p w ⟨f', e, g⟩ => e ▸ g.b) hb, row_line_ok hf hz (hg.imp fun f p w ⟨f', e, g⟩ => e ▸ g.c) hb,
    read_row_ok hf ll2 sp hz dts, fun i cb hcb => line_in_ok hf hcb ll2 sp hz dts, asc_join _ fun w hw => ?_, ll, ⟨ws, sp, by omega⟩, ?_, .tuple (.str word :: ds), ?_, ?_⟩
  · rcases List.mem_cons.mp hw with rfl | hw
    · exact w2
    · exact (s2 w hw).2
  · simp [noRef, noRefs, s5]
  · simp [toD, toDs, s3]
  · refine Okd.tuple (D := 4) (B := 300) (fun d hd => ?_) (by simp; omega)
    rcases List.mem_cons.mp hd with rfl | hd
    · exact (Okd.str w2 (N := 300) (by omega)).mono (by omega) (by omega)
    · exact s4 d hd
end S86

namespace S86
open PySem PySem.Spec PyProof.Rows L2 PL
theorem c_draw (n : Nat) : callsN G reprD 100 defs (n + 1) "_law_draw" = some (R n d_law_draw) := by rfl
theorem c_pixel (n : Nat) : callsN G reprD 100 defs (n + 1) "_law_pixel" = some (R n d_law_pixel) := by rfl
theorem c_state (n : Nat) : callsN G reprD 100 defs (n + 1) "_law_state_deed" = some (R n d_law_state_deed) := by rfl
theorem q0 : 0 ≤ sizeLine := by decide
theorem q1 : 1 ≤ sizeLine := by decide
theorem q2 : 2 ≤ sizeLine := by decide
theorem q3 : 3 ≤ sizeLine := by decide
theorem q4 : 4 ≤ sizeLine := by decide
theorem q5 : 5 ≤ sizeLine := by decide
theorem q6 : 6 ≤ sizeLine := by decide
theorem ix_menu {xs : List PV} {r : Int} (h0 : 0 ≤ r) (h1 : r < xs.length) : ∃ p ∈ xs, ∀ st, ixV G (.lst xs) (.int r) st = .ok p st := by
  have h2 : r.toNat < xs.length := by omega
  refine ⟨xs[r.toNat], List.getElem_mem h2, fun st => ?_⟩
  unfold ixV
  simp [ixD, seqA, seqL, seqM, atI, ixN, h0, h1, h2]
theorem FeedAt.mono {N M : Nat} {o : PL.PO} (h : FeedAt N o) (l : N ≤ M) : FeedAt M o := by
  obtain ⟨ns, a, c, k, e, h1, h2, h3, h4, h5⟩ := h
  exact ⟨ns, a, c, k, e, h1, h2, by omega, h4, by omega⟩
theorem pixel_ok {n N : Nat} {o : PL.PO} {rest : Stor} (h : FeedAt N o) (hN : N < 1000000) : ∃ p o', R (n + 1) d_law_pixel [.ref 0] (o :: rest) = .ok p (o' :: rest) ∧ p ∈ pixelsT ∧ FeedAt (N + 1) o' := by
  obtain ⟨r, o', e, h0, h1, h'⟩ := draw_ok (n := n) (rest := rest) h hN (b := 6) (by omega) (by omega)
  obtain ⟨p, hp, ip⟩ := ix_menu (xs := [.tup [i2 1 1, i2 1 1], .tup [i2 0 1, i2 1 1], .tup [i2 3 8, i2 1 1], .tup [i2 1 4, i2 1 2], .tup [i2 0 1, i2 1 16], .tup [i2 0 1, i2 0 1]]) h0 (by simpa using h1)
  refine ⟨p, o', ?_, ?_, h'⟩
  · unfold R runDef
    have := ip (o' :: rest)
    simp only [i2] at this
    simp [d_law_pixel, evSs, evS, ev, EV.mk', EV.cmp, evs, evo, M.bind_def, look, pureR, COp.f, boolOf, asgT_nm, BOp.f, cmpI, Cfg.call, mkT, mkL, addV, subV, PL.eqV, eqF, q0, q1, q2, q3, q4, q5, q6, c_draw, e, this]
  · simp [pixelsT] at hp ⊢
    rcases hp with rfl | rfl | rfl | rfl | rfl | rfl <;> simp
/-- a row as it is drawn: a latch's fourth thing is not told yet -/
def PreT (row : PV) : Prop := (∃ (word : Str) (ps : List PV) (fs : List Str), row = .tup (.str word :: ps) ∧ word ∈ words16 ∧ word ≠ "latch" ∧ word ≠ "court" ∧ formsP word = some (fs.map .str) ∧ ps.length ≤ 5 ∧ Paired (fun f p => f ∈ formsAll ∧ p ∈ things f) fs ps) ∨
  ∃ x y v z, row = .tup [.str "latch", x, y, v, z] ∧ x ∈ figuresT ∧ y ∈ countsT ∧ z ∈ flatsT
def rowk (w : Str) (fs : List Str) : Bool := words16.contains w && decide (w ≠ "latch") && decide (w ≠ "court") && (match formsP w with | some l => eqPVs l (fs.map .str) | none => false) && fs.all (fun f => formsAll.contains f) && decide (fs.length ≤ 5)
theorem pair_and {fs : List Str} {ps : List PV} (h : ∀ f ∈ fs, f ∈ formsAll) : Paired (fun f p => p ∈ things f) fs ps → Paired (fun f p => f ∈ formsAll ∧ p ∈ things f) fs ps ∧ ps.length = fs.length := by
  intro t
  induction t with
  | nil => exact ⟨.nil, rfl⟩
  | cons a t ih =>
    obtain ⟨i1, i2⟩ := ih fun f hf => h f (List.mem_cons_of_mem _ hf)
    exact ⟨.cons ⟨h _ List.mem_cons_self, a⟩ i1, by simp [i2]⟩
theorem pre_mk {w : Str} {fs : List Str} {ps : List PV} (k : rowk w fs = true) (m : Paired (fun f p => p ∈ things f) fs ps) : PreT (.tup (.str w :: ps)) := by
  unfold rowk at k
  simp only [Bool.and_eq_true, decide_eq_true_eq] at k
  obtain ⟨⟨⟨⟨⟨k1, k2⟩, k3⟩, k4⟩, k5⟩, k6⟩ := k
  obtain ⟨i1, i2⟩ := pair_and (fun f hf => by simpa using List.all_eq_true.mp k5 f hf) m
  refine .inl ⟨w, ps, fs, rfl, by simpa using k1, k2, k3, ?_, by omega, i1⟩
  split at k4
  · rename_i l e
    rw [e, eqPVs_sound _ _ k4]
  · cases k4
theorem th_name : things "name" = namesT := by rfl
theorem th_count : things "count" = countsT := by rfl
theorem th_figure : things "figure" = figuresT := by rfl
theorem th_number : things "number" = numbersT := by rfl
theorem th_region : things "region" = regionsT := by rfl
theorem th_pixel : things "pixel" = pixelsT := by rfl
theorem th_board : things "board" = boardsT := by rfl
theorem th_pair : things "pair" = pairsT := by rfl
theorem th_parent : things "parent" = parentsT := by rfl
theorem th_truth : things "truth" = truthsT := by rfl
theorem th_clip : things "clip" = clipsT := by rfl
theorem th_share : things "share" = sharesT := by rfl
theorem k_place : rowk "place" ["name", "number", "number"] = true := by decide +kernel
theorem k_clip : rowk "clip" ["name", "clip"] = true := by decide +kernel
theorem k_fade : rowk "fade" ["name", "share"] = true := by decide +kernel
theorem k_hide : rowk "hide" ["name", "truth"] = true := by decide +kernel
theorem k_order : rowk "order" ["name", "figure"] = true := by decide +kernel
theorem k_draw : rowk "draw" ["name", "region", "pixel"] = true := by decide +kernel
theorem k_attach : rowk "attach" ["name", "board", "region", "pair"] = true := by decide +kernel
theorem k_commit : rowk "commit" ["name"] = true := by decide +kernel
theorem k_refresh : rowk "refresh" ["figure"] = true := by decide +kernel
theorem k_add : rowk "add" ["name", "parent"] = true := by decide +kernel
theorem k_make : rowk "make" ["name", "count", "count"] = true := by decide +kernel
theorem k_scrap : rowk "scrap" ["name"] = true := by decide +kernel
theorem k_flag : rowk "flag" ["name", "truth"] = true := by decide +kernel
theorem k_drop : rowk "drop" ["name"] = true := by decide +kernel
theorem truth_in (b : Bool) : PV.bl b ∈ truthsT := by cases b <;> simp [truthsT]
theorem state_ok {n N : Nat} {o : PL.PO} {rest : Stor} {nm : PV} (h : FeedAt N o) (hN : N + 5 < 1000000) (hn : nm ∈ namesT) : ∃ row o', R (n + 1) d_law_state_deed [.ref 0, nm] (o :: rest) = .ok row (o' :: rest) ∧ PreT row ∧ FeedAt (N + 3) o' := by
  obtain ⟨w, o1, e1, w0, w1, h1⟩ := draw_ok (n := n) (rest := rest) h (by omega) (b := 6) (by omega) (by omega)
  have run : WR (evSs ⟨G, fnsL, callsN G reprD 100 defs (n + 1)⟩ reprD 100 d_law_state_deed.body ([PV.ref 0, nm].map some ++ List.replicate (d_law_state_deed.slots.length - 2) none)) (o :: rest) fun row st => PreT row ∧ ∃ o', st = o' :: rest ∧ FeedAt (N + 3) o' := by
    unfold d_law_state_deed
    refine WR.nx (e := [some (.ref 0), some nm, some (.int w)]) (st' := o1 :: rest) (by simp [evSs, evS, ev, EV.mk', EV.cmp, evs, evo, M.bind_def, look, pureR, COp.f, boolOf, asgT_nm, BOp.f, cmpI, Cfg.call, mkT, mkL, addV, subV, PL.eqV, eqF, q0, q1, q2, q3, q4, q5, q6, c_draw, e1]) ?_
    by_cases c1 : w < 2
    · refine WR.ifT (st' := o1 :: rest) (by simp [evSs, evS, ev, EV.mk', EV.cmp, evs, evo, M.bind_def, look, pureR, COp.f, boolOf, asgT_nm, BOp.f, cmpI, Cfg.call, mkT, mkL, addV, subV, PL.eqV, eqF, q0, q1, q2, q3, q4, q5, q6, c_draw, c1]) ?_
      obtain ⟨r2, o2, e2, a2, b2, h2⟩ := draw_ok (n := n) (rest := rest) h1 (by omega) (b := 5) (by omega) (by omega)
      obtain ⟨r3, o3, e3, a3, b3, h3⟩ := draw_ok (n := n) (rest := rest) h2 (by omega) (b := 4) (by omega) (by omega)
      refine WR.rt (p := .tup [.str "place", nm, .int (r2 - 1), .int (r3 - 1)]) (st' := o3 :: rest) (by simp [evSs, evS, ev, EV.mk', EV.cmp, evs, evo, M.bind_def, look, pureR, COp.f, boolOf, asgT_nm, BOp.f, cmpI, Cfg.call, mkT, mkL, addV, subV, PL.eqV, eqF, q0, q1, q2, q3, q4, q5, q6, c_draw, e2, e3]) ⟨pre_mk k_place (.cons hn (.cons ?_ (.cons ?_ .nil))), o3, rfl, h3⟩
      · rw [th_number]
        have : r2 = 0 ∨ r2 = 1 ∨ r2 = 2 ∨ r2 = 3 ∨ r2 = 4 := by omega
        rcases this with rfl | rfl | rfl | rfl | rfl <;> simp [numbersT]
      · rw [th_number]
        have : r3 = 0 ∨ r3 = 1 ∨ r3 = 2 ∨ r3 = 3 := by omega
        rcases this with rfl | rfl | rfl | rfl <;> simp [numbersT]
    refine WR.ifF (st' := o1 :: rest) (by simp [evSs, evS, ev, EV.mk', EV.cmp, evs, evo, M.bind_def, look, pureR, COp.f, boolOf, asgT_nm, BOp.f, cmpI, Cfg.call, mkT, mkL, addV, subV, PL.eqV, eqF, q0, q1, q2, q3, q4, q5, q6, c_draw, c1]) ?_
    by_cases c2 : w = 2
    · refine WR.ifT (st' := o1 :: rest) (by simp [evSs, evS, ev, EV.mk', EV.cmp, evs, evo, M.bind_def, look, pureR, COp.f, boolOf, asgT_nm, BOp.f, cmpI, Cfg.call, mkT, mkL, addV, subV, PL.eqV, eqF, q0, q1, q2, q3, q4, q5, q6, c_draw, c2]) ?_
      obtain ⟨r2, o2, e2, a2, b2, h2⟩ := draw_ok (n := n) (rest := rest) h1 (by omega) (b := 3) (by omega) (by omega)
      obtain ⟨p, hp, ip⟩ := ix_menu (xs := [.non, .tup [.int 0, .int 0, .int 1, .int 2], .tup [.int (-1), .int 0, .int 2, .int 1]]) a2 (by simpa using b2)
      have ip := ip (o2 :: rest)
      refine WR.rt (p := .tup [.str "clip", nm, p]) (st' := o2 :: rest) (by simp [evSs, evS, ev, EV.mk', EV.cmp, evs, evo, M.bind_def, look, pureR, COp.f, boolOf, asgT_nm, BOp.f, cmpI, Cfg.call, mkT, mkL, addV, subV, PL.eqV, eqF, q0, q1, q2, q3, q4, q5, q6, c_draw, e2, ip]) ⟨pre_mk k_clip (.cons hn (.cons ?_ .nil)), o2, rfl, h2.mono (by omega)⟩
      rw [th_clip]
      simp at hp
      rcases hp with rfl | rfl | rfl <;> simp [clipsT, i4]
    refine WR.ifF (st' := o1 :: rest) (by simp [evSs, evS, ev, EV.mk', EV.cmp, evs, evo, M.bind_def, look, pureR, COp.f, boolOf, asgT_nm, BOp.f, cmpI, Cfg.call, mkT, mkL, addV, subV, PL.eqV, eqF, q0, q1, q2, q3, q4, q5, q6, c_draw, c2]) ?_
    by_cases c3 : w = 3
    · refine WR.ifT (st' := o1 :: rest) (by simp [evSs, evS, ev, EV.mk', EV.cmp, evs, evo, M.bind_def, look, pureR, COp.f, boolOf, asgT_nm, BOp.f, cmpI, Cfg.call, mkT, mkL, addV, subV, PL.eqV, eqF, q0, q1, q2, q3, q4, q5, q6, c_draw, c3]) ?_
      obtain ⟨r2, o2, e2, a2, b2, h2⟩ := draw_ok (n := n) (rest := rest) h1 (by omega) (b := 4) (by omega) (by omega)
      obtain ⟨p, hp, ip⟩ := ix_menu (xs := [.tup [.int 1, .int 1], .tup [.int 1, .int 2], .tup [.int 0, .int 1], .tup [.int 13, .int 16]]) a2 (by simpa using b2)
      have ip := ip (o2 :: rest)
      refine WR.rt (p := .tup [.str "fade", nm, p]) (st' := o2 :: rest) (by simp [evSs, evS, ev, EV.mk', EV.cmp, evs, evo, M.bind_def, look, pureR, COp.f, boolOf, asgT_nm, BOp.f, cmpI, Cfg.call, mkT, mkL, addV, subV, PL.eqV, eqF, q0, q1, q2, q3, q4, q5, q6, c_draw, e2, ip]) ⟨pre_mk k_fade (.cons hn (.cons ?_ .nil)), o2, rfl, h2.mono (by omega)⟩
      rw [th_share]
      simp at hp
      rcases hp with rfl | rfl | rfl | rfl <;> simp [sharesT, i2]
    refine WR.ifF (st' := o1 :: rest) (by simp [evSs, evS, ev, EV.mk', EV.cmp, evs, evo, M.bind_def, look, pureR, COp.f, boolOf, asgT_nm, BOp.f, cmpI, Cfg.call, mkT, mkL, addV, subV, PL.eqV, eqF, q0, q1, q2, q3, q4, q5, q6, c_draw, c3]) ?_
    by_cases c4 : w = 4
    · obtain ⟨r2, o2, e2, a2, b2, h2⟩ := draw_ok (n := n) (rest := rest) h1 (by omega) (b := 2) (by omega) (by omega)
      exact WR.rt (p := .tup [.str "hide", nm, .bl (r2 == 0)]) (st' := o2 :: rest) (by simp [evSs, evS, ev, EV.mk', EV.cmp, evs, evo, M.bind_def, look, pureR, COp.f, boolOf, asgT_nm, BOp.f, cmpI, Cfg.call, mkT, mkL, addV, subV, PL.eqV, eqF, q0, q1, q2, q3, q4, q5, q6, c_draw, c4, e2]) ⟨pre_mk k_hide (.cons hn (.cons (truth_in _) .nil)), o2, rfl, h2.mono (by omega)⟩
    · obtain ⟨r2, o2, e2, a2, b2, h2⟩ := draw_ok (n := n) (rest := rest) h1 (by omega) (b := 3) (by omega) (by omega)
      refine WR.rt (p := .tup [.str "order", nm, .int r2]) (st' := o2 :: rest) (by simp [evSs, evS, ev, EV.mk', EV.cmp, evs, evo, M.bind_def, look, pureR, COp.f, boolOf, asgT_nm, BOp.f, cmpI, Cfg.call, mkT, mkL, addV, subV, PL.eqV, eqF, q0, q1, q2, q3, q4, q5, q6, c_draw, c4, e2]) ⟨pre_mk k_order (.cons hn (.cons ?_ .nil)), o2, rfl, h2.mono (by omega)⟩
      rw [th_figure]
      have : r2 = 0 ∨ r2 = 1 ∨ r2 = 2 := by omega
      rcases this with rfl | rfl | rfl <;> simp [figuresT, List.range, List.range.loop]
  obtain ⟨p, st', e, q, o', rfl, h'⟩ := WR.run (d := d_law_state_deed) (ps := [PV.ref 0, nm]) rfl run
  exact ⟨p, o', e, q, h'⟩
end S86

namespace S86
open PySem PySem.Spec PyProof.Rows L2 PL
/-- the six names of deeds -/
def namesD : List PV := [.str "a", .str "b", .str "c", .str "d", .str "e", .str "f"]
theorem namesD_T {p : PV} (h : p ∈ namesD) : p ∈ things "name" := by
  rw [th_name]
  simp [namesD] at h
  rcases h with rfl | rfl | rfl | rfl | rfl | rfl <;> simp [namesT]
theorem fig_in {i : Int} (h0 : 0 ≤ i) (h1 : i < 80) : PV.int i ∈ figuresT := by
  unfold figuresT
  rw [List.map_append]
  refine List.mem_append_left _ (List.mem_map.mpr ⟨i, List.mem_map.mpr ⟨i.toNat, List.mem_range.mpr (by omega), ?_⟩, rfl⟩)
  show (i.toNat : Int) = i
  omega
theorem deed_ok {n N : Nat} {o : PL.PO} {t T : Int} (h : FeedAt N o) (hN : N + 20 < 1000000) (t0 : 0 ≤ t) (t1 : t ≤ T) (t2 : T < 70) :
    ∃ row o' t', R (n + 2) d_law_deed [.ref 0, .ref 1] [o, .lst [.int t]] = .ok row [o', .lst [.int t']] ∧ PreT row ∧ FeedAt (N + 20) o' ∧ 0 ≤ t' ∧ t' ≤ T + 2 := by
  obtain ⟨r1, o1, e1, a1, b1, h1⟩ := draw_ok (n := n + 1) (rest := [.lst [.int t]]) h (by omega) (b := 4) (by omega) (by omega)
  obtain ⟨r2, o2, e2, a2, b2, h2⟩ := draw_ok (n := n + 1) (rest := [.lst [.int t]]) h1 (by omega) (b := 3) (by omega) (by omega)
  obtain ⟨nm0, hn0, in0⟩ := ix_menu (xs := [.str "a", .str "b", .str "c", .str "d"]) a1 (by simpa using b1)
  obtain ⟨bd, hbd, inb⟩ := ix_menu (xs := [.str "p", .str "q", .str "r"]) a2 (by simpa using b2)
  have in0 := in0 (o1 :: [.lst [.int t]])
  have inb := inb (o2 :: [.lst [.int t]])
  obtain ⟨r3, o3, e3, a3, b3, h3⟩ := draw_ok (n := n + 1) (rest := [.lst [.int t]]) h2 (by omega) (b := 6) (by omega) (by omega)
  have bdT : bd ∈ things "name" := by
    rw [th_name]
    simp at hbd
    rcases hbd with rfl | rfl | rfl <;> simp [namesT]
  have bdB : bd ∈ boardsT := by
    simp at hbd
    rcases hbd with rfl | rfl | rfl <;> simp [boardsT]
  -- the name
  have name : ∃ nm o4, nm ∈ namesD ∧ FeedAt (N + 4) o4 ∧ evS ⟨G, fnsL, callsN G reprD 100 defs (n + 2)⟩ reprD 100 (.asg (.nm 2) (.ite (.cmp .eq (.call false "_law_draw" (.cons (.var 0) (.cons (.int 6) .nil))) (.int 0)) (.ix (.lst false (.cons (.str "e") (.cons (.str "f") .nil))) (.call false "_law_draw" (.cons (.var 0) (.cons (.int 2) .nil)))) (.var 2)))
      [some (.ref 0), some (.ref 1), some nm0, none, some bd, none, none, none] [o2, .lst [.int t]] = .ok (.nx [some (.ref 0), some (.ref 1), some nm, none, some bd, none, none, none]) [o4, .lst [.int t]] := by
    by_cases c : r3 = 0
    · obtain ⟨r4, o4, e4, a4, b4, h4⟩ := draw_ok (n := n + 1) (rest := [.lst [.int t]]) h3 (by omega) (b := 2) (by omega) (by omega)
      obtain ⟨nm, hn, inn⟩ := ix_menu (xs := [.str "e", .str "f"]) a4 (by simpa using b4)
      have inn := inn (o4 :: [.lst [.int t]])
      refine ⟨nm, o4, ?_, h4, by simp [evSs, evS, ev, EV.mk', EV.cmp, evs, evo, M.bind_def, look, pureR, COp.f, boolOf, asgT_nm, BOp.f, cmpI, Cfg.call, mkT, mkL, addV, subV, PL.eqV, eqF, q0, q1, q2, q3, q4, q5, q6, c_draw, e3, c, e4, inn]⟩
      simp at hn
      rcases hn with rfl | rfl <;> simp [namesD]
    · refine ⟨nm0, o3, ?_, h3.mono (by omega), by simp [evSs, evS, ev, EV.mk', EV.cmp, evs, evo, M.bind_def, look, pureR, COp.f, boolOf, asgT_nm, BOp.f, cmpI, Cfg.call, mkT, mkL, addV, subV, PL.eqV, eqF, q0, q1, q2, q3, q4, q5, q6, c_draw, e3, c]⟩
      simp at hn0
      rcases hn0 with rfl | rfl | rfl | rfl <;> simp [namesD]
  obtain ⟨nm, o4, hn, h4, e4⟩ := name
  have nmT := namesD_T hn
  obtain ⟨w, o5, e5, w0, w1, h5⟩ := draw_ok (n := n + 1) (rest := [.lst [.int t]]) h4 (by omega) (b := 30) (by omega) (by omega)
  have run : WR (evSs ⟨G, fnsL, callsN G reprD 100 defs (n + 2)⟩ reprD 100 d_law_deed.body ([PV.ref 0, PV.ref 1].map some ++ List.replicate (d_law_deed.slots.length - 2) none)) [o, .lst [.int t]]
      fun row st => PreT row ∧ ∃ o' t', st = [o', .lst [.int t']] ∧ FeedAt (N + 20) o' ∧ 0 ≤ t' ∧ t' ≤ T + 2 := by
    unfold d_law_deed
    refine WR.nx (e := [some (.ref 0), some (.ref 1), some nm0, none, some bd, none, none, none]) (st' := [o2, .lst [.int t]]) (by simp [evSs, evS, ev, EV.mk', EV.cmp, evs, evo, M.bind_def, look, pureR, COp.f, boolOf, asgT_nm, BOp.f, cmpI, Cfg.call, mkT, mkL, addV, subV, PL.eqV, eqF, q0, q1, q2, q3, q4, q5, q6, c_draw, e1, in0, e2, inb]) ?_
    refine WR.nx e4 ?_
    refine WR.nx (e := [some (.ref 0), some (.ref 1), some nm, some (.int w), some bd, none, none, none]) (st' := [o5, .lst [.int t]]) (by simp [evSs, evS, ev, EV.mk', EV.cmp, evs, evo, M.bind_def, look, pureR, COp.f, boolOf, asgT_nm, BOp.f, cmpI, Cfg.call, mkT, mkL, addV, subV, PL.eqV, eqF, q0, q1, q2, q3, q4, q5, q6, c_draw, e5]) ?_
    by_cases c1 : w < 4
    · refine WR.ifT (st' := [o5, .lst [.int t]]) (by simp [evSs, evS, ev, EV.mk', EV.cmp, evs, evo, M.bind_def, look, pureR, COp.f, boolOf, asgT_nm, BOp.f, cmpI, Cfg.call, mkT, mkL, addV, subV, PL.eqV, eqF, q0, q1, q2, q3, q4, q5, q6, c_draw, c1]) ?_
      obtain ⟨r6, o6, e6, a6, b6, h6⟩ := draw_ok (n := n + 1) (rest := [.lst [.int t]]) h5 (by omega) (b := 4) (by omega) (by omega)
      obtain ⟨rg, hr, ir⟩ := ix_menu (xs := [.tup [.tup [.int 0, .int 0, .int 8, .int 8]], .tup [.tup [.int 1, .int 0, .int 2, .int 1]], .tup [], .tup [.tup [.int 0, .int 0, .int 1, .int 1], .tup [.int 0, .int 1, .int 2, .int 2]]]) a6 (by simpa using b6)
      have ir := ir (o6 :: [.lst [.int t]])
      obtain ⟨px, o7, e7, hpx, h7⟩ := pixel_ok (n := n) (rest := [.lst [.int t]]) h6 (by omega)
      refine WR.nx (e := [some (.ref 0), some (.ref 1), some nm, some (.int w), some bd, some rg, none, none]) (st' := [o6, .lst [.int t]]) (by simp [evSs, evS, ev, EV.mk', EV.cmp, evs, evo, M.bind_def, look, pureR, COp.f, boolOf, asgT_nm, BOp.f, cmpI, Cfg.call, mkT, mkL, addV, subV, PL.eqV, eqF, q0, q1, q2, q3, q4, q5, q6, c_draw, e6, ir]) ?_
      refine WR.rt (p := .tup [.str "draw", bd, rg, px]) (st' := [o7, .lst [.int t]]) (by simp [evSs, evS, ev, EV.mk', EV.cmp, evs, evo, M.bind_def, look, pureR, COp.f, boolOf, asgT_nm, BOp.f, cmpI, Cfg.call, mkT, mkL, addV, subV, PL.eqV, eqF, q0, q1, q2, q3, q4, q5, q6, c_draw, c_pixel, e7]) ⟨pre_mk k_draw (.cons bdT (.cons ?_ (.cons (by rw [th_pixel]; exact hpx) .nil))), o7, t, rfl, h7.mono (by omega), t0, by omega⟩
      rw [th_region]
      simp at hr
      rcases hr with rfl | rfl | rfl | rfl <;> simp [regionsT, i4]
    refine WR.ifF (st' := [o5, .lst [.int t]]) (by simp [evSs, evS, ev, EV.mk', EV.cmp, evs, evo, M.bind_def, look, pureR, COp.f, boolOf, asgT_nm, BOp.f, cmpI, Cfg.call, mkT, mkL, addV, subV, PL.eqV, eqF, q0, q1, q2, q3, q4, q5, q6, c_draw, c1]) ?_
    by_cases c2 : w < 9
    · refine WR.ifT (st' := [o5, .lst [.int t]]) (by simp [evSs, evS, ev, EV.mk', EV.cmp, evs, evo, M.bind_def, look, pureR, COp.f, boolOf, asgT_nm, BOp.f, cmpI, Cfg.call, mkT, mkL, addV, subV, PL.eqV, eqF, q0, q1, q2, q3, q4, q5, q6, c_draw, c2]) ?_
      obtain ⟨r6, o6, e6, a6, b6, h6⟩ := draw_ok (n := n + 1) (rest := [.lst [.int t]]) h5 (by omega) (b := 5) (by omega) (by omega)
      obtain ⟨b2, hb2, ib2⟩ := ix_menu (xs := [bd, bd, bd, .non, .str "no"]) a6 (by simpa using b6)
      have ib2 := ib2 (o6 :: [.lst [.int t]])
      obtain ⟨r7, o7, e7, a7, b7, h7⟩ := draw_ok (n := n + 1) (rest := [.lst [.int t]]) h6 (by omega) (b := 4) (by omega) (by omega)
      obtain ⟨rg, hr, ir⟩ := ix_menu (xs := [.tup [.tup [.int 0, .int 0, .int 8, .int 8]], .tup [.tup [.int 0, .int 0, .int 8, .int 8]], .tup [.tup [.int 0, .int 0, .int 1, .int 1]], .tup []]) a7 (by simpa using b7)
      have ir := ir (o7 :: [.lst [.int t]])
      obtain ⟨r8, o8, e8, a8, b8, h8⟩ := draw_ok (n := n + 1) (rest := [.lst [.int t]]) h7 (by omega) (b := 3) (by omega) (by omega)
      obtain ⟨sc, hs, is⟩ := ix_menu (xs := [.tup [.int 0, .int 0], .tup [.int 0, .int 0], .tup [.int 1, .int 0]]) a8 (by simpa using b8)
      have is := is (o8 :: [.lst [.int t]])
      refine WR.nx (e := [some (.ref 0), some (.ref 1), some nm, some (.int w), some b2, none, none, none]) (st' := [o6, .lst [.int t]]) (by simp [evSs, evS, ev, EV.mk', EV.cmp, evs, evo, M.bind_def, look, pureR, COp.f, boolOf, asgT_nm, BOp.f, cmpI, Cfg.call, mkT, mkL, addV, subV, PL.eqV, eqF, q0, q1, q2, q3, q4, q5, q6, c_draw, e6, ib2]) ?_
      refine WR.nx (e := [some (.ref 0), some (.ref 1), some nm, some (.int w), some b2, none, some rg, none]) (st' := [o7, .lst [.int t]]) (by simp [evSs, evS, ev, EV.mk', EV.cmp, evs, evo, M.bind_def, look, pureR, COp.f, boolOf, asgT_nm, BOp.f, cmpI, Cfg.call, mkT, mkL, addV, subV, PL.eqV, eqF, q0, q1, q2, q3, q4, q5, q6, c_draw, e7, ir]) ?_
      refine WR.rt (p := .tup [.str "attach", nm, b2, rg, sc]) (st' := [o8, .lst [.int t]]) (by simp [evSs, evS, ev, EV.mk', EV.cmp, evs, evo, M.bind_def, look, pureR, COp.f, boolOf, asgT_nm, BOp.f, cmpI, Cfg.call, mkT, mkL, addV, subV, PL.eqV, eqF, q0, q1, q2, q3, q4, q5, q6, c_draw, e8, is]) ⟨pre_mk k_attach (.cons nmT (.cons ?_ (.cons ?_ (.cons ?_ .nil)))), o8, t, rfl, h8.mono (by omega), t0, by omega⟩
      · rw [th_board]
        simp at hb2
        rcases hb2 with rfl | rfl | rfl
        · exact bdB
        · simp [boardsT]
        · simp [boardsT]
      · rw [th_region]
        simp at hr
        rcases hr with rfl | rfl | rfl <;> simp [regionsT, i4]
      · rw [th_pair]
        simp at hs
        rcases hs with rfl | rfl <;> simp [pairsT, i2]
    refine WR.ifF (st' := [o5, .lst [.int t]]) (by simp [evSs, evS, ev, EV.mk', EV.cmp, evs, evo, M.bind_def, look, pureR, COp.f, boolOf, asgT_nm, BOp.f, cmpI, Cfg.call, mkT, mkL, addV, subV, PL.eqV, eqF, q0, q1, q2, q3, q4, q5, q6, c_draw, c2]) ?_
    by_cases c3 : w < 16
    · refine WR.ifT (st' := [o5, .lst [.int t]]) (by simp [evSs, evS, ev, EV.mk', EV.cmp, evs, evo, M.bind_def, look, pureR, COp.f, boolOf, asgT_nm, BOp.f, cmpI, Cfg.call, mkT, mkL, addV, subV, PL.eqV, eqF, q0, q1, q2, q3, q4, q5, q6, c_draw, c3]) ?_
      exact WR.rt (p := .tup [.str "commit", nm]) (st' := [o5, .lst [.int t]]) (by simp [evSs, evS, ev, EV.mk', EV.cmp, evs, evo, M.bind_def, look, pureR, COp.f, boolOf, asgT_nm, BOp.f, cmpI, Cfg.call, mkT, mkL, addV, subV, PL.eqV, eqF, q0, q1, q2, q3, q4, q5, q6, c_draw]) ⟨pre_mk k_commit (.cons nmT .nil), o5, t, rfl, h5.mono (by omega), t0, by omega⟩
    refine WR.ifF (st' := [o5, .lst [.int t]]) (by simp [evSs, evS, ev, EV.mk', EV.cmp, evs, evo, M.bind_def, look, pureR, COp.f, boolOf, asgT_nm, BOp.f, cmpI, Cfg.call, mkT, mkL, addV, subV, PL.eqV, eqF, q0, q1, q2, q3, q4, q5, q6, c_draw, c3]) ?_
    by_cases c4 : w < 20
    · refine WR.ifT (st' := [o5, .lst [.int t]]) (by simp [evSs, evS, ev, EV.mk', EV.cmp, evs, evo, M.bind_def, look, pureR, COp.f, boolOf, asgT_nm, BOp.f, cmpI, Cfg.call, mkT, mkL, addV, subV, PL.eqV, eqF, q0, q1, q2, q3, q4, q5, q6, c_draw, c4]) ?_
      obtain ⟨row, o6, e6, pr, h6⟩ := state_ok (n := n) (rest := [.lst [.int t]]) h5 (by omega) (by rw [← th_name]; exact nmT)
      exact WR.rt (p := row) (st' := [o6, .lst [.int t]]) (by simp [evSs, evS, ev, EV.mk', EV.cmp, evs, evo, M.bind_def, look, pureR, COp.f, boolOf, asgT_nm, BOp.f, cmpI, Cfg.call, mkT, mkL, addV, subV, PL.eqV, eqF, q0, q1, q2, q3, q4, q5, q6, c_draw, c_state, e6]) ⟨pr, o6, t, rfl, h6.mono (by omega), t0, by omega⟩
    refine WR.ifF (st' := [o5, .lst [.int t]]) (by simp [evSs, evS, ev, EV.mk', EV.cmp, evs, evo, M.bind_def, look, pureR, COp.f, boolOf, asgT_nm, BOp.f, cmpI, Cfg.call, mkT, mkL, addV, subV, PL.eqV, eqF, q0, q1, q2, q3, q4, q5, q6, c_draw, c4]) ?_
    by_cases c5 : w < 24
    · refine WR.ifT (st' := [o5, .lst [.int t]]) (by simp [evSs, evS, ev, EV.mk', EV.cmp, evs, evo, M.bind_def, look, pureR, COp.f, boolOf, asgT_nm, BOp.f, cmpI, Cfg.call, mkT, mkL, addV, subV, PL.eqV, eqF, q0, q1, q2, q3, q4, q5, q6, c_draw, c5]) ?_
      obtain ⟨r6, o6, e6, a6, b6, h6⟩ := draw_ok (n := n + 1) (rest := [.lst [.int t]]) h5 (by omega) (b := 2) (by omega) (by omega)
      obtain ⟨r7, o7, e7, a7, b7, h7⟩ := draw_ok (n := n + 1) (rest := [.lst [.int (t + r6)]]) h6 (by omega) (b := 5) (by omega) (by omega)
      obtain ⟨fl, hf, iff⟩ := ix_menu (xs := [.tup [], .tup [], .tup [nm], .tup [.str "a", .str "b"], .tup [.str "a", .str "b", .str "c"]]) a7 (by simpa using b7)
      have iff := iff (o7 :: [.lst [.int (t + r6)]])
      obtain ⟨r8, o8, e8, a8, b8, h8⟩ := draw_ok (n := n + 1) (rest := [.lst [.int (t + r6)]]) h7 (by omega) (b := 2) (by omega) (by omega)
      refine WR.nx (e := [some (.ref 0), some (.ref 1), some nm, some (.int w), some bd, none, none, none]) (st' := [o6, .lst [.int (t + r6)]]) (by simp [evSs, evS, ev, EV.mk', EV.cmp, evs, evo, M.bind_def, look, pureR, COp.f, boolOf, asgT_nm, BOp.f, cmpI, Cfg.call, mkT, mkL, addV, subV, PL.eqV, eqF, q0, q1, q2, q3, q4, q5, q6, c_draw, e6, ixV, ixD, atI, ixN, setV]) ?_
      refine WR.nx (e := [some (.ref 0), some (.ref 1), some nm, some (.int w), some bd, none, none, some fl]) (st' := [o7, .lst [.int (t + r6)]]) (by simp [evSs, evS, ev, EV.mk', EV.cmp, evs, evo, M.bind_def, look, pureR, COp.f, boolOf, asgT_nm, BOp.f, cmpI, Cfg.call, mkT, mkL, addV, subV, PL.eqV, eqF, q0, q1, q2, q3, q4, q5, q6, c_draw, e7, iff]) ?_
      refine WR.rt (p := .tup [.str "latch", .int (t + r6), .int (1 + r8), .non, fl]) (st' := [o8, .lst [.int (t + r6)]]) (by simp [evSs, evS, ev, EV.mk', EV.cmp, evs, evo, M.bind_def, look, pureR, COp.f, boolOf, asgT_nm, BOp.f, cmpI, Cfg.call, mkT, mkL, addV, subV, PL.eqV, eqF, q0, q1, q2, q3, q4, q5, q6, c_draw, e8, ixV, ixD, atI, ixN]) ⟨.inr ⟨_, _, _, _, rfl, fig_in (by omega) (by omega), ?_, ?_⟩, o8, _, rfl, h8.mono (by omega), by omega, by omega⟩
      · have : r8 = 0 ∨ r8 = 1 := by omega
        rcases this with rfl | rfl <;> simp [countsT]
      · simp at hf
        simp [namesD] at hn
        rcases hf with rfl | rfl | rfl | rfl
        · simp [flatsT]
        · rcases hn with rfl | rfl | rfl | rfl | rfl | rfl <;> simp [flatsT, namesT]
        · simp [flatsT]
        · simp [flatsT]
    refine WR.ifF (st' := [o5, .lst [.int t]]) (by simp [evSs, evS, ev, EV.mk', EV.cmp, evs, evo, M.bind_def, look, pureR, COp.f, boolOf, asgT_nm, BOp.f, cmpI, Cfg.call, mkT, mkL, addV, subV, PL.eqV, eqF, q0, q1, q2, q3, q4, q5, q6, c_draw, c5]) ?_
    by_cases c6 : w < 27
    · refine WR.ifT (st' := [o5, .lst [.int t]]) (by simp [evSs, evS, ev, EV.mk', EV.cmp, evs, evo, M.bind_def, look, pureR, COp.f, boolOf, asgT_nm, BOp.f, cmpI, Cfg.call, mkT, mkL, addV, subV, PL.eqV, eqF, q0, q1, q2, q3, q4, q5, q6, c_draw, c6]) ?_
      obtain ⟨r6, o6, e6, a6, b6, h6⟩ := draw_ok (n := n + 1) (rest := [.lst [.int t]]) h5 (by omega) (b := 3) (by omega) (by omega)
      refine WR.nx (e := [some (.ref 0), some (.ref 1), some nm, some (.int w), some bd, none, none, none]) (st' := [o6, .lst [.int (t + r6)]]) (by simp [evSs, evS, ev, EV.mk', EV.cmp, evs, evo, M.bind_def, look, pureR, COp.f, boolOf, asgT_nm, BOp.f, cmpI, Cfg.call, mkT, mkL, addV, subV, PL.eqV, eqF, q0, q1, q2, q3, q4, q5, q6, c_draw, e6, ixV, ixD, atI, ixN, setV]) ?_
      exact WR.rt (p := .tup [.str "refresh", .int (t + r6)]) (st' := [o6, .lst [.int (t + r6)]]) (by simp [evSs, evS, ev, EV.mk', EV.cmp, evs, evo, M.bind_def, look, pureR, COp.f, boolOf, asgT_nm, BOp.f, cmpI, Cfg.call, mkT, mkL, addV, subV, PL.eqV, eqF, q0, q1, q2, q3, q4, q5, q6, c_draw, ixV, ixD, atI, ixN]) ⟨pre_mk k_refresh (.cons (by rw [th_figure]; exact fig_in (by omega) (by omega)) .nil), o6, _, rfl, h6.mono (by omega), by omega, by omega⟩
    refine WR.ifF (st' := [o5, .lst [.int t]]) (by simp [evSs, evS, ev, EV.mk', EV.cmp, evs, evo, M.bind_def, look, pureR, COp.f, boolOf, asgT_nm, BOp.f, cmpI, Cfg.call, mkT, mkL, addV, subV, PL.eqV, eqF, q0, q1, q2, q3, q4, q5, q6, c_draw, c6]) ?_
    by_cases c7 : w = 27
    · refine WR.ifT (st' := [o5, .lst [.int t]]) (by simp [evSs, evS, ev, EV.mk', EV.cmp, evs, evo, M.bind_def, look, pureR, COp.f, boolOf, asgT_nm, BOp.f, cmpI, Cfg.call, mkT, mkL, addV, subV, PL.eqV, eqF, q0, q1, q2, q3, q4, q5, q6, c_draw, c7]) ?_
      obtain ⟨r6, o6, e6, a6, b6, h6⟩ := draw_ok (n := n + 1) (rest := [.lst [.int t]]) h5 (by omega) (b := 4) (by omega) (by omega)
      obtain ⟨rw', hr, ir⟩ := ix_menu (xs := [.tup [.str "add", nm, .str ""], .tup [.str "add", nm, .str "b"], .tup [.str "make", bd, .int 2, .int 1], .tup [.str "scrap", bd]]) a6 (by simpa using b6)
      have ir := ir (o6 :: [.lst [.int t]])
      refine WR.rt (p := rw') (st' := [o6, .lst [.int t]]) (by simp [evSs, evS, ev, EV.mk', EV.cmp, evs, evo, M.bind_def, look, pureR, COp.f, boolOf, asgT_nm, BOp.f, cmpI, Cfg.call, mkT, mkL, addV, subV, PL.eqV, eqF, q0, q1, q2, q3, q4, q5, q6, c_draw, e6, ir]) ⟨?_, o6, t, rfl, h6.mono (by omega), t0, by omega⟩
      simp at hr
      rcases hr with rfl | rfl | rfl | rfl
      · exact pre_mk k_add (.cons nmT (.cons (by rw [th_parent]; simp [parentsT]) .nil))
      · exact pre_mk k_add (.cons nmT (.cons (by rw [th_parent]; simp [parentsT]) .nil))
      · exact pre_mk k_make (.cons bdT (.cons (by rw [th_count]; simp [countsT]) (.cons (by rw [th_count]; simp [countsT]) .nil)))
      · exact pre_mk k_scrap (.cons bdT .nil)
    refine WR.ifF (st' := [o5, .lst [.int t]]) (by simp [evSs, evS, ev, EV.mk', EV.cmp, evs, evo, M.bind_def, look, pureR, COp.f, boolOf, asgT_nm, BOp.f, cmpI, Cfg.call, mkT, mkL, addV, subV, PL.eqV, eqF, q0, q1, q2, q3, q4, q5, q6, c_draw, c7]) ?_
    by_cases c8 : w = 28
    · obtain ⟨r6, o6, e6, a6, b6, h6⟩ := draw_ok (n := n + 1) (rest := [.lst [.int t]]) h5 (by omega) (b := 2) (by omega) (by omega)
      exact WR.rt (p := .tup [.str "flag", nm, .bl (r6 == 0)]) (st' := [o6, .lst [.int t]]) (by simp [evSs, evS, ev, EV.mk', EV.cmp, evs, evo, M.bind_def, look, pureR, COp.f, boolOf, asgT_nm, BOp.f, cmpI, Cfg.call, mkT, mkL, addV, subV, PL.eqV, eqF, q0, q1, q2, q3, q4, q5, q6, c_draw, c8, e6]) ⟨pre_mk k_flag (.cons nmT (.cons (truth_in _) .nil)), o6, t, rfl, h6.mono (by omega), t0, by omega⟩
    · obtain ⟨r6, o6, e6, a6, b6, h6⟩ := draw_ok (n := n + 1) (rest := [.lst [.int t]]) h5 (by omega) (b := 3) (by omega) (by omega)
      obtain ⟨n2, hn2, in2⟩ := ix_menu (xs := [.str "c", .str "d", nm]) a6 (by simpa using b6)
      have in2 := in2 (o6 :: [.lst [.int t]])
      refine WR.rt (p := .tup [.str "drop", n2]) (st' := [o6, .lst [.int t]]) (by simp [evSs, evS, ev, EV.mk', EV.cmp, evs, evo, M.bind_def, look, pureR, COp.f, boolOf, asgT_nm, BOp.f, cmpI, Cfg.call, mkT, mkL, addV, subV, PL.eqV, eqF, q0, q1, q2, q3, q4, q5, q6, c_draw, c8, e6, in2]) ⟨pre_mk k_drop (.cons ?_ .nil), o6, t, rfl, h6.mono (by omega), t0, by omega⟩
      simp at hn2
      rcases hn2 with rfl | rfl | rfl
      · exact namesD_T (by simp [namesD])
      · exact namesD_T (by simp [namesD])
      · exact nmT
  obtain ⟨p, st', e, q, o', t', rfl, h'⟩ := WR.run (d := d_law_deed) (ps := [PV.ref 0, PV.ref 1]) rfl run
  exact ⟨p, o', t', e, q, h'⟩
end S86

namespace S86
open PySem PySem.Spec PyProof.Rows L2 PL
theorem q8 : 8 ≤ sizeLine := by decide
theorem q10 : 10 ≤ sizeLine := by decide
theorem q13 : 13 ≤ sizeLine := by decide
theorem q17 : 17 ≤ sizeLine := by decide
theorem th_back : things "back" = backsT := by rfl
theorem row_mk {w : Str} {fs : List Str} {ps : List PV} (k : (words16.contains w && (match formsP w with | some l => eqPVs l (fs.map .str) | none => false) && fs.all (fun f => formsAll.contains f) && decide (fs.length ≤ 5)) = true) (m : Paired (fun f p => p ∈ things f) fs ps) : RowT (.tup (.str w :: ps)) := by
  simp only [Bool.and_eq_true, decide_eq_true_eq] at k
  obtain ⟨⟨⟨k1, k4⟩, k5⟩, k6⟩ := k
  obtain ⟨i1, i2⟩ := pair_and (fun f hf => by simpa using List.all_eq_true.mp k5 f hf) m
  refine ⟨w, ps, fs, rfl, by simpa using k1, ?_, by omega, i1⟩
  split at k4
  · rename_i l e
    rw [e, eqPVs_sound _ _ k4]
  · cases k4
theorem k_court : (words16.contains "court" && (match formsP "court" with | some l => eqPVs l ((["count", "count", "back", "count", "count"] : List Str).map .str) | none => false) && (["count", "count", "back", "count", "count"] : List Str).all (fun f => formsAll.contains f) && decide ((["count", "count", "back", "count", "count"] : List Str).length ≤ 5)) = true := by decide +kernel
theorem k_latch : (words16.contains "latch" && (match formsP "latch" with | some l => eqPVs l ((["figure", "count", "figure", "names"] : List Str).map .str) | none => false) && (["figure", "count", "figure", "names"] : List Str).all (fun f => formsAll.contains f) && decide ((["figure", "count", "figure", "names"] : List Str).length ≤ 5)) = true := by decide +kernel
theorem cnt_in {i : Int} (h0 : 1 ≤ i) (h1 : i ≤ 4) : PV.int i ∈ things "count" := by
  rw [th_count]
  have : i = 1 ∨ i = 2 ∨ i = 3 ∨ i = 4 := by omega
  rcases this with rfl | rfl | rfl | rfl <;> simp [countsT]
theorem begin_ok {n N : Nat} {o : PL.PO} (h : FeedAt N o) (hN : N + 20 < 1000000) : ∃ ps o', R (n + 1) d_law_begin [.ref 0] [o] = .ok (.tup (.str "court" :: ps)) [o'] ∧ RowT (.tup (.str "court" :: ps)) ∧ FeedAt (N + 10) o' := by
  obtain ⟨r1, o1, e1, a1, b1, h1⟩ := draw_ok (n := n) (rest := []) h (by omega) (b := 2) (by omega) (by omega)
  obtain ⟨bk, hb, ib⟩ := ix_menu (xs := [.tup [.tup [.int 0, .int 1], .tup [.int 1, .int 1]], .tup [.tup [.int 1, .int 2], .tup [.int 1, .int 1]]]) a1 (by simpa using b1)
  have ib := ib [o1]
  obtain ⟨r2, o2, e2, a2, b2, h2⟩ := draw_ok (n := n) (rest := []) h1 (by omega) (b := 4) (by omega) (by omega)
  obtain ⟨r3, o3, e3, a3, b3, h3⟩ := draw_ok (n := n) (rest := []) h2 (by omega) (b := 3) (by omega) (by omega)
  obtain ⟨r4, o4, e4, a4, b4, h4⟩ := draw_ok (n := n) (rest := []) h3 (by omega) (b := 3) (by omega) (by omega)
  obtain ⟨r5, o5, e5, a5, b5, h5⟩ := draw_ok (n := n) (rest := []) h4 (by omega) (b := 3) (by omega) (by omega)
  have run : WR (evSs ⟨G, fnsL, callsN G reprD 100 defs (n + 1)⟩ reprD 100 d_law_begin.body ([PV.ref 0].map some ++ List.replicate (d_law_begin.slots.length - 1) none)) [o]
      fun row st => row = .tup (.str "court" :: [.int (1 + r2), .int (1 + r3), bk, .int (2 + r4), .int (1 + r5)]) ∧ st = [o5] := by
    unfold d_law_begin
    refine WR.nx (e := [some (.ref 0), some bk, none, none]) (st' := [o1]) (by simp [evSs, evS, ev, EV.mk', EV.cmp, evs, evo, M.bind_def, look, pureR, COp.f, boolOf, asgT_nm, BOp.f, cmpI, Cfg.call, mkT, mkL, addV, subV, PL.eqV, eqF, q0, q1, q2, q3, q4, q5, q6, c_draw, e1, ib]) ?_
    refine WR.nx (e := [some (.ref 0), some bk, some (.int (1 + r2)), some (.int (1 + r3))]) (st' := [o3]) (by simp [evSs, evS, ev, EV.mk', EV.cmp, evs, evo, M.bind_def, look, pureR, COp.f, boolOf, asgT_nm, BOp.f, cmpI, Cfg.call, mkT, mkL, addV, subV, PL.eqV, eqF, q0, q1, q2, q3, q4, q5, q6, c_draw, e2, e3]) ?_
    exact WR.rt (p := .tup (.str "court" :: [.int (1 + r2), .int (1 + r3), bk, .int (2 + r4), .int (1 + r5)])) (st' := [o5]) (by simp [evSs, evS, ev, EV.mk', EV.cmp, evs, evo, M.bind_def, look, pureR, COp.f, boolOf, asgT_nm, BOp.f, cmpI, Cfg.call, mkT, mkL, addV, subV, PL.eqV, eqF, q0, q1, q2, q3, q4, q5, q6, c_draw, e4, e5]) ⟨rfl, rfl⟩
  obtain ⟨p, st', e, rfl, rfl⟩ := WR.run (d := d_law_begin) (ps := [PV.ref 0]) rfl run
  refine ⟨_, o5, e, row_mk k_court (.cons (cnt_in (by omega) (by omega)) (.cons (cnt_in (by omega) (by omega)) (.cons ?_ (.cons (cnt_in (by omega) (by omega)) (.cons (cnt_in (by omega) (by omega)) .nil))))), h5.mono (by omega)⟩
  rw [th_back]
  simp at hb
  rcases hb with rfl | rfl <;> simp [backsT, i2]
theorem hand_ok {n N : Nat} {o c : PL.PO} (h : FeedAt N o) (hN : N + 20 < 1000000) :
    ∃ rows o' junk, R (n + 1) d_law_by_hand [.ref 0] [o, c] = .ok (.lst rows) (o' :: c :: junk) ∧ (∀ r ∈ rows, PreT r) ∧ rows.length ≤ 20 := by
  obtain ⟨r1, o1, e1, a1, b1, h1⟩ := draw_ok (n := n) (rest := [c]) h (by omega) (b := 4) (by omega) (by omega)
  obtain ⟨nm, hn, inn⟩ := ix_menu (xs := [.str "a", .str "latch", .str "zzzzzzzz", .str "court"]) a1 (by simpa using b1)
  have inn := inn [o1, c]
  obtain ⟨r2, o2, e2, a2, b2, h2⟩ := draw_ok (n := n) (rest := [c]) h1 (by omega) (b := 3) (by omega) (by omega)
  obtain ⟨g, hg⟩ : ∃ g, g = 999999999 - r2 := ⟨_, rfl⟩
  have gr : g ∈ greats := by
    have : r2 = 0 ∨ r2 = 1 ∨ r2 = 2 := by omega
    rcases this with rfl | rfl | rfl <;> simp [hg, greats]
  let L1 : List PV := [.tup [.str "make", nm, .int g, .int 1], .tup [.str "place", nm, .int (-g), .int g], .tup [.str "clip", nm, .tup [.int (-g), .int (-1), .int 0, .int g]]]
  obtain ⟨r3, o3, e3, a3, b3, h3⟩ := draw_ok (n := n) (rest := [c, .lst L1, .lst (L1 ++ [.tup [.str "clip", nm, .non], .tup [.str "fade", nm, .tup [.int g, .int 999999999]], .tup [.str "order", nm, .int g]])]) h2 (by omega) (b := 4) (by omega) (by omega)
  obtain ⟨sh, hs, is⟩ := ix_menu (xs := [.tup [.int 0, .int 1], .tup [.int 1, .int 1], .tup [.int 1, .int 999999999], .tup [.int 999999998, .int 999999999]]) a3 (by simpa using b3)
  have is := is (o3 :: [c, .lst L1, .lst (L1 ++ [.tup [.str "clip", nm, .non], .tup [.str "fade", nm, .tup [.int g, .int 999999999]], .tup [.str "order", nm, .int g]])])
  let L2 : List PV := L1 ++ [.tup [.str "clip", nm, .non], .tup [.str "fade", nm, sh], .tup [.str "order", nm, .int g]]
  let rg : PV := .tup [.tup [.int (-9), .int (-9), .int (-2), .int (-8)], .tup [.int (-9), .int 0, .int 1, .int 2], .tup [.int 3, .int 0, .int 4, .int 2], .tup [.int 0, .int 2, .int g, .int 3]]
  let A3 : List PV := [.tup [.str "draw", nm, rg, .tup [.tup [.int 1, .int 16], .tup [.int 15, .int 16]]], .tup [.str "draw", nm, .tup [], .tup [.tup [.int 0, .int 1], .tup [.int 0, .int 1]]]]
  let A4 : List PV := [.tup [.str "attach", nm, .non, .tup [], .tup [.int (-g), .int g]], .tup [.str "attach", nm, .str "p", rg, .tup [.int 0, .int 0]]]
  let A5 : List PV := [.tup [.str "latch", .int g, .int g, .int g, .tup [.str "a", .str "zzzzzzzz", .str "b"]], .tup [.str "latch", .int 0, .int 1, .int 0, .tup []], .tup [.str "refresh", .int g]]
  let A6 : List PV := [.tup [.str "add", nm, .str ""], .tup [.str "add", nm, .str "court"], .tup [.str "flag", nm, .bl true], .tup [.str "hide", nm, .bl false]]
  have run : WR (evSs ⟨G, fnsL, callsN G reprD 100 defs (n + 1)⟩ reprD 100 d_law_by_hand.body ([PV.ref 0].map some ++ List.replicate (d_law_by_hand.slots.length - 1) none)) [o, c]
      fun p st => p = .lst (L2 ++ A3 ++ A4 ++ A5 ++ A6) ∧ ∃ o' junk, st = o' :: c :: junk := by
    unfold d_law_by_hand
    refine WR.nx (e := [some (.ref 0), some nm, none, none, none]) (st' := [o1, c]) (by simp [evSs, evS, ev, EV.mk', EV.cmp, evs, evo, M.bind_def, look, pureR, COp.f, boolOf, asgT_nm, BOp.f, cmpI, Cfg.call, mkT, mkL, addV, subV, PL.eqV, eqF, q0, q1, q2, q3, q4, q5, q6, c_draw, e1, inn]) ?_
    refine WR.nx (e := [some (.ref 0), some nm, some (.int g), none, none]) (st' := [o2, c]) (by simp [evSs, evS, ev, EV.mk', EV.cmp, evs, evo, M.bind_def, look, pureR, COp.f, boolOf, asgT_nm, BOp.f, cmpI, Cfg.call, mkT, mkL, addV, subV, PL.eqV, eqF, q0, q1, q2, q3, q4, q5, q6, c_draw, e2, hg]) ?_
    refine WR.nx (e := [some (.ref 0), some nm, some (.int g), some (.ref 2), none]) (st' := [o2, c, .lst L1]) (by simp [evSs, evS, ev, EV.mk', EV.cmp, evs, evo, M.bind_def, look, pureR, COp.f, boolOf, asgT_nm, BOp.f, cmpI, Cfg.call, mkT, mkL, addV, subV, PL.eqV, eqF, q0, q1, q2, q3, q4, q5, q6, c_draw, L1]) ?_
    refine WR.nx (e := [some (.ref 0), some nm, some (.int g), some (.ref 3), none]) (st' := [o2, c, .lst L1, .lst (L1 ++ [.tup [.str "clip", nm, .non], .tup [.str "fade", nm, .tup [.int g, .int 999999999]], .tup [.str "order", nm, .int g]])]) (by simp [evSs, evS, ev, EV.mk', EV.cmp, evs, evo, M.bind_def, look, pureR, COp.f, boolOf, asgT_nm, BOp.f, cmpI, Cfg.call, mkT, mkL, addV, subV, PL.eqV, eqF, q0, q1, q2, q3, q4, q5, q6, c_draw, seqM, L1]) ?_
    refine WR.nx (e := [some (.ref 0), some nm, some (.int g), some (.ref 3), none]) (st' := [o3, c, .lst L1, .lst L2]) (by simp [L1] at e3 is; simp [evSs, evS, ev, EV.mk', EV.cmp, evs, evo, M.bind_def, look, pureR, COp.f, boolOf, asgT_nm, BOp.f, cmpI, Cfg.call, mkT, mkL, addV, subV, PL.eqV, eqF, q0, q1, q2, q3, q4, q5, q6, c_draw, L1, L2, e3, is, setV, ixN]) ?_
    refine WR.nx (e := [some (.ref 0), some nm, some (.int g), some (.ref 3), some rg]) (st' := [o3, c, .lst L1, .lst L2]) (by simp [evSs, evS, ev, EV.mk', EV.cmp, evs, evo, M.bind_def, look, pureR, COp.f, boolOf, asgT_nm, BOp.f, cmpI, Cfg.call, mkT, mkL, addV, subV, PL.eqV, eqF, q0, q1, q2, q3, q4, q5, q6, c_draw, rg]) ?_
    refine WR.nx (e := [some (.ref 0), some nm, some (.int g), some (.ref 4), some rg]) (st' := [o3, c, .lst L1, .lst L2, .lst (L2 ++ A3)]) (by simp [evSs, evS, ev, EV.mk', EV.cmp, evs, evo, M.bind_def, look, pureR, COp.f, boolOf, asgT_nm, BOp.f, cmpI, Cfg.call, mkT, mkL, addV, subV, PL.eqV, eqF, q0, q1, q2, q3, q4, q5, q6, c_draw, seqM, q8, q10, q13, q17, L1, L2, A3, rg]) ?_
    refine WR.nx (e := [some (.ref 0), some nm, some (.int g), some (.ref 5), some rg]) (st' := [o3, c, .lst L1, .lst L2, .lst (L2 ++ A3), .lst (L2 ++ A3 ++ A4)]) (by simp [evSs, evS, ev, EV.mk', EV.cmp, evs, evo, M.bind_def, look, pureR, COp.f, boolOf, asgT_nm, BOp.f, cmpI, Cfg.call, mkT, mkL, addV, subV, PL.eqV, eqF, q0, q1, q2, q3, q4, q5, q6, c_draw, seqM, q8, q10, q13, q17, L1, L2, A3, A4, rg]) ?_
    refine WR.nx (e := [some (.ref 0), some nm, some (.int g), some (.ref 6), some rg]) (st' := [o3, c, .lst L1, .lst L2, .lst (L2 ++ A3), .lst (L2 ++ A3 ++ A4), .lst (L2 ++ A3 ++ A4 ++ A5)]) (by simp [evSs, evS, ev, EV.mk', EV.cmp, evs, evo, M.bind_def, look, pureR, COp.f, boolOf, asgT_nm, BOp.f, cmpI, Cfg.call, mkT, mkL, addV, subV, PL.eqV, eqF, q0, q1, q2, q3, q4, q5, q6, c_draw, seqM, q8, q10, q13, q17, L1, L2, A3, A4, A5, rg]) ?_
    exact WR.rt (p := .lst (L2 ++ A3 ++ A4 ++ A5 ++ A6)) (st' := [o3, c, .lst L1, .lst L2, .lst (L2 ++ A3), .lst (L2 ++ A3 ++ A4), .lst (L2 ++ A3 ++ A4 ++ A5)]) (by simp [evSs, evS, ev, EV.mk', EV.cmp, evs, evo, M.bind_def, look, pureR, COp.f, boolOf, asgT_nm, BOp.f, cmpI, Cfg.call, mkT, mkL, addV, subV, PL.eqV, eqF, q0, q1, q2, q3, q4, q5, q6, c_draw, seqM, q8, q10, q13, q17, L1, L2, A3, A4, A5, A6, rg]) ⟨rfl, o3, _, rfl⟩
  obtain ⟨p, st', e, rfl, o', junk, rfl⟩ := WR.run (d := d_law_by_hand) (ps := [PV.ref 0]) rfl run
  refine ⟨_, o', junk, e, ?_, by simp [L2, L1, A3, A4, A5, A6]⟩
  have nmT : nm ∈ things "name" := by
    rw [th_name]
    simp at hn
    rcases hn with rfl | rfl | rfl | rfl <;> simp [namesT]
  have gc : PV.int g ∈ things "count" := by
    rw [th_count]
    exact List.mem_map.mpr ⟨g, List.mem_append_right _ gr, rfl⟩
  have gf : PV.int g ∈ things "figure" := by
    rw [th_figure]
    exact List.mem_map.mpr ⟨g, List.mem_append_right _ gr, rfl⟩
  have gn : PV.int g ∈ things "number" ∧ PV.int (-g) ∈ things "number" := by
    rw [th_number]
    exact ⟨List.mem_map.mpr ⟨g, List.mem_append_left _ (List.mem_append_right _ gr), rfl⟩, List.mem_map.mpr ⟨-g, List.mem_append_right _ (List.mem_map.mpr ⟨g, gr, rfl⟩), rfl⟩⟩
  have c1 : PV.int 1 ∈ things "count" := cnt_in (by omega) (by omega)
  have cl : PV.tup [.int (-g), .int (-1), .int 0, .int g] ∈ things "clip" := by
    rw [th_clip]
    exact List.mem_append_right _ (List.mem_map.mpr ⟨g, gr, rfl⟩)
  have rgT : rg ∈ things "region" := by
    rw [th_region]
    exact List.mem_append_right _ (List.mem_map.mpr ⟨g, gr, rfl⟩)
  have pr : PV.tup [.int (-g), .int g] ∈ things "pair" := by
    rw [th_pair]
    exact List.mem_append_right _ (List.mem_map.mpr ⟨g, gr, rfl⟩)
  have shT : sh ∈ things "share" := by
    rw [th_share]
    simp at hs
    rcases hs with rfl | rfl | rfl | rfl <;> simp [sharesT, i2]
  intro r hr
  simp only [L2, L1, A3, A4, A5, A6, List.mem_append, List.mem_cons, List.not_mem_nil, or_false] at hr
  rcases hr with ((((((rfl | rfl | rfl) | (rfl | rfl | rfl)) | (rfl | rfl)) | (rfl | rfl)) | (rfl | rfl | rfl)) | (rfl | rfl | rfl | rfl))
  · exact pre_mk k_make (.cons nmT (.cons gc (.cons c1 .nil)))
  · exact pre_mk k_place (.cons nmT (.cons gn.2 (.cons gn.1 .nil)))
  · exact pre_mk k_clip (.cons nmT (.cons cl .nil))
  · exact pre_mk k_clip (.cons nmT (.cons (by rw [th_clip]; simp [clipsT]) .nil))
  · exact pre_mk k_fade (.cons nmT (.cons shT .nil))
  · exact pre_mk k_order (.cons nmT (.cons gf .nil))
  · exact pre_mk k_draw (.cons nmT (.cons rgT (.cons (by rw [th_pixel]; simp [pixelsT, i2]) .nil)))
  · exact pre_mk k_draw (.cons nmT (.cons (by rw [th_region]; simp [regionsT]) (.cons (by rw [th_pixel]; simp [pixelsT, i2]) .nil)))
  · exact pre_mk k_attach (.cons nmT (.cons (by rw [th_board]; simp [boardsT]) (.cons (by rw [th_region]; simp [regionsT]) (.cons pr .nil))))
  · exact pre_mk k_attach (.cons nmT (.cons (by rw [th_board]; simp [boardsT]) (.cons rgT (.cons (by rw [th_pair]; simp [pairsT, i2]) .nil))))
  · exact .inr ⟨_, _, _, _, rfl, by rw [← th_figure]; exact gf, by rw [← th_count]; exact gc, by simp [flatsT]⟩
  · exact .inr ⟨_, _, _, _, rfl, fig_in (by omega) (by omega), by rw [← th_count]; exact c1, by simp [flatsT]⟩
  · exact pre_mk k_refresh (.cons gf .nil)
  · exact pre_mk k_add (.cons nmT (.cons (by rw [th_parent]; simp [parentsT]) .nil))
  · exact pre_mk k_add (.cons nmT (.cons (by rw [th_parent]; simp [parentsT]) .nil))
  · exact pre_mk k_flag (.cons nmT (.cons (truth_in _) .nil))
  · exact pre_mk k_hide (.cons nmT (.cons (truth_in _) .nil))
end S86

namespace S86
open PySem PySem.Spec PyProof.Rows L2 PL
theorem c_feed (n : Nat) : callsN G reprD 100 defs (n + 1) "_law_feed" = some (R n d_law_feed) := by rfl
theorem c_begin (n : Nat) : callsN G reprD 100 defs (n + 1) "_law_begin" = some (R n d_law_begin) := by rfl
theorem c_deed (n : Nat) : callsN G reprD 100 defs (n + 1) "_law_deed" = some (R n d_law_deed) := by rfl
theorem c_hand (n : Nat) : callsN G reprD 100 defs (n + 1) "_law_by_hand" = some (R n d_law_by_hand) := by rfl
theorem c_line (n : Nat) : callsN G reprD 100 defs (n + 1) "_law_line" = some (R n d_law_line) := by rfl
theorem c_read_row (n : Nat) : callsN G reprD 100 defs (n + 1) "read_row" = some (R n d_read_row) := by rfl
theorem c_read_log (n : Nat) : callsN G reprD 100 defs (n + 1) "read_log" = some (R n d_read_log) := by rfl
theorem c_log_lines (n : Nat) : callsN G reprD 100 defs (n + 1) "log_lines" = some (R n d_log_lines) := by rfl
theorem feed_ok {n : Nat} {ns : List Int} (h : ns.length ≤ 63) : ∃ o, R n d_law_feed [.scr ns] [] = .ok (.ref 0) [o] ∧ FeedAt 0 o := by
  have e : cutP (ns.map PV.int) none (some 63) = ns.map PV.int := cut_whole ⟨HT.sIx_none .., by
    have := HT.sIx_nat (ns.map PV.int).length (ns.map PV.int).length 63
    rw [show ((63 : Nat) : Int) = 63 from rfl] at this
    rw [this]; simp; omega⟩
  refine ⟨.lst [.lst (ns.map .int), .int 0, .int 0, .int 0], ?_, ns, 0, 0, 0, rfl, h, by omega, by omega, by omega, by omega⟩
  have l : ns.length ≤ sizeLine := by rw [sizeLine_eq]; omega
  unfold R runDef
  simp [d_law_feed, evSs, evS, ev, EV.mk', EV.cmp, evs, evo, M.bind_def, look, pureR, COp.f, boolOf, asgT_nm, BOp.f, cmpI, Cfg.call, mkT, mkL, addV, subV, PL.eqV, eqF, q0, q1, q2, q3, q4, q5, q6, c_draw, slV, seqL, seqA, partOf, e, l]
/-- row by row: the next one has all that a row of a log has -/
def FixD (row row' : PV) : Prop := noRef row' = true ∧ RowT row' ∧ ∃ w ps, row' = .tup (.str w :: ps) ∧ w ≠ "court"
theorem pairs_of {P : PV → PV → Prop} : ∀ {xs : List PV}, (∀ x ∈ xs, ∃ y, P x y) → ∃ ys, Paired P xs ys
  | [], _ => ⟨[], .nil⟩
  | x :: xs, h => by
    obtain ⟨y, hy⟩ := h x List.mem_cons_self
    obtain ⟨ys, hys⟩ := pairs_of fun z hz => h z (List.mem_cons_of_mem _ hz)
    exact ⟨y :: ys, .cons hy hys⟩
theorem cut3 (a b c d : PV) (r : List PV) : cutP (a :: b :: c :: d :: r) none (some 3) = [a, b, c] := by
  unfold cutP
  have e1 : HT.sIx (a :: b :: c :: d :: r).length (a :: b :: c :: d :: r).length (some 3) = 3 := by
    have := HT.sIx_nat (a :: b :: c :: d :: r).length (a :: b :: c :: d :: r).length 3
    rw [show ((3 : Nat) : Int) = 3 from rfl] at this
    rw [this]; simp
  rw [e1, HT.sIx_none]
  simp
theorem cut4 (a b c d : PV) (r : List PV) : cutP (a :: b :: c :: d :: r) (some 4) none = r := by
  unfold cutP
  have e1 : HT.sIx (a :: b :: c :: d :: r).length 0 (some 4) = 4 := by
    have := HT.sIx_nat (a :: b :: c :: d :: r).length 0 4
    rw [show ((4 : Nat) : Int) = 4 from rfl] at this
    rw [this]; simp
  rw [e1, HT.sIx_none]
  simp
abbrev C11 : Cfg := ⟨G, fnsL, callsN G reprD 100 defs 11⟩
def fixE : LE := .ite (.cmp .ne (.ix (.var 3) (.int 0)) (.str "latch")) (.var 3) (.bin false .add (.bin false .add (.sl false (.var 3) .none (.some (.int 3))) (.tup (.cons (.int 7) .nil))) (.sl false (.var 3) (.some (.int 4)) .none))
theorem fix_ok {row : PV} (h : PreT row) : ∃ row', (RowT row' ∧ ∃ w ps, row' = .tup (.str w :: ps) ∧ w ≠ "court") ∧ ∀ (env : Env') (st : Stor), env[3]? = some (some row) → (ev C11 reprD fixE).e env st = .ok row' st := by
  rcases h with ⟨w, ps, fs, rfl, h1, h2, h3, h4, h5, h6⟩ | ⟨x, y, v, z, rfl, hx, hy, hz⟩
  · refine ⟨_, ⟨⟨w, ps, fs, rfl, h1, h4, h5, h6⟩, w, ps, rfl, h3⟩, fun env st he => ?_⟩
    have hne : (w == Str.ofString "latch") = false := beq_eq_false_iff_ne.mpr h2
    simp [fixE, evSs, evS, ev, EV.mk', EV.cmp, evs, evo, M.bind_def, look, pureR, COp.f, boolOf, asgT_nm, BOp.f, cmpI, Cfg.call, mkT, mkL, addV, subV, PL.eqV, eqF, q0, q1, q2, q3, q4, q5, q6, c_draw, he, ixV, ixD, seqA, seqL, seqM, atI, ixN, hne]
  · refine ⟨.tup [.str "latch", x, y, .int 7, z], ⟨row_mk k_latch (.cons (by rw [th_figure]; exact hx) (.cons (by rw [th_count]; exact hy) (.cons (by rw [th_figure]; exact fig_in (by omega) (by omega)) (.cons hz .nil)))), _, _, rfl, by decide +kernel⟩, fun env st he => ?_⟩
    simp [fixE, evSs, evS, ev, EV.mk', EV.cmp, evs, evo, M.bind_def, look, pureR, COp.f, boolOf, asgT_nm, BOp.f, cmpI, Cfg.call, mkT, mkL, addV, subV, PL.eqV, eqF, q0, q1, q2, q3, q4, q5, q6, c_draw, he, ixV, ixD, seqA, seqL, seqM, atI, ixN, slV, partOf, cut3, cut4]
end S86

namespace S86
open PySem PySem.Spec PyProof.Rows L2 PL
/-- the drawn deeds -/
theorem deeds_ok {o : PL.PO} {N : Nat} {env : Env'} (m : Nat) (hm : m ≤ 24) (h : FeedAt N o) (hN : N + 600 < 1000000) (e1 : env[1]? = some (some (.ref 0))) (e8 : env[8]? = some (some (.ref 1))) :
    ∃ ys st', lcL ⟨rangeI 0 m, []⟩ (asgT (.nm 12)) (evc C11 reprD .nil) (ev C11 reprD (.call false "_law_deed" (.cons (.var 1) (.cons (.var 8) .nil)))).e env (rangeI 0 m) [] [o, .lst [.int 0]] = .ok ys st' ∧ (∀ r ∈ ys, PreT r) ∧ ys.length = m ∧ ∃ o' t', st' = [o', .lst [.int t']] ∧ FeedAt (N + 480) o' := by
  have lr : (rangeI 0 m).length = m := by simp [rangeI]
  obtain ⟨ys, st', q1, ⟨q2, o', t', rfl, q3, q4, q5⟩, q6⟩ := lcL_inv (src := ⟨rangeI 0 m, []⟩) (tg := asgT (.nm 12)) (cond := evc C11 reprD .nil) (elt := (ev C11 reprD (.call false "_law_deed" (.cons (.var 1) (.cons (.var 8) .nil)))).e) (env0 := env)
    (fun i acc st => (∀ r ∈ acc, PreT r) ∧ ∃ o' t', st = [o', .lst [.int t']] ∧ FeedAt (N + 20 * i) o' ∧ 0 ≤ t' ∧ t' ≤ 2 * i) (fun _ _ _ _ => rfl) (rangeI 0 m) [] 0 [o, .lst [.int 0]] ⟨by simp, o, 0, rfl, h, by omega, by omega⟩ (by
      rintro j x acc st hx ⟨pa, o2, t2, rfl, hf, ht0, ht1⟩
      have hj : j < m := by
        have := (List.getElem?_eq_some_iff.mp hx).1
        omega
      obtain ⟨row, o3, t3, ed, pr, hf3, ht2, ht3⟩ := deed_ok (n := 8) (T := 2 * (0 + j)) hf (by omega) ht0 (by simpa using ht1) (by omega)
      refine ⟨env.set 12 (some x), row, _, rfl, by simp [evc, pureR], ?_, ?_, o3, t3, rfl, hf3.mono (by omega), ht2, by omega⟩
      · have s1 : (env.set 12 (some x))[1]? = some (some (.ref 0)) := by rw [List.getElem?_set_ne (by decide)]; exact e1
        have s8 : (env.set 12 (some x))[8]? = some (some (.ref 1)) := by rw [List.getElem?_set_ne (by decide)]; exact e8
        refine ev_call (ps := [.ref 0, .ref 1]) (st1 := [o2, .lst [.int t2]]) ?_ ?_
        · simp [evs, ev, EV.mk', M.bind_def, look, pureR, s1, s8]
        · simp only [Cfg.call, c_deed]
          exact ed
      · intro r hr
        rcases List.mem_append.mp hr with hr | hr
        · exact pa r hr
        · simp at hr; subst hr; exact pr) (by rw [lr, sizeLine_eq]; simp; omega)
  refine ⟨ys, _, q1, q2, by simpa [lr] using q6, o', t', rfl, q3.mono (by omega)⟩

theorem idx1 (a : PV) (r : List PV) : cutP (a :: r) none (some 1) = [a] := by
  unfold cutP
  have e1 : HT.sIx (a :: r).length (a :: r).length (some 1) = 1 := by
    have := HT.sIx_nat (a :: r).length (a :: r).length 1
    rw [show ((1 : Nat) : Int) = 1 from rfl] at this
    rw [this]; simp
  rw [e1, HT.sIx_none]
  simp
def loopB : LSs := .cons (.asg (.nm 9) (.call true "_law_line" (.cons (.var 3) .nil)))
  (.cons (.asg (.nm 10) (.call true "read_row" (.cons (.var 9) .nil)))
  (.cons (.ifs (.or (.cmp .ne (.bi .repr (.cons (.var 10) .nil)) (.bi .repr (.cons (.var 3) .nil))) (.cmp .ne (.call true "row_line" (.cons (.var 10) .nil)) (.var 9))) (.cons (.ret (.bl false))
  .nil) .nil)
  .nil))
def envR (ns : List Int) (rows first a3 a4 a5 a6 a9 a10 a11 : Option PV) : Env' := [some (.scr ns), some (.ref 0), rows, a3, a4, a5, a6, first, some (.ref 1), a9, a10, a11, none]
theorem rowL_pure {row : PV} {word line : Str} (h : RowL row word line) (st : Stor) : pureCall (R 10 d_law_line) [row] st = .ok (.str line) st ∧ pureCall (R 10 d_read_row) [.str line] st = .ok row st ∧ pureCall (R 10 d_row_line) [row] st = .ok (.str line) st ∧ ∃ d, reprV PL.reprD [row] st = .ok (.str d) st := by
  obtain ⟨s1, a⟩ := h.a
  obtain ⟨s2, d⟩ := h.d
  obtain ⟨dd, t1, t2⟩ := h.dt
  have nr : noRefs [row] = true := by simp [noRefs, h.nr]
  have nl : noRefs [PV.str line] = true := rfl
  exact ⟨pureCall_ok a nr rfl, pureCall_ok d nl h.nr, pureCall_ok h.b nr rfl, dd.shown, repr_val (by rw [toDn_toD 3 st _ h.nr]; exact t1) t2 (by omega) (by rw [sizeLine_eq]; omega)⟩
theorem loop_ok {ns : List Int} {rw fi : Option PV} {all : List PV} (ST : Stor) (h : ∀ r ∈ all, ∃ word line, RowL r word line) : ∃ a3 a9 a10, forL ⟨all, []⟩ (asgT (.nm 3)) (evSs C11 reprD 100 loopB) all (envR ns rw fi none none none none none none none) ST = .ok (.nx (envR ns rw fi a3 none none none a9 a10 none)) ST := by
  obtain ⟨env', st', q, a3, a9, a10, rfl, rfl⟩ := forL_inv (src := ⟨all, []⟩) (tg := asgT (.nm 3)) (body := evSs C11 reprD 100 loopB) (fun _ env st => ∃ a3 a9 a10, env = envR ns rw fi a3 none none none a9 a10 none ∧ st = ST) (fun _ _ _ _ => rfl) all 0 (envR ns rw fi none none none none none none none) ST ⟨_, _, _, rfl, rfl⟩ (by
    rintro j x env st hx ⟨a3, a9, a10, rfl, rfl⟩
    obtain ⟨word, line, hl⟩ := h x (List.mem_of_getElem? hx)
    obtain ⟨p1, p2, p3, d, p4⟩ := rowL_pure hl st
    refine ⟨envR ns rw fi (some x) none none none a9 a10 none, st, envR ns rw fi (some x) none none none (some (.str line)) (some x) none, st, rfl, .inl ?_, _, _, _, rfl, rfl⟩
    simp [loopB, envR, evSs, evS, ev, EV.mk', EV.cmp, evs, evo, M.bind_def, look, pureR, COp.f, boolOf, asgT_nm, BOp.f, cmpI, Cfg.call, mkT, mkL, addV, subV, PL.eqV, eqF, q0, q1, q2, q3, q4, q5, q6, c_draw, c_line, c_read_row, c_row_line, p1, p2, p3, biV, p4])
  exact ⟨a3, a9, a10, q⟩
theorem res (ns : List Int) (hns : ns.length ≤ 63) : ∃ st, runDef C11 reprD 100 d_law [.scr ns] [] = .ok (.bl true) st := by
  obtain ⟨o0, ef, h0⟩ := feed_ok (n := 10) hns
  obtain ⟨fps, o1, eb, rt1, h1⟩ := begin_ok (n := 9) h0 (by omega)
  obtain ⟨m, o2, em, m0, m1, h2⟩ := draw_ok (n := 10) (rest := [.lst [.int 0]]) h1 (by omega) (b := 25) (by omega) (by omega)
  obtain ⟨ys, st3, e3, pys, ly, o3, t3, rfl, h3⟩ := deeds_ok (env := wipeE [some (.scr ns), some (.ref 0), none, none, none, none, none, some (.tup (.str "court" :: fps)), some (.ref 1), none, none, none, none] [12]) m.toNat (by omega) h2 (by omega) rfl rfl
  obtain ⟨hs, o4, junk, e4, phs, lh⟩ := hand_ok (n := 9) (c := .lst [.int t3]) h3 (by omega)
  have pre : ∀ r ∈ ys ++ hs, PreT r := fun r hr => (List.mem_append.mp hr).elim (pys r) (phs r)
  obtain ⟨rows, pf⟩ := PL.pairs_of (P := fun row row' => (RowT row' ∧ ∃ w ps, row' = .tup (.str w :: ps) ∧ w ≠ "court") ∧ ∀ (env : Env') (st : Stor), env[3]? = some (some row) → (ev C11 reprD fixE).e env st = .ok row' st) (xs := ys ++ hs) fun r hr => fix_ok (pre r hr)
  have lrows : rows.length ≤ 50 := by
    have := PL.pair_length pf
    simp at this
    omega
  let first : PV := .tup (.str "court" :: fps)
  have rtAll : ∀ r ∈ first :: rows, RowT r := fun r hr => by
    rcases List.mem_cons.mp hr with rfl | hr
    · exact rt1
    · obtain ⟨x, _, h⟩ := (PL.pair_mem pf).1 r hr
      exact h.1.1
  have notC : ∀ r ∈ rows, ∃ w ps, r = .tup (.str w :: ps) ∧ w ≠ "court" := fun r hr => by
    obtain ⟨x, _, h⟩ := (PL.pair_mem pf).1 r hr
    exact h.1.2
  obtain ⟨lines, pl⟩ := PL.pairs_of (P := fun row (line : Str) => ∃ word, RowL row word line) (xs := first :: rows) fun r hr => by
    obtain ⟨word, line, _, h⟩ := row_ok (rtAll r hr)
    exact ⟨line, word, h⟩
  have ll : (first :: rows).length = lines.length := PL.pair_length pl

  let ST : Stor := o4 :: .lst [.int t3] :: junk
  obtain ⟨a3, a9, a10, e5⟩ := loop_ok (ns := ns) (rw := some (.lst rows)) (fi := some first) (all := first :: rows) ST fun r hr => by
    obtain ⟨line, _, word, h⟩ := (PL.pair_mem pl).2 r hr
    exact ⟨word, line, h⟩
  have lz : lines.length < 1000 := by simp at ll; omega
  have lsz : lines.length ≤ sizeLine := by rw [sizeLine_eq]; omega
  have rsz : rows.length + 1 ≤ sizeLine := by rw [sizeLine_eq]; omega
  have ysz : ys.length + hs.length ≤ sizeLine := by rw [sizeLine_eq]; omega
  have ysz1 : ys.length ≤ sizeLine := by omega
  -- the log read
  have nrL : noRefs (first :: rows) = true := by
    have : ∀ {xs : List PV} {zs : List Str}, Paired (fun row (line : Str) => ∃ word, RowL row word line) xs zs → noRefs xs = true := by
      intro xs zs h
      induction h with
      | nil => rfl
      | cons a t ih => obtain ⟨w, hw⟩ := a; simp [noRefs, hw.nr, ih]
    exact this pl
  have rd : ∀ {xs : List PV} {zs : List Str}, Paired (fun row (line : Str) => ∃ word, RowL row word line) xs zs → (∀ i r, xs[i]? = some r → ∃ (w : Str) (ps : List PV), r = .tup (.str w :: ps) ∧ (w = "court" ↔ i = 0)) → 0 < zs.length → zs.length < 1000 → ∃ st, R 10 d_read_log [.lst (zs.map PV.str)] [] = .ok (.tup xs) st := by
    intro xs zs hp hc h0 hz
    refine read_log_ok h0 hz (PL.pair_length hp) fun i r l hr hl => ?_
    obtain ⟨word, q⟩ := PL.pair_at hp i r l hr hl
    obtain ⟨w, ps, e, hw⟩ := hc i r hr
    obtain ⟨ps', e'⟩ := q.w
    rw [e] at e'
    cases e'
    obtain ⟨ws, sp, lw⟩ := q.sp
    refine ⟨q.nr, by have := q.l; rw [sizeLine_eq]; omega, ⟨_, ws, sp, by rw [sizeLine_eq]; omega, fun z => hw.mpr z⟩, ?_⟩
    exact q.e i _ fun z => by simp [hw.mp z]
  have hcAll : ∀ i r, (first :: rows)[i]? = some r → ∃ (w : Str) (ps : List PV), r = .tup (.str w :: ps) ∧ (w = "court" ↔ i = 0) := by
    intro i r hr
    cases i with
    | zero => simp at hr; subst hr; exact ⟨_, _, rfl, by simp⟩
    | succ i =>
      obtain ⟨w, ps, e, hw⟩ := notC r (List.mem_of_getElem? (by simpa using hr))
      exact ⟨w, ps, e, by simp [hw]⟩
  obtain ⟨stL, eL⟩ := rd pl hcAll (by rw [← ll]; simp) lz
  have pL := pureCall_ok (st := ST) eL (by simp [noRefs, noRef, nr_strs]) (by simpa [noRef] using nrL)
  -- the first line's
  obtain ⟨l0, lr, el⟩ : ∃ l0 lr, lines = l0 :: lr := by
    cases lines with
    | nil => simp at ll
    | cons a b => exact ⟨a, b, rfl⟩
  have pl0 : Paired (fun row (line : Str) => ∃ word, RowL row word line) [first] [l0] := by
    rw [el] at pl
    cases pl with
    | cons a t => exact .cons a .nil
  obtain ⟨st1, e1'⟩ := rd pl0 (by
    intro i r hr
    cases i with
    | zero => simp at hr; subst hr; exact ⟨_, _, rfl, by simp⟩
    | succ i => simp at hr) (by simp) (by simp)
  have nr1 : noRefs [first] = true := by
    have : noRef first = true := by simp only [noRefs, Bool.and_eq_true] at nrL; exact nrL.1
    simp [noRefs, this]
  -- data
  have dat : ∀ {xs : List PV} {zs : List Str}, Paired (fun row (line : Str) => ∃ word, RowL row word line) xs zs → ∃ ds, toDs [] xs = some ds ∧ (∀ d ∈ ds, Okd 5 3000 d) ∧ ds.length = xs.length := by
    intro xs zs h
    induction h with
    | nil => exact ⟨[], by simp [toDs], by simp, rfl⟩
    | cons a t ih =>
      obtain ⟨w, hw⟩ := a
      obtain ⟨d, hd, ok⟩ := hw.dt
      obtain ⟨ds, h1, h2, h3⟩ := ih
      exact ⟨d :: ds, by simp [toDs, hd, h1], by simpa [ok] using h2, by simp [h3]⟩
  obtain ⟨ds, dt1, dt2, dt3⟩ := dat pl
  have okLog : Okd 6 200000 (.tuple ds) := Okd.tuple dt2 (by rw [dt3]; simp; omega)
  have rLog : ∀ st, reprV PL.reprD [.tup (first :: rows)] st = .ok (.str (PyData.tuple ds).shown) st := fun st =>
    repr_val (by rw [toDn_toD 3 st _ (by simpa [noRef] using nrL)]; simp only [toD, dt1]; rfl) okLog (by omega) (by rw [sizeLine_eq]; omega)
  obtain ⟨d1, dt1', dt2', dt3'⟩ := dat pl0
  have okF : Okd 6 200000 (.tuple d1) := Okd.tuple dt2' (by rw [dt3']; simp)
  have rF : ∀ st, reprV PL.reprD [.tup [first]] st = .ok (.str (PyData.tuple d1).shown) st := fun st =>
    repr_val (by rw [toDn_toD 3 st _ (by simpa [noRef] using nr1)]; simp only [toD, dt1']; rfl) okF (by omega) (by rw [sizeLine_eq]; omega)
  have dln : ∀ {xs : List PV} {zs : List Str}, Paired (fun row (line : Str) => ∃ word, RowL row word line) xs zs → toDs [] (zs.map PV.str) = some (zs.map PyData.str) ∧ ∀ d ∈ zs.map PyData.str, Okd 0 20002 d := by
    intro xs zs h
    induction h with
    | nil => exact ⟨by simp [toDs], by simp⟩
    | cons a t ih =>
      obtain ⟨w, hw⟩ := a
      have ok : Okd 0 20002 (.str _) := Okd.str hw.s (by have := hw.l; omega)
      exact ⟨by simp [toDs, toD, ih.1], by simpa [ok] using ih.2⟩
  obtain ⟨dl1, dl2⟩ := dln pl
  have okLn : Okd 1 2000000 (.list (lines.map .str)) := Okd.list dl2 (by simp at ll ⊢; omega)
  have rLn : ∀ st, reprV PL.reprD [.lst (lines.map PV.str)] st = .ok (.str (PyData.list (lines.map .str)).shown) st := fun st =>
    repr_val (by rw [toDn_toD 3 st _ (by simp [noRef, nr_strs])]; simp only [toD, dl1]; rfl) okLn (by omega) (by rw [sizeLine_eq]; omega)
  have ostr : ∀ (n : Nat) (st : Stor) (zs : List Str), optAll (toDn n st) (zs.map PV.str) = some (zs.map .str) := fun n st zs => by
    induction zs with
    | nil => rfl
    | cons a b ih =>
      have := toDn_toD n st (.str a) rfl
      simp only [List.map_cons, optAll, this, ih, toD]
  have rRef : ∀ (st : Stor) (l : Nat), st[l]? = some (.lst (lines.map PV.str)) → reprV PL.reprD [.ref l] st = .ok (.str (PyData.list (lines.map .str)).shown) st := fun st l hl =>
    repr_val (by unfold toDn; simp only [hl, ostr]; rfl) okLn (by omega) (by rw [sizeLine_eq]; omega)
  have dLn : ∀ st, toDn 3 st (.lst (lines.map PV.str)) = some (.list (lines.map .str)) := fun st => by rw [toDn_toD 3 st _ (by simp [noRef, nr_strs])]; simp only [toD, dl1]; rfl
  have eqLn : ∀ st : Stor, eqD st (.lst (lines.map PV.str)) (.lst (lines.map PV.str)) = some true := fun st => eqD_val (dLn st) (dLn st) okLn (by omega)
  have eqRef : ∀ (st : Stor) (l : Nat), st[l]? = some (.lst (lines.map PV.str)) → eqD st (.ref l) (.lst (lines.map PV.str)) = some true := fun st l hl =>
    eqD_val (by unfold toDn; simp only [hl, ostr]; rfl) (dLn st) okLn (by omega)
  have eLL : ∀ st0 : Stor, R 10 d_log_lines [.tup (first :: rows)] st0 = .ok (.ref st0.length) (st0 ++ [.lst (lines.map PV.str)]) := fun st0 => log_lines_ok (by simp; omega) (PL.pair_map (fun r l ⟨w, q⟩ => ⟨q.nr, rfl, _, q.c⟩) pl)
  have lnMap : ∀ st : Stor, lcL ⟨first :: rows, []⟩ (asgT (.nm 3)) (evc C11 reprD .nil) (ev C11 reprD (.call true "_law_line" (.cons (.var 3) .nil))).e (wipeE (envR ns (some (.lst rows)) (some first) a3 (some (.tup (first :: rows))) none none a9 a10 none) [3]) (first :: rows) [] st = .ok (lines.map PV.str) st := fun st => by
    have := lcL_map (src := ⟨first :: rows, []⟩) (tg := asgT (.nm 3)) (cond := evc C11 reprD .nil) (elt := (ev C11 reprD (.call true "_law_line" (.cons (.var 3) .nil))).e) (env0 := wipeE (envR ns (some (.lst rows)) (some first) a3 (some (.tup (first :: rows))) none none a9 a10 none) [3]) (st := st) rfl (first :: rows) (lines.map PV.str) [] (PL.pair_map (fun r l ⟨w, q⟩ => by
      obtain ⟨p1, _⟩ := rowL_pure q st
      refine ⟨_, by rw [asgT_nm]; rfl, by simp [evc, pureR], ?_⟩
      simp [wipeE, envR, evSs, evS, ev, EV.mk', EV.cmp, evs, evo, M.bind_def, look, pureR, COp.f, boolOf, asgT_nm, BOp.f, cmpI, Cfg.call, mkT, mkL, addV, subV, PL.eqV, eqF, q0, q1, q2, q3, q4, q5, q6, c_draw, c_line, p1]) pl) (by simp; omega)
    simpa using this
  have p10 := pureCall_ok (st := ST ++ [.lst (lines.map PV.str ++ [.str ""])] ++ [.lst (lines.map PV.str)]) e1' rfl (by simpa [noRef] using nr1)
  have run : WR (evSs C11 reprD 100 d_law.body ([PV.scr ns].map some ++ List.replicate (d_law.slots.length - 1) none)) [] fun p st => p = .bl true := by
    unfold d_law
    refine WR.nx (e := [some (.scr ns), some (.ref 0), none, none, none, none, none, none, none, none, none, none, none]) (st' := [o0]) (by simp [evSs, evS, ev, EV.mk', EV.cmp, evs, evo, M.bind_def, look, pureR, COp.f, boolOf, asgT_nm, BOp.f, cmpI, Cfg.call, mkT, mkL, addV, subV, PL.eqV, eqF, q0, q1, q2, q3, q4, q5, q6, c_draw, c_feed, ef]) ?_
    refine WR.nx (e := [some (.scr ns), some (.ref 0), none, none, none, none, none, some first, some (.ref 1), none, none, none, none]) (st' := [o1, .lst [.int 0]]) (by simp [evSs, evS, ev, EV.mk', EV.cmp, evs, evo, M.bind_def, look, pureR, COp.f, boolOf, asgT_nm, BOp.f, cmpI, Cfg.call, mkT, mkL, addV, subV, PL.eqV, eqF, q0, q1, q2, q3, q4, q5, q6, c_draw, c_begin, eb, asgT, asgTs, ltsLen, seqA, first]; rfl) ?_
    refine WR.nx (e := envR ns (some (.lst (ys ++ hs))) (some first) none none none none none none none) (st' := ST) (evS_asg (ev_bin (st1 := [o3, .lst [.int t3]]) (y := .lst hs) (st2 := ST) (ev_comp (s := ⟨rangeI 0 m.toNat, []⟩) (st1 := [o2, .lst [.int 0]]) ?_ e3 (p := .lst ys) ?_) (ev_call (ps := [.ref 0]) (st1 := [o3, .lst [.int t3]]) ?_ ?_) (z := .lst (ys ++ hs)) ?_) rfl) ?_
    · have i1 : inR m = true := by simp [PL.inR]; omega
      simp [evSs, evS, ev, EV.mk', EV.cmp, evs, evo, M.bind_def, look, pureR, COp.f, boolOf, asgT_nm, BOp.f, cmpI, Cfg.call, mkT, mkL, addV, subV, PL.eqV, eqF, q0, q1, q2, q3, q4, q5, q6, c_draw, evi, srcR1, em, i1]
    · simp [mkL, ysz1]
    · simp [evSs, evS, ev, EV.mk', EV.cmp, evs, evo, M.bind_def, look, pureR, COp.f, boolOf, asgT_nm, BOp.f, cmpI, Cfg.call, mkT, mkL, addV, subV, PL.eqV, eqF, q0, q1, q2, q3, q4, q5, q6, c_draw]
    · simp only [Cfg.call, c_hand]; exact e4
    · simp [BOp.f, addV, seqM, mkL, ysz]
    refine WR.nx (e := envR ns (some (.lst rows)) (some first) none none none none none none none) (st' := ST) (evS_asg (ev_comp (s := ⟨ys ++ hs, []⟩) (st1 := ST) ?_ (lcL_map (by rfl) _ rows _ (PL.pair_map (f := id) (fun x y h => ?_) pf |> (by simpa using ·)) ?_) (p := .lst rows) ?_) rfl) ?_
    · simp [evSs, evS, ev, EV.mk', EV.cmp, evs, evo, M.bind_def, look, pureR, COp.f, boolOf, asgT_nm, BOp.f, cmpI, Cfg.call, mkT, mkL, addV, subV, PL.eqV, eqF, q0, q1, q2, q3, q4, q5, q6, c_draw, evi, envR, srcV, srcA, seqA, seqL, seqM, locsOf]
    · exact ⟨_, by rw [asgT_nm]; rfl, by simp [evc, pureR], h.2 _ _ rfl⟩
    · simp; omega
    · have : rows.length ≤ sizeLine := by omega
      simp [mkL, this]
    refine WR.nx (st' := ST) (evS_fr (s := ⟨first :: rows, []⟩) (st1 := ST) ?_ e5) ?_
    · simp [evSs, evS, ev, EV.mk', EV.cmp, evs, evo, M.bind_def, look, pureR, COp.f, boolOf, asgT_nm, BOp.f, cmpI, Cfg.call, mkT, mkL, addV, subV, PL.eqV, eqF, q0, q1, q2, q3, q4, q5, q6, c_draw, evi, envR, srcV, srcA, seqA, seqL, seqM, locsOf, rsz]
    refine WR.nx (e := envR ns (some (.lst rows)) (some first) a3 (some (.tup (first :: rows))) none none a9 a10 none) (st' := ST) ?_ ?_
    · have : rows.length ≤ sizeLine := by omega
      simp [evSs, evS, ev, EV.mk', EV.cmp, evs, evo, M.bind_def, look, pureR, COp.f, boolOf, asgT_nm, BOp.f, cmpI, Cfg.call, mkT, mkL, addV, subV, PL.eqV, eqF, q0, q1, q2, q3, q4, q5, q6, c_draw, envR, biV, tupleV, seqL, seqM, this, rsz]
    refine WR.nx (e := envR ns (some (.lst rows)) (some first) a3 (some (.tup (first :: rows))) (some (.lst (lines.map PV.str))) none a9 a10 none) (st' := ST) (evS_asg (ev_comp (s := ⟨first :: rows, []⟩) (st1 := ST) ?_ (lnMap ST) (p := .lst (lines.map PV.str)) ?_) rfl) ?_
    · simp [evSs, evS, ev, EV.mk', EV.cmp, evs, evo, M.bind_def, look, pureR, COp.f, boolOf, asgT_nm, BOp.f, cmpI, Cfg.call, mkT, mkL, addV, subV, PL.eqV, eqF, q0, q1, q2, q3, q4, q5, q6, c_draw, evi, envR, srcV, srcA, seqA, locsOf]
    · simp [mkL, lsz]
    refine WR.nx (e := envR ns (some (.lst rows)) (some first) a3 (some (.tup (first :: rows))) (some (.lst (lines.map PV.str))) none a9 (some (.tup (first :: rows))) (some (.lst (lines.map PV.str)))) (st' := ST) ?_ ?_
    · simp [evSs, evS, ev, EV.mk', EV.cmp, evs, evo, M.bind_def, look, pureR, COp.f, boolOf, asgT_nm, BOp.f, cmpI, Cfg.call, mkT, mkL, addV, subV, PL.eqV, eqF, q0, q1, q2, q3, q4, q5, q6, c_draw, envR, biV, listV, seqA, seqL, seqM, lsz, c_read_log, pL]
    refine WR.ifF (st' := ST) ?_ ?_
    · simp [evSs, evS, ev, EV.mk', EV.cmp, evs, evo, M.bind_def, look, pureR, COp.f, boolOf, asgT_nm, BOp.f, cmpI, Cfg.call, mkT, mkL, addV, subV, PL.eqV, eqF, q0, q1, q2, q3, q4, q5, q6, c_draw, envR, biV, rLog, eqLn]
    refine WR.nx (e := envR ns (some (.lst rows)) (some first) a3 (some (.tup (first :: rows))) (some (.lst (lines.map PV.str))) (some (.ref ST.length)) a9 (some (.tup (first :: rows))) (some (.lst (lines.map PV.str)))) (st' := ST ++ [.lst (lines.map PV.str)]) ?_ ?_
    · simp [evSs, evS, ev, EV.mk', EV.cmp, evs, evo, M.bind_def, look, pureR, COp.f, boolOf, asgT_nm, BOp.f, cmpI, Cfg.call, mkT, mkL, addV, subV, PL.eqV, eqF, q0, q1, q2, q3, q4, q5, q6, c_draw, envR, c_log_lines, eLL]
    have g1 : (ST ++ [PL.PO.lst (lines.map PV.str)])[ST.length]? = some (.lst (lines.map PV.str)) := by simp
    refine WR.ifF (st' := ST ++ [.lst (lines.map PV.str)]) ?_ ?_
    · simp [evSs, evS, ev, EV.mk', EV.cmp, evs, evo, M.bind_def, look, pureR, COp.f, boolOf, asgT_nm, BOp.f, cmpI, Cfg.call, mkT, mkL, addV, subV, PL.eqV, eqF, q0, q1, q2, q3, q4, q5, q6, c_draw, envR, biV, rLn, rRef _ _ g1]
    refine WR.nx (e := envR ns (some (.lst rows)) (some first) a3 (some (.tup (first :: rows))) (some (.lst (lines.map PV.str))) (some (.ref ST.length)) a9 (some (.tup (first :: rows))) (some (.lst (lines.map PV.str)))) (st' := ST ++ [.lst (lines.map PV.str ++ [.str ""])]) ?_ ?_
    · have lsz2 : lines.length < sizeLine := by rw [sizeLine_eq]; omega
      simp [evSs, evS, ev, EV.mk', EV.cmp, evs, evo, M.bind_def, look, pureR, COp.f, boolOf, asgT_nm, BOp.f, cmpI, Cfg.call, mkT, mkL, addV, subV, PL.eqV, eqF, q0, q1, q2, q3, q4, q5, q6, c_draw, envR, chkM, tyM, mtV, appendV, g1, lsz2]
    refine WR.rt (p := .bl true) (st' := ST ++ [.lst (lines.map PV.str ++ [.str ""])] ++ [.lst (lines.map PV.str)]) ?_ rfl
    have g2 : (ST ++ [PL.PO.lst (lines.map PV.str ++ [.str ""])] ++ [.lst (lines.map PV.str)])[(ST ++ [PL.PO.lst (lines.map PV.str ++ [.str ""])]).length]? = some (.lst (lines.map PV.str)) := by simp
    have e9 := eLL (ST ++ [.lst (lines.map PV.str ++ [.str ""])])
    have e8 := eqRef _ _ g2
    have c1 : cutP (lines.map PV.str) none (some 1) = [.str l0] := by rw [el]; exact idx1 _ _
    simp only [List.map_cons, List.map_nil] at p10
    simp at e9 e8 p10
    simp [evSs, evS, ev, EV.mk', EV.cmp, evs, evo, M.bind_def, look, pureR, COp.f, boolOf, asgT_nm, BOp.f, cmpI, Cfg.call, mkT, mkL, addV, subV, PL.eqV, eqF, q0, q1, q2, q3, q4, q5, q6, c_draw, envR, c_log_lines, e9, e8, biV, truthV, truthD, slV, seqL, seqM, partOf, c1, c_read_log, p10, rF]
  obtain ⟨p, st', e, rfl⟩ := WR.run (d := d_law) (ps := [PV.scr ns]) rfl run
  exact ⟨st', e⟩
end S86

set_option maxHeartbeats 0
namespace H86
open PySem PySem.Spec PyProof.Rows L2 PL S86
abbrev Rw : PySem.W.OpenRow := PySem.W.OpenLaw.row PySem.Challenge.rw_framecourt_k86_texts
abbrev hk : PySem.W.Hook := hookP G fnsL xps
def ob (s : PySem.W.SharedT) : AlP := obP G fnsL xps (HandSHeadRun.getT s)
theorem ob_eq (s : PySem.W.SharedT) : ob s = hk.obs s.abs := obP_eq
theorem runF (w : World) : HandSHeadRun.RunEq Rw (PySem.W.view Rw.prog [87]) hk ob 6000 loose (w.withFollow "special-get-raises" false) := by
  intro os
  kernel_rfl
theorem runT (w : World) : HandSHeadRun.RunEq Rw (PySem.W.view Rw.prog [87]) hk ob 6000 loose (w.withFollow "special-get-raises" true) := by
  intro os
  kernel_rfl
theorem run (w : World) : HandSHeadRun.RunEq Rw (PySem.W.view Rw.prog [87]) hk ob 6000 loose w := PySem.W.byRow2 "special-get-raises" (P := fun w => HandSHeadRun.RunEq Rw (PySem.W.view Rw.prog [87]) hk ob 6000 loose w) runF runT w
theorem eG : (⟨xps.vals, xps.dicts, gblt⟩ : Glb) = G := rfl
theorem eD : xps.defs = defs := rfl
theorem eF : fnsL = defs.map (·.name) := rfl
theorem facts {P : Program} {w : World} {mg : Str → Option Value} {h : Heap} (Y : hk.says w h) (Gn : h.Ns mainGlobals mg) : ∃ K : PySem.W.Frag, K.In h ∧ ModOk G defs P w K mg := by
  obtain ⟨K, X, c⟩ := Y
  refine ⟨K, X, ?_⟩
  have c' : obsK ⟨xps.vals, xps.dicts, gblt⟩ (xps.defs.map (·.name)) xps K = valK xps w := by
    rw [eG, eD, ← eF]; exact c
  have m := mod_of (P := P) c' X Gn (by decide +kernel) (by decide +kernel) (by decide +kernel) (by decide +kernel)
  rw [eG, eD] at m
  exact m
theorem room : Room 12 callerA := ⟨rfl, by decide, by decide⟩
end H86
open PySem PySem.W PySem.Calls PyProof.Rows
theorem PySem.Challenge.cw_framecourt_k86_texts_holds : PySem.Challenge.rw_framecourt_k86_texts.Holds := by
  w_on; o_law
  refine HandSHeadRun.head_any (r := OpenLaw.row PySem.Challenge.rw_framecourt_k86_texts) (q := view (OpenLaw.row PySem.Challenge.rw_framecourt_k86_texts).prog [87]) (H := H86.hk) (ob := H86.ob) (M := 6000) (loose := S86.loose) (d := HandSHeadRun.topDef (OpenLaw.row PySem.Challenge.rw_framecourt_k86_texts).prog 87) (kwd := []) H86.ob_eq
    (by kernel_rfl) (fun s => by kernel_rfl) H86.run (by kernel_rfl) (by kernel_rfl) (by kernel_rfl) (by rfl) (by first | assumption | decide +kernel) (by decide +kernel) ⟨rfl, rfl, rfl, rfl, rfl, by decide +kernel⟩ ?hw ?hc
  case hw => w_witness2
  case hc =>
    exact PL.walk_G (l := PySem.Challenge.rw_framecourt_k86_texts) (n := 63) (k := 11) (wf := 100) (G := S86.G) (defs := S86.defs) (D := S86.d_law) (x := "script") rfl (by decide) (by kernel_rfl) H86.room (by kernel_rfl) rfl (fun w mg h Y Gn => H86.facts Y Gn) (fun ns hl _ => S86.res ns hl)
