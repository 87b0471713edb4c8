import PyProof.Rows.All
import Wide.All
import OpenK.AllK
import Wide.FinOn
import KE.KeyNested
import HandS.ForMost
import HandS.Exc
import HandS.TryOnly
import HandS.ExcOwn
import HandS.WordsExc
import HandS.HeadHook2
import KE.DataMinMax
import KE.SortData
import HandS.Comp
import HandS.Codes
import HandS.TupAny
import HandS.TupMul
import HandS.Deep
import HandS.IsInst
import HandS.SortInts
import HandS.Property
import HandS.TupLen
import HandS.Conv
import HandS.Strs
import HandS.Set
import HandS.SetFor
import HandS.TupLe
import HandS.Wide
import HandS.WideMore
import PyProof.Rows.TupDisplay
import HandS.TupSets
import PyProof.EnumMake
import KE.GoesEnum
import KE.GoesMore
import KE.GoesNew
import HandS.Base
import HandS.Call
import HandS.List
import HandS.Iter
import HandS.Rev
import HandS.Zip
import HandS.DictComp
import HandS.Dict
import PyProof.P3Eq
import HandS.Style
import HandS.DictSub
import HandS.Words
import HandS.Defaults
import HandS.Head0
import HandS.Head1
import HandS.Head2
import HandS.HeadEnd
import HandS.HeadHook1
import KE.KStateDown
import KE.DatumOrd
import PySem.Challenge.RW_lasttell_k16_whole_cheapest_rows
set_option Elab.async false
set_option linter.all false
set_option maxRecDepth 100000
/-! LTA: values as trees, how a heap bears them, the frame of a def's run. -/
namespace TL
open PySem PySem.Spec PyProof.Rows L2

/-- a value as a tree; obj: a thing of the world that may change, by its number; dct: t tells whether its keys are tuples -/
inductive Val where
  | non | bl (b : Bool) | int (i : Int) | str (s : Str)
  | tup (vs : List Val) | lst (vs : List Val)
  | dct (t : Bool) (kvs : List (NestedKey × Val))
  | ins (c : Str) (fs : List (Str × Val))
  | obj (n : Nat)
  | fn (f : Str)
  deriving Inhabited

/-- a dict whose object is known -/
def dictO (es : Array DictEntry) (ep : Nat) : Obj := { cls := .type "dict", data := .dict es ep }
def dictHO (a : Addr) (es : Array DictEntry) (ep : Nat) : HO := .ext fun h => h.get? a = some (dictO es ep)

mutual
/-- the value as a key -/
def nk : Val → Option NestedKey
  | .non => some .none
  | .int i => some (.num i)
  | .str s => some (.text s)
  | .tup vs => (nks vs).map .tup
  | _ => none
def nks : List Val → Option (List NestedKey)
  | [] => some []
  | v :: vs => match nk v, nks vs with
    | some k, some ks => some (k :: ks)
    | _, _ => none
end
mutual
/-- the key as a value -/
def vk : NestedKey → Val
  | .none => .non
  | .num i => .int i
  | .text s => .str s
  | .tup ks => .tup (vks ks)
def vks : List NestedKey → List Val
  | [] => []
  | k :: ks => vk k :: vks ks
end
mutual
theorem nk_vk : ∀ k, nk (vk k) = some k
  | .none => rfl
  | .num _ => rfl
  | .text _ => rfl
  | .tup ks => by simp only [vk, nk, nks_vks ks, Option.map_some]
theorem nks_vks : ∀ ks, nks (vks ks) = some ks
  | [] => rfl
  | k :: ks => by simp only [vks, nks, nk_vk k, nks_vks ks]
end
mutual
theorem vk_nk : ∀ (v : Val) (k : NestedKey), nk v = some k → vk k = v
  | .non, k, h => by simp only [nk, Option.some.injEq] at h; subst h; rfl
  | .int _, k, h => by simp only [nk, Option.some.injEq] at h; subst h; rfl
  | .str _, k, h => by simp only [nk, Option.some.injEq] at h; subst h; rfl
  | .tup vs, k, h => by
    simp only [nk, Option.map_eq_some_iff] at h
    obtain ⟨ks, h1, rfl⟩ := h
    simp only [vk, vks_nks vs ks h1]
  | .bl _, _, h => by simp [nk] at h
  | .lst _, _, h => by simp [nk] at h
  | .dct _ _, _, h => by simp [nk] at h
  | .ins _ _, _, h => by simp [nk] at h
  | .obj _, _, h => by simp [nk] at h
  | .fn _, _, h => by simp [nk] at h
theorem vks_nks : ∀ (vs : List Val) (ks : List NestedKey), nks vs = some ks → vks ks = vs
  | [], ks, h => by simp only [nks, Option.some.injEq] at h; subst h; rfl
  | v :: vs, ks, h => by
    cases h1 : nk v with
    | none => simp [nks, h1] at h
    | some k =>
      cases h2 : nks vs with
      | none => simp [nks, h1, h2] at h
      | some ks' =>
        simp only [nks, h1, h2, Option.some.injEq] at h
        subst h
        simp only [vks, vk_nk v k h1, vks_nks vs ks' h2]
end

/-! ### how a heap bears a value -/
section
variable (G : Hp)
mutual
/-- a key stands behind x -/
def RepN : NestedKey → V → Prop
  | .none, x => x = .non
  | .num i, x => x = .int i
  | .text s, x => x = .str s
  | .tup ks, x => ∃ a xs, x = .ref a ∧ G a = some (.tup xs) ∧ RepNs ks xs
def RepNs : List NestedKey → List V → Prop
  | [], xs => xs = []
  | k :: ks, xs => ∃ y ys, xs = y :: ys ∧ RepN k y ∧ RepNs ks ys
end
/-- the stored key -/
def KeyAt (t : Bool) (k : NestedKey) (u : Value) : Prop := match t with
  | false => ∃ i tk, k = .num i ∧ u = .int i tk
  | true => ∃ ks b, k = .tup ks ∧ u = .ref b ∧ RepN G k (.ref b) ∧ k.depth ≤ 8
end
section
variable (w : World) (K : PySem.W.Frag) (G : Hp) (A : List Addr)
mutual
/-- the value v stands behind x, in what does not change -/
def Rep : Val → V → Prop
  | .non, x => x = .non
  | .bl b, x => x = .bl b
  | .int i, x => x = .int i
  | .str s, x => x = .str s
  | .tup vs, x => ∃ a xs, x = .ref a ∧ G a = some (.tup xs) ∧ Reps vs xs
  | .lst vs, x => ∃ a u, x = .ref a ∧ Rd G a u ∧ ∃ xs, u = .lst xs ∧ Reps vs xs
  | .dct t kvs, x => ∃ a es ep, x = .ref a ∧ G a = some (dictHO a es ep) ∧ RepD t kvs es.toList ∧ (kvs.map (·.1)).Nodup ∧ kvs.length ≤ sizeLine ∧ (a == sysModules) = false
  | .ins c fs, x => ∃ a dx gs, x = .ref a ∧ G a = some (.ins (He.ga K c) dx gs) ∧ RepF fs gs
  | .obj n, x => ∃ a, x = .ref a ∧ A[n]? = some a
  | .fn f, x => x = .ref (He.ga K f)
def Reps : List Val → List V → Prop
  | [], xs => xs = []
  | v :: vs, xs => ∃ y ys, xs = y :: ys ∧ Rep v y ∧ Reps vs ys
def RepD (t : Bool) : List (NestedKey × Val) → List DictEntry → Prop
  | [], es => es = []
  | (k, v) :: r, es => ∃ u1 u2 y ds, es = ⟨NestedKey.hash w k, u1, u2⟩ :: ds ∧ KeyAt G t k u1 ∧ RelV y u2 ∧ Rep v y ∧ RepD t r ds
def RepF : List (Str × Val) → List (Str × V) → Prop
  | [], gs => gs = []
  | (f, v) :: r, gs => ∃ y ds, gs = (f, y) :: ds ∧ Rep v y ∧ RepF r ds
end
/-- the object u at a holds what v holds -/
def Body (v : Val) (u : HO) (a : Addr) : Prop := match v with
  | .lst vs => ∃ xs, u = .lst xs ∧ Reps w K G A vs xs
  | .dct t kvs => ∃ es ep, u = dictHO a es ep ∧ RepD w K G A t kvs es.toList ∧ (kvs.map (·.1)).Nodup ∧ kvs.length ≤ sizeLine ∧ (a == sysModules) = false
  | .ins c fs => ∃ dx gs, u = .ins (He.ga K c) dx gs ∧ RepF w K G A fs gs
  | _ => False
end

section
variable {w : World} {K : PySem.W.Frag} {G G' : Hp} {A A' : List Addr}
/-- what does not change has grown -/
structure Le (G : Hp) (A : List Addr) (G' : Hp) (A' : List Addr) : Prop where
  g : ∀ a u, G a = some u → G' a = some u
  a : ∀ (n : Nat) (b : Addr), A[n]? = some b → A'[n]? = some b
theorem Le.refl : Le G A G A := ⟨fun _ _ h => h, fun _ _ h => h⟩
theorem Le.trans {G1 G2 G3 : Hp} {A1 A2 A3 : List Addr} (x : Le G1 A1 G2 A2) (y : Le G2 A2 G3 A3) : Le G1 A1 G3 A3 := ⟨fun a u h => y.g a u (x.g a u h), fun n a h => y.a n a (x.a n a h)⟩
theorem Le.rd (l : Le G A G' A') {a : Addr} {u : HO} (h : Rd G a u) : Rd G' a u := h.elim (fun h => .inl (l.g _ _ h)) fun ⟨o, h⟩ => .inr ⟨o, l.g _ _ h⟩
theorem Le.upd {a : Addr} {u : HO} (h : G a = none) : Le G A (upd G a u) A := ⟨fun b v e => by rw [upd_ne (ne_of_none e h)]; exact e, fun _ _ h => h⟩
mutual
theorem RepN.mono (l : Le G A G' A') : ∀ (k : NestedKey) (x : V), RepN G k x → RepN G' k x
  | .none, _, h => h
  | .num _, _, h => h
  | .text _, _, h => h
  | .tup ks, x, h => by
    obtain ⟨a, xs, rfl, h1, h2⟩ := h
    exact ⟨a, xs, rfl, l.g _ _ h1, RepNs.mono l ks xs h2⟩
theorem RepNs.mono (l : Le G A G' A') : ∀ (ks : List NestedKey) (xs : List V), RepNs G ks xs → RepNs G' ks xs
  | [], _, h => h
  | k :: ks, _, h => by
    obtain ⟨y, ys, rfl, h1, h2⟩ := h
    exact ⟨y, ys, rfl, RepN.mono l k y h1, RepNs.mono l ks ys h2⟩
end
theorem KeyAt.mono (l : Le G A G' A') {t : Bool} {k : NestedKey} {u : Value} (h : KeyAt G t k u) : KeyAt G' t k u := by
  cases t with
  | false => exact h
  | true =>
    obtain ⟨ks, b, e1, e2, h1, h2⟩ := h
    exact ⟨ks, b, e1, e2, RepN.mono l _ _ h1, h2⟩
mutual
theorem Rep.mono (l : Le G A G' A') : ∀ (v : Val) (x : V), Rep w K G A v x → Rep w K G' A' v x
  | .non, _, h => h
  | .bl _, _, h => h
  | .int _, _, h => h
  | .str _, _, h => h
  | .tup vs, x, h => by
    obtain ⟨a, xs, e, h1, h2⟩ := h
    exact ⟨a, xs, e, l.g _ _ h1, Reps.mono l vs xs h2⟩
  | .lst vs, x, h => by
    obtain ⟨a, u, e, h1, xs, e2, h2⟩ := h
    exact ⟨a, u, e, l.rd h1, xs, e2, Reps.mono l vs xs h2⟩
  | .dct t kvs, x, h => by
    obtain ⟨a, es, ep, e, h1, h2, h3⟩ := h
    exact ⟨a, es, ep, e, l.g _ _ h1, RepD.mono l t kvs _ h2, h3⟩
  | .ins c fs, x, h => by
    obtain ⟨a, dx, gs, e, h1, h2⟩ := h
    exact ⟨a, dx, gs, e, l.g _ _ h1, RepF.mono l fs gs h2⟩
  | .obj n, x, h => by
    obtain ⟨a, e, h1⟩ := h
    exact ⟨a, e, l.a _ _ h1⟩
  | .fn f, x, h => h
theorem Reps.mono (l : Le G A G' A') : ∀ (vs : List Val) (xs : List V), Reps w K G A vs xs → Reps w K G' A' vs xs
  | [], _, h => h
  | v :: vs, _, h => by
    obtain ⟨y, ys, e, h1, h2⟩ := h
    exact ⟨y, ys, e, Rep.mono l v y h1, Reps.mono l vs ys h2⟩
theorem RepD.mono (l : Le G A G' A') (t : Bool) : ∀ (kvs : List (NestedKey × Val)) (es : List DictEntry), RepD w K G A t kvs es → RepD w K G' A' t kvs es
  | [], _, h => h
  | (k, v) :: r, _, h => by
    obtain ⟨u1, u2, y, ds, e, h1, h2, h3, h4⟩ := h
    exact ⟨u1, u2, y, ds, e, h1.mono l, h2, Rep.mono l v y h3, RepD.mono l t r ds h4⟩
theorem RepF.mono (l : Le G A G' A') : ∀ (fs : List (Str × Val)) (gs : List (Str × V)), RepF w K G A fs gs → RepF w K G' A' fs gs
  | [], _, h => h
  | (f, v) :: r, _, h => by
    obtain ⟨y, ds, e, h1, h2⟩ := h
    exact ⟨y, ds, e, Rep.mono l v y h1, RepF.mono l r ds h2⟩
end
theorem Body.mono (l : Le G A G' A') {v : Val} {u : HO} {a : Addr} (h : Body w K G A v u a) : Body w K G' A' v u a := by
  cases v with
  | lst vs => obtain ⟨xs, e, h⟩ := h; exact ⟨xs, e, Reps.mono l _ _ h⟩
  | dct t kvs => obtain ⟨es, ep, e, h, r⟩ := h; exact ⟨es, ep, e, RepD.mono l _ _ _ h, r⟩
  | ins c fs => obtain ⟨dx, gs, e, h⟩ := h; exact ⟨dx, gs, e, RepF.mono l _ _ h⟩
  | _ => exact h.elim
/-- what is in a body, once it does not change, is a value -/
theorem Body.rep {v : Val} {u : HO} {a : Addr} (h : Body w K G A v u a) (e : G a = some u) : Rep w K G A v (.ref a) := by
  cases v with
  | lst vs => obtain ⟨xs, rfl, h⟩ := h; exact ⟨a, _, rfl, .inl e, xs, rfl, h⟩
  | dct t kvs => obtain ⟨es, ep, rfl, h⟩ := h; exact ⟨a, es, ep, rfl, e, h⟩
  | ins c fs => obtain ⟨dx, gs, rfl, h⟩ := h; exact ⟨a, dx, gs, rfl, e, h⟩
  | _ => exact h.elim
/-! ### lists of values -/
theorem Reps.length : ∀ {vs : List Val} {xs : List V}, Reps w K G A vs xs → xs.length = vs.length
  | [], _, h => by rw [show _ = _ from h]; rfl
  | v :: vs, _, h => by
    obtain ⟨y, ys, rfl, _, h2⟩ := h
    simp [h2.length]
theorem Reps.get : ∀ {vs : List Val} {xs : List V} {i : Nat} {v : Val}, Reps w K G A vs xs → vs[i]? = some v → ∃ x, xs[i]? = some x ∧ Rep w K G A v x
  | [], _, _, _, _, e => by simp at e
  | v :: vs, _, i, z, h, e => by
    obtain ⟨y, ys, rfl, h1, h2⟩ := h
    cases i with
    | zero => simp at e; subst e; exact ⟨y, rfl, h1⟩
    | succ i => simpa using h2.get (i := i) (by simpa using e)
theorem Reps.append : ∀ {vs ws : List Val} {xs ys : List V}, Reps w K G A vs xs → Reps w K G A ws ys → Reps w K G A (vs ++ ws) (xs ++ ys)
  | [], _, _, _, h, h' => by rw [show _ = _ from h]; exact h'
  | v :: vs, _, _, _, h, h' => by
    obtain ⟨y, ys, rfl, h1, h2⟩ := h
    exact ⟨y, ys ++ _, rfl, h1, h2.append h'⟩
theorem Reps.set : ∀ {vs : List Val} {xs : List V} (i : Nat) {v : Val} {x : V}, Reps w K G A vs xs → Rep w K G A v x → Reps w K G A (vs.set i v) (xs.set i x)
  | [], _, _, _, _, h, _ => by rw [show _ = _ from h]; rfl
  | v :: vs, _, i, _, _, h, h' => by
    obtain ⟨y, ys, rfl, h1, h2⟩ := h
    cases i with
    | zero => exact ⟨_, _, rfl, h', h2⟩
    | succ i => exact ⟨_, _, rfl, h1, h2.set i h'⟩
theorem Reps.drop : ∀ {vs : List Val} {xs : List V} (n : Nat), Reps w K G A vs xs → Reps w K G A (vs.drop n) (xs.drop n)
  | vs, xs, 0, h => by simpa using h
  | [], _, n + 1, h => by rw [show _ = _ from h]; simp [Reps]
  | v :: vs, _, n + 1, h => by
    obtain ⟨y, ys, rfl, h1, h2⟩ := h
    simpa using h2.drop n
theorem Reps.take : ∀ {vs : List Val} {xs : List V} (n : Nat), Reps w K G A vs xs → Reps w K G A (vs.take n) (xs.take n)
  | vs, xs, 0, h => by simp [Reps]
  | [], _, n + 1, h => by rw [show _ = _ from h]; simp [Reps]
  | v :: vs, _, n + 1, h => by
    obtain ⟨y, ys, rfl, h1, h2⟩ := h
    exact ⟨y, ys.take n, by simp, h1, h2.take n⟩
theorem Reps.reverse : ∀ {vs : List Val} {xs : List V}, Reps w K G A vs xs → Reps w K G A vs.reverse xs.reverse
  | [], _, h => by rw [show _ = _ from h]; rfl
  | v :: vs, _, h => by
    obtain ⟨y, ys, rfl, h1, h2⟩ := h
    simp only [List.reverse_cons]
    exact h2.reverse.append ⟨y, [], rfl, h1, rfl⟩
theorem Reps.one {v : Val} {x : V} (h : Rep w K G A v x) : Reps w K G A [v] [x] := ⟨x, [], rfl, h, rfl⟩
theorem Reps.snoc {vs : List Val} {xs : List V} {v : Val} {x : V} (h : Reps w K G A vs xs) (h' : Rep w K G A v x) : Reps w K G A (vs ++ [v]) (xs ++ [x]) := h.append (.one h')
end
end TL

set_option Elab.async false
set_option linter.all false
set_option maxRecDepth 100000
/-! LTB: the state of the tree reading (slots, world), and how heap and slots bear it. -/
namespace TL
open PySem PySem.Spec PyProof.Rows L2
abbrev St := L2.St

/-- a slot: empty; a value that does not change; a thing that this slot alone holds -/
inductive Slot where
  | e | fz (v : Val) | own (v : Val)
  deriving Inhabited
/-- slots and world -/
structure Sta where
  ρ : List Slot
  w : List (Option Val)
/-- the places of things that may change -/
inductive Cell where
  | slot (i : Nat) | tmp (i : Nat) | obj (i : Nat)
abbrev Tmp := List (Addr × Val)

/-- a def's entry -/
structure Fr where
  w : World
  K : PySem.W.Frag
  H0 : Hp
  G0 : Hp
  A0 : List Addr
  live0 : Nat → Bool

def slotC (ρ : List Slot) (σ : St) (i : Nat) : Option (Addr × Val) := match ρ[i]?, σ[i]? with
  | some (.own v), some (some (V.ref a)) => some (a, v)
  | _, _ => none
def objC (w : List (Option Val)) (A : List Addr) (i : Nat) : Option (Addr × Val) := match w[i]?, A[i]? with
  | some (some v), some a => some (a, v)
  | _, _ => none
def cellAt (s : Sta) (τ : Tmp) (σ : St) (A : List Addr) : Cell → Option (Addr × Val)
  | .slot i => slotC s.ρ σ i
  | .tmp i => τ[i]?
  | .obj i => objC s.w A i

section
variable (F : Fr)
/-- what of the entry still holds -/
structure Ext (G : Hp) (A : List Addr) (H : Hp) : Prop where
  le : Le F.G0 F.A0 G A
  new : ∀ a, G a ≠ none → F.G0 a ≠ none ∨ F.H0 a = none
  keep : ∀ a u, F.H0 a = some u → F.G0 a = none → (∀ i : Nat, F.live0 i = true → F.A0[i]? ≠ some a) → H a = some u
  dom : ∀ a, F.H0 a ≠ none → H a ≠ none
  fresh : ∀ (n : Nat) (a : Addr), F.A0.length ≤ n → A[n]? = some a → F.H0 a = none
def SlotOk (G : Hp) (A : List Addr) (σ : St) (i : Nat) : Slot → Prop
  | .e => True
  | .fz v => ∃ x, σ[i]? = some (some x) ∧ Rep F.w F.K G A v x
  | .own v => ∃ a, σ[i]? = some (some (V.ref a))
structure Rel (G : Hp) (A : List Addr) (τ : Tmp) (s : Sta) (σ : St) (H : Hp) : Prop where
  ext : Ext F G A H
  sub : ∀ a u, G a = some u → H a = some u
  len : s.ρ.length = σ.length
  wlen : s.w.length = A.length
  slot : ∀ (i : Nat) (b : Slot), s.ρ[i]? = some b → SlotOk F G A σ i b
  cell : ∀ c a v, cellAt s τ σ A c = some (a, v) → G a = none ∧ ∃ u, H a = some u ∧ Body F.w F.K G A v u a
  inj : ∀ c c' a v v', cellAt s τ σ A c = some (a, v) → cellAt s τ σ A c' = some (a, v') → c = c'
  new : ∀ c a v, cellAt s τ σ A c = some (a, v) → (∀ i, c ≠ .obj i) → F.H0 a = none
  old : ∀ (i : Nat) (v : Val), i < F.A0.length → s.w[i]? = some (some v) → F.live0 i = true
end

section
variable {F : Fr} {G G' : Hp} {A A' : List Addr} {τ : Tmp} {s s' : Sta} {σ σ' : St} {H H' : Hp}
theorem Rel.free (r : Rel F G A τ s σ H) {p : Addr} (h : H p = none) : G p = none := by
  cases e : G p with
  | none => rfl
  | some u => rw [r.sub p u e] at h; cases h
theorem Rel.free0 (r : Rel F G A τ s σ H) {p : Addr} (h : H p = none) : F.H0 p = none := by
  cases e : F.H0 p with
  | none => rfl
  | some u => exact absurd h (r.ext.dom p (by rw [e]; simp))
theorem SlotOk.mono (l : Le G A G' A') {i : Nat} {b : Slot} (h : SlotOk F G A σ i b) : SlotOk F G' A' σ i b := by
  cases b with
  | e => trivial
  | fz v => obtain ⟨x, e, h⟩ := h; exact ⟨x, e, Rep.mono l _ _ h⟩
  | own v => exact h

/-- the heap beyond G and the cells has changed: what was there stands -/
theorem Rel.heap (r : Rel F G A τ s σ H) (hk : ∀ a u, H a = some u → H' a = some u) : Rel F G A τ s σ H' where
  ext := ⟨r.ext.le, r.ext.new, fun a u h1 h2 h3 => hk a u (r.ext.keep a u h1 h2 h3), fun a h => by
    obtain ⟨u, e⟩ := Option.ne_none_iff_exists'.mp (r.ext.dom a h)
    rw [hk a u e]; simp, r.ext.fresh⟩
  sub := fun a u e => hk a u (r.sub a u e)
  len := r.len
  wlen := r.wlen
  slot := r.slot
  cell := fun c a v e => let ⟨h1, u, h2, h3⟩ := r.cell c a v e; ⟨h1, u, hk a u h2, h3⟩
  inj := r.inj
  new := r.new
  old := r.old
/-- a new object is laid, nobody holds it -/
theorem Rel.lay (r : Rel F G A τ s σ H) {p : Addr} {o : HO} (hp : H p = none) : Rel F G A τ s σ (upd H p o) := r.heap fun a u e => by rw [upd_ne (ne_of_none e hp)]; exact e
/-- what nobody may change any more joins what does not change -/
theorem Rel.grow (r : Rel F G A τ s σ H) {p : Addr} {o : HO} (hG : G p = none) (hH : H p = some o) (h0 : F.H0 p = none) (hc : ∀ c v, cellAt s τ σ A c ≠ some (p, v)) :
    Rel F (upd G p o) A τ s σ H := by
  have l : Le G A (upd G p o) A := Le.upd hG
  refine ⟨⟨r.ext.le.trans l, fun a h => ?_, r.ext.keep, r.ext.dom, r.ext.fresh⟩, fun a u e => ?_, r.len, r.wlen, fun i b e => (r.slot i b e).mono l, fun c a v e => ?_, r.inj, r.new, r.old⟩
  · by_cases e : a = p
    · subst e; exact .inr h0
    · rw [upd_ne e] at h; exact r.ext.new a h
  · by_cases q : a = p
    · subst q; rw [upd_same] at e; cases e; exact hH
    · rw [upd_ne q] at e; exact r.sub a u e
  · obtain ⟨h1, u, h2, h3⟩ := r.cell c a v e
    have q : a ≠ p := fun q => by subst q; exact hc c v e
    exact ⟨by rw [upd_ne q]; exact h1, u, h2, h3.mono l⟩
/-- a new object that does not change -/
theorem Rel.layG (r : Rel F G A τ s σ H) {p : Addr} {o : HO} (hp : H p = none) : Rel F (upd G p o) A τ s σ (upd H p o) := by
  refine (r.lay (o := o) hp).grow (r.free hp) upd_same (r.free0 hp) fun c v e => ?_
  obtain ⟨_, u, h2, _⟩ := r.cell c p v e
  rw [hp] at h2; cases h2

theorem cell_tmp0 {a : Addr} {v : Val} : cellAt s ((a, v) :: τ) σ A (.tmp 0) = some (a, v) := rfl
theorem cell_tmpS {p : Addr × Val} {i : Nat} : cellAt s (p :: τ) σ A (.tmp (i + 1)) = cellAt s τ σ A (.tmp i) := by
  show (p :: τ)[i + 1]? = τ[i]?
  simp
/-- one step down in the temporaries -/
def Cell.up : Cell → Cell
  | .tmp i => .tmp (i + 1)
  | c => c
theorem cell_up {p : Addr × Val} (c : Cell) : cellAt s (p :: τ) σ A c.up = cellAt s τ σ A c := by
  cases c with
  | tmp i => exact cell_tmpS
  | slot i => rfl
  | obj i => rfl
theorem Cell.up_inj {c c' : Cell} (h : c.up = c'.up) : c = c' := by
  cases c <;> cases c' <;> simp_all [Cell.up]
theorem Cell.cases0 (c : Cell) : c = .tmp 0 ∨ ∃ c' : Cell, c = c'.up := by
  cases c with
  | tmp i => cases i with
    | zero => exact .inl rfl
    | succ i => exact .inr ⟨.tmp i, rfl⟩
  | slot i => exact .inr ⟨.slot i, rfl⟩
  | obj i => exact .inr ⟨.obj i, rfl⟩
theorem Cell.up_ne {c : Cell} : c.up ≠ .tmp 0 := by cases c <;> simp [Cell.up]
theorem Cell.up_obj {c : Cell} (h : ∀ i, c.up ≠ .obj i) : ∀ i, c ≠ .obj i := fun i e => by subst e; exact h i rfl
/-- the uppermost temporary is dropped -/
theorem Rel.pop {p : Addr × Val} (r : Rel F G A (p :: τ) s σ H) : Rel F G A τ s σ H :=
  ⟨r.ext, r.sub, r.len, r.wlen, r.slot, fun c a v e => r.cell c.up a v (by rw [cell_up]; exact e), fun c c' a v v' e e' => Cell.up_inj (r.inj c.up c'.up a v v' (by rw [cell_up]; exact e) (by rw [cell_up]; exact e')),
    fun c a v e h => r.new c.up a v (by rw [cell_up]; exact e) fun i q => by
      cases c with
      | tmp j => cases q
      | slot j => cases q
      | obj j => exact h j rfl, r.old⟩
theorem Rel.top {p : Addr} {v : Val} (r : Rel F G A ((p, v) :: τ) s σ H) : G p = none ∧ F.H0 p = none ∧ (∃ u, H p = some u ∧ Body F.w F.K G A v u p) ∧ ∀ c v', cellAt s τ σ A c ≠ some (p, v') := by
  obtain ⟨h1, u, h2, h3⟩ := r.cell (.tmp 0) p v cell_tmp0
  refine ⟨h1, r.new (.tmp 0) p v cell_tmp0 (fun i q => by cases q), ⟨u, h2, h3⟩, fun c v' e => ?_⟩
  exact Cell.up_ne (r.inj c.up (.tmp 0) p v' v (by rw [cell_up]; exact e) cell_tmp0)
/-- a thing that nobody holds becomes a temporary -/
theorem Rel.push {p : Addr} {v : Val} {u : HO} (r : Rel F G A τ s σ H) (hG : G p = none) (h0 : F.H0 p = none) (hH : H p = some u) (hb : Body F.w F.K G A v u p) (hc : ∀ c v', cellAt s τ σ A c ≠ some (p, v')) : Rel F G A ((p, v) :: τ) s σ H := by
  refine ⟨r.ext, r.sub, r.len, r.wlen, r.slot, fun c a z e => ?_, fun c c' a z z' e e' => ?_, fun c a z e h => ?_, r.old⟩
  · rcases c.cases0 with rfl | ⟨d, rfl⟩
    · cases (cell_tmp0.symm.trans e); exact ⟨hG, u, hH, hb⟩
    · rw [cell_up] at e; exact r.cell d a z e
  · rcases c.cases0 with rfl | ⟨d, rfl⟩
    · cases (cell_tmp0.symm.trans e)
      rcases c'.cases0 with rfl | ⟨d', rfl⟩
      · rfl
      · rw [cell_up] at e'; exact absurd e' (hc d' z')
    · rw [cell_up] at e
      rcases c'.cases0 with rfl | ⟨d', rfl⟩
      · cases (cell_tmp0.symm.trans e'); exact absurd e (hc d z)
      · rw [cell_up] at e'; rw [r.inj d d' a z z' e e']
  · rcases c.cases0 with rfl | ⟨d, rfl⟩
    · cases (cell_tmp0.symm.trans e); exact h0
    · rw [cell_up] at e; exact r.new d a z e (Cell.up_obj h)
/-- a new object as a temporary -/
theorem Rel.layT (r : Rel F G A τ s σ H) {p : Addr} {o : HO} {v : Val} (hp : H p = none) (hb : Body F.w F.K G A v o p) : Rel F G A ((p, v) :: τ) s σ (upd H p o) :=
  (r.lay (o := o) hp).push (r.free hp) (r.free0 hp) upd_same hb fun c v' e => by
    obtain ⟨_, u, h2, _⟩ := r.cell c p v' e
    rw [hp] at h2; cases h2
/-- a temporary that nobody will change: a value -/
theorem Rel.fixT {p : Addr} {v : Val} (r : Rel F G A ((p, v) :: τ) s σ H) : ∃ G', Le G A G' A ∧ Rel F G' A τ s σ H ∧ Rep F.w F.K G' A v (V.ref p) := by
  obtain ⟨h1, h2, ⟨u, h3, h4⟩, h5⟩ := r.top
  have l : Le G A (upd G p u) A := Le.upd h1
  exact ⟨_, l, r.pop.grow h1 h3 h2 h5, (h4.mono l).rep upd_same⟩

/-! ### slots -/
theorem slotC_set {ρ : List Slot} {σ : St} {i j : Nat} {b : Slot} {x : Option V} (h : j ≠ i) : slotC (ρ.set i b) (σ.set i x) j = slotC ρ σ j := by
  unfold slotC
  rw [List.getElem?_set_ne (Ne.symm h), List.getElem?_set_ne (Ne.symm h)]
theorem slotC_setρ {ρ : List Slot} {σ : St} {i j : Nat} {b : Slot} (h : j ≠ i) : slotC (ρ.set i b) σ j = slotC ρ σ j := by
  unfold slotC
  rw [List.getElem?_set_ne (Ne.symm h)]
/-- a slot takes a value -/
theorem Rel.setFz (r : Rel F G A τ s σ H) (i : Nat) {v : Val} {x : V} (hr : Rep F.w F.K G A v x) (hi : i < σ.length) : Rel F G A τ ⟨s.ρ.set i (.fz v), s.w⟩ (σ.set i (some x)) H := by
  have key : ∀ c a z, cellAt ⟨s.ρ.set i (.fz v), s.w⟩ τ (σ.set i (some x)) A c = some (a, z) → cellAt s τ σ A c = some (a, z) := fun c a z e => by
    cases c with
    | slot j =>
      by_cases h : j = i
      · subst h
        have e' : slotC (s.ρ.set j (.fz v)) (σ.set j (some x)) j = some (a, z) := e
        unfold slotC at e'
        rw [List.getElem?_set_self (by rw [r.len]; exact hi)] at e'
        simp at e'
      · have e' : slotC (s.ρ.set i (.fz v)) (σ.set i (some x)) j = some (a, z) := e
        rw [slotC_set h] at e'; exact e'
    | tmp j => exact e
    | obj j => exact e
  refine ⟨r.ext, r.sub, by simp [r.len], r.wlen, fun j b e => ?_, fun c a z e => r.cell c a z (key c a z e), fun c c' a z z' e e' => r.inj c c' a z z' (key _ _ _ e) (key _ _ _ e'), fun c a z e h => r.new c a z (key _ _ _ e) h, r.old⟩
  by_cases h : j = i
  · subst h
    have e' : (s.ρ.set j (.fz v))[j]? = some b := e
    rw [List.getElem?_set_self (by rw [r.len]; exact hi)] at e'
    cases e'
    exact ⟨x, List.getElem?_set_self hi, hr⟩
  · have e' : (s.ρ.set i (.fz v))[j]? = some b := e
    rw [List.getElem?_set_ne (Ne.symm h)] at e'
    have q := r.slot j b e'
    cases b with
    | e => trivial
    | fz z => obtain ⟨y, q1, q2⟩ := q; exact ⟨y, by rw [List.getElem?_set_ne (Ne.symm h)]; exact q1, q2⟩
    | own z => obtain ⟨y, q1⟩ := q; exact ⟨y, by rw [List.getElem?_set_ne (Ne.symm h)]; exact q1⟩
/-- a slot takes a temporary -/
theorem Rel.setOwn {p : Addr} {v : Val} (r : Rel F G A ((p, v) :: τ) s σ H) (i : Nat) (hi : i < σ.length) : Rel F G A τ ⟨s.ρ.set i (.own v), s.w⟩ (σ.set i (some (V.ref p))) H := by
  obtain ⟨h1, h2, h3, h4⟩ := r.top
  have rp := r.pop
  have iρ : i < s.ρ.length := by rw [r.len]; exact hi
  have key : ∀ c a z, cellAt ⟨s.ρ.set i (.own v), s.w⟩ τ (σ.set i (some (V.ref p))) A c = some (a, z) → (c = .slot i ∧ a = p ∧ z = v) ∨ (c ≠ .slot i ∧ cellAt s τ σ A c = some (a, z)) := fun c a z e => by
    cases c with
    | slot j =>
      by_cases h : j = i
      · subst h
        have e' : slotC (s.ρ.set j (.own v)) (σ.set j (some (V.ref p))) j = some (a, z) := e
        unfold slotC at e'
        rw [List.getElem?_set_self iρ, List.getElem?_set_self hi] at e'
        cases e'
        exact .inl ⟨rfl, rfl, rfl⟩
      · have e' : slotC (s.ρ.set i (.own v)) (σ.set i (some (V.ref p))) j = some (a, z) := e
        rw [slotC_set h] at e'
        exact .inr ⟨fun q => by cases q; exact h rfl, e'⟩
    | tmp j => exact .inr ⟨fun q => (by cases q), e⟩
    | obj j => exact .inr ⟨fun q => (by cases q), e⟩
  refine ⟨r.ext, r.sub, by simp [r.len], r.wlen, fun j b e => ?_, fun c a z e => ?_, fun c c' a z z' e e' => ?_, fun c a z e h => ?_, r.old⟩
  · by_cases h : j = i
    · subst h
      have e' : (s.ρ.set j (.own v))[j]? = some b := e
      rw [List.getElem?_set_self iρ] at e'
      cases e'
      exact ⟨p, List.getElem?_set_self hi⟩
    · have e' : (s.ρ.set i (.own v))[j]? = some b := e
      rw [List.getElem?_set_ne (Ne.symm h)] at e'
      have q := r.slot j b e'
      cases b with
      | e => trivial
      | fz z => obtain ⟨y, q1, q2⟩ := q; exact ⟨y, by rw [List.getElem?_set_ne (Ne.symm h)]; exact q1, q2⟩
      | own z => obtain ⟨y, q1⟩ := q; exact ⟨y, by rw [List.getElem?_set_ne (Ne.symm h)]; exact q1⟩
  · rcases key c a z e with ⟨rfl, rfl, rfl⟩ | ⟨_, e⟩
    · obtain ⟨u, q1, q2⟩ := h3; exact ⟨h1, u, q1, q2⟩
    · exact rp.cell c a z e
  · rcases key c a z e with ⟨q1, q2, q3⟩ | ⟨n1, k1⟩
    · rcases key c' a z' e' with ⟨q4, _, _⟩ | ⟨_, k2⟩
      · rw [q1, q4]
      · rw [q2] at k2; exact absurd k2 (h4 c' z')
    · rcases key c' a z' e' with ⟨_, q2, _⟩ | ⟨_, k2⟩
      · rw [q2] at k1; exact absurd k1 (h4 c z)
      · exact rp.inj c c' a z z' k1 k2
  · rcases key c a z e with ⟨rfl, rfl, rfl⟩ | ⟨_, e⟩
    · exact h2
    · exact rp.new c a z e h
/-- a slot is forgotten -/
theorem Rel.kill (r : Rel F G A τ s σ H) (i : Nat) : Rel F G A τ ⟨s.ρ.set i .e, s.w⟩ σ H := by
  have key : ∀ c a z, cellAt ⟨s.ρ.set i .e, s.w⟩ τ σ A c = some (a, z) → cellAt s τ σ A c = some (a, z) := fun c a z e => by
    cases c with
    | slot j =>
      have e' : slotC (s.ρ.set i .e) σ j = some (a, z) := e
      by_cases h : j = i
      · subst h
        unfold slotC at e'
        by_cases hl : j < s.ρ.length
        · rw [List.getElem?_set_self hl] at e'; simp at e'
        · rw [List.getElem?_eq_none (by simpa using hl)] at e'; simp at e'
      · rw [slotC_setρ h] at e'; exact e'
    | tmp j => exact e
    | obj j => exact e
  refine ⟨r.ext, r.sub, by simp [r.len], r.wlen, fun j b e => ?_, fun c a z e => r.cell c a z (key c a z e), fun c c' a z z' e e' => r.inj c c' a z z' (key _ _ _ e) (key _ _ _ e'), fun c a z e h => r.new c a z (key _ _ _ e) h, r.old⟩
  have e' : (s.ρ.set i .e)[j]? = some b := e
  by_cases h : j = i
  · subst h
    by_cases hl : j < s.ρ.length
    · rw [List.getElem?_set_self hl] at e'; cases e'; trivial
    · rw [List.getElem?_eq_none (by simpa using hl)] at e'; cases e'
  · rw [List.getElem?_set_ne (Ne.symm h)] at e'
    exact r.slot j b e'
/-- what a slot holds by itself becomes a temporary, the slot is empty -/
theorem Rel.take (r : Rel F G A τ s σ H) {i : Nat} {v : Val} (h : s.ρ[i]? = some (.own v)) : ∃ a, σ[i]? = some (some (V.ref a)) ∧ Rel F G A ((a, v) :: τ) ⟨s.ρ.set i .e, s.w⟩ σ H := by
  obtain ⟨a, ha⟩ := r.slot i _ h
  have e : cellAt s τ σ A (.slot i) = some (a, v) := by
    show slotC s.ρ σ i = _
    unfold slotC
    rw [h, ha]
  obtain ⟨h1, u, h2, h3⟩ := r.cell _ _ _ e
  refine ⟨a, ha, (r.kill i).push h1 (r.new _ _ _ e fun j q => by cases q) h2 h3 fun c v' q => ?_⟩
  have q' : cellAt s τ σ A c = some (a, v') ∧ c ≠ .slot i := by
    cases c with
    | slot j =>
      have q2 : slotC (s.ρ.set i .e) σ j = some (a, v') := q
      by_cases hj : j = i
      · subst hj
        unfold slotC at q2
        rw [List.getElem?_set_self (List.getElem?_eq_some_iff.mp h).1] at q2
        simp at q2
      · rw [slotC_setρ hj] at q2; exact ⟨q2, fun z => by cases z; exact hj rfl⟩
    | tmp j => exact ⟨q, fun z => (by cases z)⟩
    | obj j => exact ⟨q, fun z => (by cases z)⟩
  exact q'.2 (r.inj c (.slot i) a v' v q'.1 e)
/-- a slot's own thing does not change any more -/
theorem Rel.fix (r : Rel F G A τ s σ H) {i : Nat} {v : Val} (h : s.ρ[i]? = some (.own v)) : ∃ a G', σ[i]? = some (some (V.ref a)) ∧ Le G A G' A ∧ Rel F G' A τ ⟨s.ρ.set i (.fz v), s.w⟩ σ H ∧ Rep F.w F.K G' A v (V.ref a) := by
  obtain ⟨a, ha, r1⟩ := r.take h
  obtain ⟨G', l, r2, q⟩ := r1.fixT
  have hi : i < σ.length := (List.getElem?_eq_some_iff.mp ha).1
  have r3 := r2.setFz i q hi
  refine ⟨a, G', ha, l, ?_, q⟩
  have e1 : (s.ρ.set i .e).set i (.fz v) = s.ρ.set i (.fz v) := by rw [List.set_set]
  have e2 : σ.set i (some (V.ref a)) = σ := by
    apply List.ext_getElem?
    intro j
    by_cases hj : j = i
    · subst hj; rw [List.getElem?_set_self hi, ha]
    · rw [List.getElem?_set_ne (Ne.symm hj)]
  rw [e2] at r3
  simpa [e1] using r3

/-! ### writing -/
theorem Rel.writeSlot (r : Rel F G A τ s σ H) {i : Nat} {v v' : Val} {a : Addr} {u' : HO} (h : s.ρ[i]? = some (.own v)) (ha : σ[i]? = some (some (V.ref a))) (hb : Body F.w F.K G A v' u' a) :
    Rel F G A τ ⟨s.ρ.set i (.own v'), s.w⟩ σ (upd H a u') := by
  have e0 : cellAt s τ σ A (.slot i) = some (a, v) := by
    show slotC s.ρ σ i = _
    unfold slotC
    rw [h, ha]
  obtain ⟨h1, u, h2, h3⟩ := r.cell _ _ _ e0
  have h0 := r.new _ _ _ e0 (fun j q => by cases q)
  have iρ : i < s.ρ.length := (List.getElem?_eq_some_iff.mp h).1
  have key : ∀ c b z, cellAt ⟨s.ρ.set i (.own v'), s.w⟩ τ σ A c = some (b, z) → (c = .slot i ∧ b = a ∧ z = v') ∨ (c ≠ .slot i ∧ cellAt s τ σ A c = some (b, z)) := fun c b z e => by
    cases c with
    | slot j =>
      have e' : slotC (s.ρ.set i (.own v')) σ j = some (b, z) := e
      by_cases hj : j = i
      · subst hj
        unfold slotC at e'
        rw [List.getElem?_set_self iρ, ha] at e'
        cases e'
        exact .inl ⟨rfl, rfl, rfl⟩
      · rw [slotC_setρ hj] at e'
        exact .inr ⟨fun q => by cases q; exact hj rfl, e'⟩
    | tmp j => exact .inr ⟨fun q => (by cases q), e⟩
    | obj j => exact .inr ⟨fun q => (by cases q), e⟩
  have ne : ∀ c b z, c ≠ Cell.slot i → cellAt s τ σ A c = some (b, z) → b ≠ a := fun c b z n e q => by
    subst q; exact n (r.inj c (.slot i) b z v e e0)
  refine ⟨⟨r.ext.le, r.ext.new, fun b w q1 q2 q3 => ?_, fun b q => ?_, r.ext.fresh⟩, fun b w e => ?_, by simp [r.len], r.wlen, fun j b e => ?_, fun c b z e => ?_, fun c c' b z z' e e' => ?_, fun c b z e n => ?_, r.old⟩
  · rw [upd_ne (ne_of_none q1 h0)]; exact r.ext.keep b w q1 q2 q3
  · by_cases e : b = a
    · subst e; rw [upd_same]; simp
    · rw [upd_ne e]; exact r.ext.dom b q
  · rw [upd_ne (ne_of_none e h1)]; exact r.sub b w e
  · have e' : (s.ρ.set i (.own v'))[j]? = some b := e
    by_cases hj : j = i
    · subst hj
      rw [List.getElem?_set_self iρ] at e'
      cases e'
      exact ⟨a, ha⟩
    · rw [List.getElem?_set_ne (Ne.symm hj)] at e'
      exact r.slot j b e'
  · rcases key c b z e with ⟨_, rfl, rfl⟩ | ⟨n, e'⟩
    · exact ⟨h1, u', upd_same, hb⟩
    · obtain ⟨g1, w, g2, g3⟩ := r.cell c b z e'
      exact ⟨g1, w, by rw [upd_ne (ne c b z n e')]; exact g2, g3⟩
  · rcases key c b z e with ⟨k1, k2, _⟩ | ⟨n, k1⟩
    · rcases key c' b z' e' with ⟨k3, _, _⟩ | ⟨n', k3⟩
      · rw [k1, k3]
      · exact absurd k2 (ne c' b z' n' k3)
    · rcases key c' b z' e' with ⟨_, k2, _⟩ | ⟨n', k2⟩
      · exact absurd k2 (ne c b z n k1)
      · exact r.inj c c' b z z' k1 k2
  · rcases key c b z e with ⟨_, rfl, _⟩ | ⟨_, e'⟩
    · exact h0
    · exact r.new c b z e' n
theorem objC_some {w : List (Option Val)} {A : List Addr} {i : Nat} {v : Val} {a : Addr} (h : w[i]? = some (some v)) (ha : A[i]? = some a) : objC w A i = some (a, v) := by
  unfold objC
  rw [h, ha]
theorem objC_ne {w : List (Option Val)} {A : List Addr} {i j : Nat} {o : Option Val} (h : j ≠ i) : objC (w.set i o) A j = objC w A j := by
  unfold objC
  rw [List.getElem?_set_ne (Ne.symm h)]
theorem Rel.objAddr (r : Rel F G A τ s σ H) {i : Nat} {o : Option Val} (h : s.w[i]? = some o) : ∃ a, A[i]? = some a := by
  have := (List.getElem?_eq_some_iff.mp h).1
  exact ⟨_, List.getElem?_eq_getElem (by rw [← r.wlen]; exact this)⟩
theorem mem_getElem? {α : Type} {l : List α} {x : α} (h : x ∈ l) : ∃ n : Nat, l[n]? = some x := by
  obtain ⟨n, hn, e⟩ := List.getElem_of_mem h
  exact ⟨n, by rw [List.getElem?_eq_getElem hn, e]⟩
theorem Rel.writeObj (r : Rel F G A τ s σ H) {i : Nat} {v v' : Val} {a : Addr} {u' : HO} (h : s.w[i]? = some (some v)) (ha : A[i]? = some a) (hb : Body F.w F.K G A v' u' a) :
    Rel F G A τ ⟨s.ρ, s.w.set i (some v')⟩ σ (upd H a u') := by
  have e0 : cellAt s τ σ A (.obj i) = some (a, v) := objC_some h ha
  obtain ⟨h1, u, h2, h3⟩ := r.cell _ _ _ e0
  have iw : i < s.w.length := (List.getElem?_eq_some_iff.mp h).1
  have key : ∀ c b z, cellAt ⟨s.ρ, s.w.set i (some v')⟩ τ σ A c = some (b, z) → (c = .obj i ∧ b = a ∧ z = v') ∨ (c ≠ .obj i ∧ cellAt s τ σ A c = some (b, z)) := fun c b z e => by
    cases c with
    | obj j =>
      have e' : objC (s.w.set i (some v')) A j = some (b, z) := e
      by_cases hj : j = i
      · subst hj
        rw [objC_some (List.getElem?_set_self iw) ha] at e'
        cases e'
        exact .inl ⟨rfl, rfl, rfl⟩
      · rw [objC_ne hj] at e'
        exact .inr ⟨fun q => by cases q; exact hj rfl, e'⟩
    | tmp j => exact .inr ⟨fun q => (by cases q), e⟩
    | slot j => exact .inr ⟨fun q => (by cases q), e⟩
  have ne : ∀ c b z, c ≠ Cell.obj i → cellAt s τ σ A c = some (b, z) → b ≠ a := fun c b z n e q => by
    subst q; exact n (r.inj c (.obj i) b z v e e0)
  refine ⟨⟨r.ext.le, r.ext.new, fun b w q1 q2 q3 => ?_, fun b q => ?_, r.ext.fresh⟩, fun b w e => ?_, r.len, by simp [r.wlen], r.slot, fun c b z e => ?_, fun c c' b z z' e e' => ?_, fun c b z e n => ?_, fun j z hj e => ?_⟩
  · have q : b ≠ a := fun q => by
      subst q
      by_cases hi : i < F.A0.length
      · have e1 : F.A0[i]? = some F.A0[i] := List.getElem?_eq_getElem hi
        have e2 := r.ext.le.a i _ e1
        rw [ha] at e2
        exact q3 i (r.old i v hi h) (by rw [Option.some.inj e2]; exact e1)
      · rw [r.ext.fresh i b (by omega) ha] at q1; cases q1
    rw [upd_ne q]; exact r.ext.keep b w q1 q2 q3
  · by_cases e : b = a
    · subst e; rw [upd_same]; simp
    · rw [upd_ne e]; exact r.ext.dom b q
  · rw [upd_ne (ne_of_none e h1)]; exact r.sub b w e
  · rcases key c b z e with ⟨_, rfl, rfl⟩ | ⟨n, e'⟩
    · exact ⟨h1, u', upd_same, hb⟩
    · obtain ⟨g1, w, g2, g3⟩ := r.cell c b z e'
      exact ⟨g1, w, by rw [upd_ne (ne c b z n e')]; exact g2, g3⟩
  · rcases key c b z e with ⟨k1, k2, _⟩ | ⟨n, k1⟩
    · rcases key c' b z' e' with ⟨k3, _, _⟩ | ⟨n', k3⟩
      · rw [k1, k3]
      · exact absurd k2 (ne c' b z' n' k3)
    · rcases key c' b z' e' with ⟨_, k2, _⟩ | ⟨n', k2⟩
      · exact absurd k2 (ne c b z n k1)
      · exact r.inj c c' b z z' k1 k2
  · rcases key c b z e with ⟨q, _, _⟩ | ⟨_, e'⟩
    · exact absurd q (n i)
    · exact r.new c b z e' n
  · have e' : (s.w.set i (some v'))[j]? = some (some z) := e
    by_cases q : j = i
    · subst q; exact r.old j v hj h
    · rw [List.getElem?_set_ne (Ne.symm q)] at e'; exact r.old j z hj e'
/-- a temporary becomes a thing of the world -/
theorem Rel.toObj {p : Addr} {v : Val} (r : Rel F G A ((p, v) :: τ) s σ H) : Rel F G (A ++ [p]) τ ⟨s.ρ, s.w ++ [some v]⟩ σ H := by
  obtain ⟨h1, h2, ⟨u, h3, h4⟩, h5⟩ := r.top
  have rp := r.pop
  have l : Le G A G (A ++ [p]) := ⟨fun _ _ h => h, fun n a h => by
    rw [List.getElem?_append_left (List.getElem?_eq_some_iff.mp h).1]; exact h⟩
  have key : ∀ c b z, cellAt ⟨s.ρ, s.w ++ [some v]⟩ τ σ (A ++ [p]) c = some (b, z) → (c = .obj A.length ∧ b = p ∧ z = v) ∨ (c ≠ .obj A.length ∧ cellAt s τ σ A c = some (b, z)) := fun c b z e => by
    cases c with
    | obj j =>
      have e' : objC (s.w ++ [some v]) (A ++ [p]) j = some (b, z) := e
      unfold objC at e'
      rcases Nat.lt_trichotomy j A.length with hj | hj | hj
      · rw [List.getElem?_append_left (by rw [r.wlen]; exact hj), List.getElem?_append_left hj] at e'
        exact .inr ⟨fun q => by cases q; omega, e'⟩
      · subst hj
        rw [List.getElem?_append_right (by rw [r.wlen]; exact Nat.le_refl _), List.getElem?_append_right (Nat.le_refl _), r.wlen] at e'
        simp at e'
        exact .inl ⟨rfl, e'.1.symm, e'.2.symm⟩
      · rw [List.getElem?_eq_none (l := s.w ++ [some v]) (by simp [r.wlen]; omega)] at e'
        simp at e'
    | tmp j => exact .inr ⟨fun q => (by cases q), e⟩
    | slot j => exact .inr ⟨fun q => (by cases q), e⟩
  have a0 : F.A0.length ≤ A.length := by
    by_cases q : F.A0.length = 0
    · omega
    · have e1 : F.A0[F.A0.length - 1]? = some F.A0[F.A0.length - 1] := List.getElem?_eq_getElem (by omega)
      have := (List.getElem?_eq_some_iff.mp (r.ext.le.a _ _ e1)).1
      omega
  refine ⟨⟨r.ext.le.trans l, r.ext.new, r.ext.keep, r.ext.dom, fun n a hn e => ?_⟩, r.sub, r.len, by simp [r.wlen], fun i b e => (rp.slot i b e).mono l, fun c b z e => ?_, fun c c' b z z' e e' => ?_, fun c b z e n => ?_, fun j z hj e => ?_⟩
  · rcases Nat.lt_or_ge n A.length with q | q
    · rw [List.getElem?_append_left q] at e; exact r.ext.fresh n a hn e
    · rw [List.getElem?_append_right q] at e
      have : n - A.length = 0 := by
        have := (List.getElem?_eq_some_iff.mp e).1
        simp at this; exact this
      rw [this] at e; simp at e; subst e; exact h2
  · rcases key c b z e with ⟨_, rfl, rfl⟩ | ⟨_, e'⟩
    · exact ⟨h1, u, h3, h4.mono l⟩
    · obtain ⟨g1, w, g2, g3⟩ := rp.cell c b z e'
      exact ⟨g1, w, g2, g3.mono l⟩
  · rcases key c b z e with ⟨k1, k2, _⟩ | ⟨n, k1⟩
    · rcases key c' b z' e' with ⟨k3, _, _⟩ | ⟨n', k3⟩
      · rw [k1, k3]
      · rw [k2] at k3; exact absurd k3 (h5 c' z')
    · rcases key c' b z' e' with ⟨_, k2, _⟩ | ⟨n', k2⟩
      · rw [k2] at k1; exact absurd k1 (h5 c z)
      · exact rp.inj c c' b z z' k1 k2
  · rcases key c b z e with ⟨q, _, _⟩ | ⟨_, e'⟩
    · exact absurd q (n _)
    · exact rp.new c b z e' n
  · have e' : (s.w ++ [some v])[j]? = some (some z) := e
    rw [List.getElem?_append_left (by rw [r.wlen]; omega)] at e'
    exact r.old j z hj e'
theorem Rel.toObjRep {p : Addr} {v : Val} (r : Rel F G A ((p, v) :: τ) s σ H) : Rep F.w F.K G (A ++ [p]) (.obj s.w.length) (V.ref p) := ⟨p, rfl, by rw [r.wlen]; simp⟩
/-- a thing of the world that is younger than the entry is given up: it becomes a temporary -/
theorem Rel.fromObj (r : Rel F G A τ s σ H) {i : Nat} {v : Val} (h : s.w[i]? = some (some v)) (hi : F.A0.length ≤ i) : ∃ a, A[i]? = some a ∧ Rel F G A ((a, v) :: τ) ⟨s.ρ, s.w.set i none⟩ σ H := by
  obtain ⟨a, ha⟩ := r.objAddr h
  have e0 : cellAt s τ σ A (.obj i) = some (a, v) := objC_some h ha
  obtain ⟨h1, u, h2, h3⟩ := r.cell _ _ _ e0
  have iw : i < s.w.length := (List.getElem?_eq_some_iff.mp h).1
  have key : ∀ c b z, cellAt ⟨s.ρ, s.w.set i none⟩ τ σ A c = some (b, z) → c ≠ .obj i ∧ cellAt s τ σ A c = some (b, z) := fun c b z e => by
    cases c with
    | obj j =>
      have e' : objC (s.w.set i none) A j = some (b, z) := e
      by_cases hj : j = i
      · subst hj
        unfold objC at e'
        rw [List.getElem?_set_self iw] at e'
        simp at e'
      · rw [objC_ne hj] at e'
        exact ⟨fun q => by cases q; exact hj rfl, e'⟩
    | tmp j => exact ⟨fun q => (by cases q), e⟩
    | slot j => exact ⟨fun q => (by cases q), e⟩
  have r2 : Rel F G A τ ⟨s.ρ, s.w.set i none⟩ σ H :=
    ⟨r.ext, r.sub, r.len, by simp [r.wlen], r.slot, fun c b z e => r.cell c b z (key c b z e).2, fun c c' b z z' e e' => r.inj c c' b z z' (key _ _ _ e).2 (key _ _ _ e').2, fun c b z e n => r.new c b z (key _ _ _ e).2 n, fun j z hj e => by
      have e' : (s.w.set i none)[j]? = some (some z) := e
      by_cases q : j = i
      · subst q; rw [List.getElem?_set_self iw] at e'; cases e'
      · rw [List.getElem?_set_ne (Ne.symm q)] at e'; exact r.old j z hj e'⟩
  refine ⟨a, ha, r2.push h1 (r.ext.fresh i a hi ha) h2 h3 fun c v' e => ?_⟩
  obtain ⟨n, e'⟩ := key c a v' e
  exact n (r.inj c (.obj i) a v' v e' e0)

/-! ### what is read at an address -/
/-- v is read at x -/
def View (F : Fr) (G : Hp) (A : List Addr) (H : Hp) (v : Val) (x : V) : Prop := Rep F.w F.K G A v x ∨ ∃ a u, x = .ref a ∧ H a = some u ∧ Body F.w F.K G A v u a
theorem Rel.viewSlot (r : Rel F G A τ s σ H) {i : Nat} {v : Val} {x : V} (h : s.ρ[i]? = some (.own v)) (hx : σ[i]? = some (some x)) : View F G A H v x := by
  obtain ⟨a, ha⟩ := r.slot i _ h
  have e0 : cellAt s τ σ A (.slot i) = some (a, v) := by
    show slotC s.ρ σ i = _
    unfold slotC
    rw [h, ha]
  obtain ⟨_, u, h2, h3⟩ := r.cell _ _ _ e0
  rw [ha] at hx; cases hx
  exact .inr ⟨a, u, rfl, h2, h3⟩
theorem Rel.viewObj (r : Rel F G A τ s σ H) {i : Nat} {v : Val} {x : V} (h : s.w[i]? = some (some v)) (hx : Rep F.w F.K G A (.obj i) x) : View F G A H v x := by
  obtain ⟨a, rfl, ha⟩ := hx
  obtain ⟨_, u, h2, h3⟩ := r.cell _ _ _ (show cellAt s τ σ A (.obj i) = some (a, v) from objC_some h ha)
  exact .inr ⟨a, u, rfl, h2, h3⟩
theorem rd_up (r : ∀ a u, G a = some u → H a = some u) {a : Addr} {u : HO} (h : Rd G a u) : Rd H a u := h.elim (fun h => .inl (r _ _ h)) fun ⟨o, h⟩ => .inr ⟨o, r _ _ h⟩
theorem View.lst (r : Rel F G A τ s σ H) {vs : List Val} {x : V} (h : View F G A H (.lst vs) x) : ∃ a xs, x = .ref a ∧ Rd H a (.lst xs) ∧ Reps F.w F.K G A vs xs := by
  rcases h with h | ⟨a, u, rfl, e, xs, rfl, q⟩
  · obtain ⟨a, u, rfl, e, xs, rfl, q⟩ := h
    exact ⟨a, xs, rfl, rd_up r.sub e, q⟩
  · exact ⟨a, xs, rfl, .inl e, q⟩
theorem View.tup (r : Rel F G A τ s σ H) {vs : List Val} {x : V} (h : View F G A H (.tup vs) x) : ∃ a xs, x = .ref a ∧ H a = some (.tup xs) ∧ Reps F.w F.K G A vs xs := by
  rcases h with h | ⟨a, u, rfl, e, q⟩
  · obtain ⟨a, xs, rfl, e, q⟩ := h
    exact ⟨a, xs, rfl, r.sub _ _ e, q⟩
  · exact q.elim
theorem View.ins (r : Rel F G A τ s σ H) {c : Str} {fs : List (Str × Val)} {x : V} (h : View F G A H (.ins c fs) x) : ∃ a dx gs, x = .ref a ∧ H a = some (.ins (He.ga F.K c) dx gs) ∧ RepF F.w F.K G A fs gs := by
  rcases h with h | ⟨a, u, rfl, e, dx, gs, rfl, q⟩
  · obtain ⟨a, dx, gs, rfl, e, q⟩ := h
    exact ⟨a, dx, gs, rfl, r.sub _ _ e, q⟩
  · exact ⟨a, dx, gs, rfl, e, q⟩
theorem View.dct (r : Rel F G A τ s σ H) {t : Bool} {kvs : List (NestedKey × Val)} {x : V} (h : View F G A H (.dct t kvs) x) :
    ∃ a es ep, x = .ref a ∧ H a = some (dictHO a es ep) ∧ RepD F.w F.K G A t kvs es.toList ∧ (kvs.map (·.1)).Nodup ∧ kvs.length ≤ sizeLine ∧ (a == sysModules) = false := by
  rcases h with h | ⟨a, u, rfl, e, es, ep, rfl, q⟩
  · obtain ⟨a, es, ep, rfl, e, q⟩ := h
    exact ⟨a, es, ep, rfl, r.sub _ _ e, q⟩
  · exact ⟨a, es, ep, rfl, e, q⟩

/-! ### a call -/
def liveB (w : List (Option Val)) (i : Nat) : Bool := match w[i]? with
  | some (some _) => true
  | _ => false
theorem liveB_iff {w : List (Option Val)} {i : Nat} : liveB w i = true ↔ ∃ v, w[i]? = some (some v) := by
  unfold liveB
  split
  · rename_i v h; exact ⟨fun _ => ⟨v, h⟩, fun _ => rfl⟩
  · rename_i h; exact ⟨fun q => (by cases q), fun ⟨v, q⟩ => absurd q (h v)⟩
/-- the callee's entry -/
abbrev Fr.sub (F : Fr) (G : Hp) (A : List Addr) (w : List (Option Val)) (H : Hp) : Fr := ⟨F.w, F.K, H, G, A, liveB w⟩
theorem Ext.refl {w : World} {K : PySem.W.Frag} {A : List Addr} {l : Nat → Bool} : Ext ⟨w, K, H, G, A, l⟩ G A H := ⟨Le.refl, fun _ h => .inl h, fun _ _ h _ _ => h, fun _ h => h, fun n a h e => by
  have h' : A.length ≤ n := h
  rw [List.getElem?_eq_none h'] at e; cases e⟩
/-- the slots at a def's entry -/
def slots0 (n : Nat) (vs : List Val) : List Slot := vs.map .fz ++ List.replicate (n - vs.length) .e
theorem Rel.enter (r : Rel F G A τ s σ H) {N : List Str} {vs : List Val} {xs : List V} (hx : Reps F.w F.K G A vs xs) : Rel (F.sub G A s.w H) G A [] ⟨slots0 N.length vs, s.w⟩ (L2.start N xs) H := by
  have hl := hx.length
  have nos : ∀ (i : Nat) (b : Slot), (slots0 N.length vs)[i]? = some b → (∃ v, vs[i]? = some v ∧ b = .fz v) ∨ b = .e := fun i b e => by
    unfold slots0 at e
    rcases Nat.lt_or_ge i (vs.map Slot.fz).length with q | q
    · rw [List.getElem?_append_left q, List.getElem?_map] at e
      cases h : vs[i]? with
      | none => rw [h] at e; cases e
      | some v => rw [h] at e; cases e; exact .inl ⟨v, rfl, rfl⟩
    · rw [List.getElem?_append_right q, List.getElem?_replicate] at e
      split at e
      · cases e; exact .inr rfl
      · cases e
  have key : ∀ c b z, cellAt ⟨slots0 N.length vs, s.w⟩ [] (L2.start N xs) A c = some (b, z) → ∃ i, c = .obj i ∧ cellAt s τ σ A (.obj i) = some (b, z) := fun c b z e => by
    cases c with
    | slot i =>
      have e' : slotC (slots0 N.length vs) (L2.start N xs) i = some (b, z) := e
      unfold slotC at e'
      split at e'
      · rename_i h _
        rcases nos _ _ h with ⟨v, _, q⟩ | q <;> cases q
      · cases e'
    | tmp i => exact absurd (show ([] : Tmp)[i]? = some (b, z) from e) (by simp)
    | obj i => exact ⟨i, rfl, e⟩
  refine ⟨Ext.refl, r.sub, ?_, r.wlen, fun i b e => ?_, fun c b z e => ?_, fun c c' b z z' e e' => ?_, fun c b z e n => ?_, fun i v _ e => liveB_iff.mpr ⟨v, e⟩⟩
  · unfold slots0 L2.start
    simp [hl]
  · rcases nos i b e with ⟨v, h, rfl⟩ | rfl
    · obtain ⟨x, h1, h2⟩ := hx.get h
      refine ⟨x, ?_, h2⟩
      unfold L2.start
      rw [List.getElem?_append_left (by rw [List.length_map]; exact (List.getElem?_eq_some_iff.mp h1).1), List.getElem?_map, h1]
      rfl
    · trivial
  · obtain ⟨i, rfl, e'⟩ := key c b z e
    exact r.cell _ b z e'
  · obtain ⟨i, rfl, q⟩ := key c b z e
    obtain ⟨j, rfl, q'⟩ := key c' b z' e'
    have := r.inj _ _ b z z' q q'
    cases this; rfl
  · obtain ⟨i, rfl, q⟩ := key c b z e
    exact absurd rfl (n i)
/-- behind the call -/
theorem Rel.back {τ' : Tmp} {s' : Sta} {σ' : St} (r : Rel F G A τ s σ H) (r' : Rel (F.sub G A s.w H) G' A' τ' s' σ' H') : Rel F G' A' τ ⟨s.ρ, s'.w⟩ σ H' := by
  -- a cell of the caller's own: it stands
  have own : ∀ c a v, cellAt s τ σ A c = some (a, v) → (∀ i, c ≠ .obj i) → G' a = none ∧ (∃ u, H' a = some u ∧ Body F.w F.K G' A' v u a) ∧ ∀ n z, objC s'.w A' n ≠ some (a, z) := fun c a v e n => by
    obtain ⟨h1, u, h2, h3⟩ := r.cell c a v e
    have nA : ∀ i : Nat, liveB s.w i = true → A[i]? ≠ some a := fun i h q => by
      obtain ⟨z, hz⟩ := liveB_iff.mp h
      exact n i (r.inj c (.obj i) a v z e (objC_some hz q))
    refine ⟨?_, ⟨u, r'.ext.keep a u h2 h1 nA, h3.mono r'.ext.le⟩, fun k z q => ?_⟩
    · cases q : G' a with
      | none => rfl
      | some o =>
        rcases r'.ext.new a (by rw [q]; simp) with z | z
        · exact absurd h1 z
        · rw [show H a = none from z] at h2; cases h2
    · unfold objC at q
      split at q
      · rename_i y b hw hA'
        cases q
        rcases Nat.lt_or_ge k A.length with hk | hk
        · have e1 : A[k]? = some A[k] := List.getElem?_eq_getElem hk
          have e2 := r'.ext.le.a k _ e1
          rw [hA'] at e2
          exact nA k (r'.old k _ hk hw) (by rw [e1, Option.some.inj e2])
        · have z : H a = none := r'.ext.fresh k a hk hA'
          rw [z] at h2; cases h2
      · cases q
  have key : ∀ c a z, cellAt ⟨s.ρ, s'.w⟩ τ σ A' c = some (a, z) → ((∀ i, c ≠ .obj i) ∧ cellAt s τ σ A c = some (a, z)) ∨ ∃ i, c = .obj i ∧ objC s'.w A' i = some (a, z) := fun c a z e => by
    cases c with
    | slot i => exact .inl ⟨fun j q => (by cases q), e⟩
    | tmp i => exact .inl ⟨fun j q => (by cases q), e⟩
    | obj i => exact .inr ⟨i, rfl, e⟩
  refine ⟨⟨r.ext.le.trans r'.ext.le, fun a h => ?_, fun a u h1 h2 h3 => ?_, fun a h => r'.ext.dom a (r.ext.dom a h), fun n a hn e => ?_⟩, r'.sub, r.len, r'.wlen, fun i b e => (r.slot i b e).mono r'.ext.le, fun c a v e => ?_, fun c c' a v v' e e' => ?_, fun c a v e n => ?_, fun i v hi e => ?_⟩
  · rcases r'.ext.new a h with z | z
    · exact r.ext.new a z
    · exact .inr (r.free0 z)
  · have q := r.ext.keep a u h1 h2 h3
    have g : G a = none := by
      cases e : G a with
      | none => rfl
      | some o =>
        rcases r.ext.new a (by rw [e]; simp) with z | z
        · exact absurd h2 z
        · rw [z] at h1; cases h1
    refine r'.ext.keep a u q g fun i hi e => ?_
    obtain ⟨z, hz⟩ := liveB_iff.mp hi
    rcases Nat.lt_or_ge i F.A0.length with hk | hk
    · have e1 : F.A0[i]? = some F.A0[i] := List.getElem?_eq_getElem hk
      have e2 := r.ext.le.a i _ e1
      rw [show A[i]? = some a from e] at e2
      exact h3 i (r.old i z hk hz) (by rw [e1, Option.some.inj e2])
    · rw [r.ext.fresh i a hk e] at h1; cases h1
  · rcases Nat.lt_or_ge n A.length with hk | hk
    · have e1 : A[n]? = some A[n] := List.getElem?_eq_getElem hk
      have e2 := r'.ext.le.a n _ e1
      rw [e] at e2
      exact r.ext.fresh n a hn (by rw [e1, Option.some.inj e2])
    · exact r.free0 (r'.ext.fresh n a hk e)
  · rcases key c a v e with ⟨n, e1⟩ | ⟨i, rfl, e1⟩
    · obtain ⟨q1, q2, _⟩ := own c a v e1 n
      exact ⟨q1, q2⟩
    · exact r'.cell (.obj i) a v e1
  · rcases key c a v e with ⟨n, e1⟩ | ⟨i, rfl, e1⟩
    · rcases key c' a v' e' with ⟨n', e2⟩ | ⟨j, rfl, e2⟩
      · exact r.inj c c' a v v' e1 e2
      · exact absurd e2 ((own c a v e1 n).2.2 j v')
    · rcases key c' a v' e' with ⟨n', e2⟩ | ⟨j, rfl, e2⟩
      · exact absurd e1 ((own c' a v' e2 n').2.2 i v)
      · have := r'.inj (.obj i) (.obj j) a v v' e1 e2
        cases this; rfl
  · rcases key c a v e with ⟨_, e1⟩ | ⟨i, rfl, _⟩
    · exact r.new c a v e1 n
    · exact absurd rfl (n i)
  · rcases Nat.lt_or_ge i A.length with hk | hk
    · obtain ⟨z, hz⟩ := liveB_iff.mp (r'.old i v hk e)
      exact r.old i z hi hz
    · exfalso
      have : F.A0.length ≤ A.length := by
        by_cases q : F.A0.length = 0
        · omega
        · have e1 : F.A0[F.A0.length - 1]? = some F.A0[F.A0.length - 1] := List.getElem?_eq_getElem (by omega)
          have := (List.getElem?_eq_some_iff.mp (r.ext.le.a _ _ e1)).1
          omega
      omega
/-- .. with a thing that the callee hands over -/
theorem Rel.backT {τ' : Tmp} {s' : Sta} {σ' : St} {p : Addr} {v : Val} (r : Rel F G A τ s σ H) (r' : Rel (F.sub G A s.w H) G' A' ((p, v) :: τ') s' σ' H') : Rel F G' A' ((p, v) :: τ) ⟨s.ρ, s'.w⟩ σ H' := by
  obtain ⟨h1, h2, ⟨u, h3, h4⟩, h5⟩ := r'.top
  have rb := r.back r'
  have h2' : H p = none := h2
  refine rb.push h1 (r.free0 h2') h3 h4 fun c v' e => ?_
  cases c with
  | obj i => exact h5 (.obj i) v' e
  | slot i =>
    obtain ⟨_, w, q, _⟩ := r.cell (.slot i) p v' e
    rw [h2'] at q; cases q
  | tmp i =>
    obtain ⟨_, w, q, _⟩ := r.cell (.tmp i) p v' e
    rw [h2'] at q; cases q
end
end TL

set_option Elab.async false
set_option linter.all false
set_option maxRecDepth 100000
/-! LTC: the trees of a def's body (E, S), their reading on values, and the look whether a text is such a tree. -/
namespace TL
open PySem PySem.Spec PyProof.Rows L2

/-! ### plain operations on values -/
/-- one-place operations -/
inductive P1 where
  | len | sum | list | tuple | sorted | sset | lset | max | min | int | abs | str | neg | lrange | sortedT | ssetT | lsetT | minT | sortD | dictP | isInt | isBool | isTuple | isList | isStr | isLT | rev | isNone | notNone
  deriving DecidableEq
/-- two-place operations -/
inductive P2 where
  | add | sub | mul | fdiv | mod | pow | eq | ne | lt | le | gt | ge | inn | notin | idx | max | min
  deriving DecidableEq

def b2i (b : Bool) : Int := if b then 1 else 0
mutual
/-- a value as data, to a depth -/
def pd : Nat → Val → Option PyData
  | _ + 1, .non => some .none
  | _ + 1, .bl b => some (.bool b)
  | _ + 1, .int i => some (.int i)
  | _ + 1, .str s => if PyData.strOk s then some (.str s) else none
  | n + 1, .tup vs => (pds n vs).map .tuple
  | n + 1, .lst vs => (pds n vs).map .list
  | _, _ => none
def pds : Nat → List Val → Option (List PyData)
  | _, [] => some []
  | n, v :: vs => match pd n v, pds n vs with
    | some d, some ds => some (d :: ds)
    | _, _ => none
end
/-- deep == -/
def vEq (n : Nat) (x y : Val) : Option Bool := match pd n x, pd n y with
  | some a, some b => some (PyData.eqv a b)
  | _, _ => none
mutual
/-- deep <, of intsOf, texts, tuples -/
def vLt : Nat → Val → Val → Option Bool
  | 0, _, _ => none
  | _ + 1, .int i, .int j => some (decide (i < j))
  | n + 1, .tup xs, .tup ys => vLts n xs ys
  | _ + 1, _, _ => none
def vLts : Nat → List Val → List Val → Option Bool
  | _, [], [] => some false
  | _, [], _ :: _ => some true
  | _, _ :: _, [] => some false
  | n, x :: xs, y :: ys => match vEq n x y, vLts n xs ys with
    | some true, some b => some b
    | some false, some _ => vLt n x y
    | _, _ => none
end
/-- the depth to which things are compared -/
abbrev DEP : Nat := 8
def vIn (v : Val) (vs : List Val) : Option Bool := match pd DEP v, pds DEP vs with
  | some d, some ds => some (ds.any fun z => PyData.eqv z d)
  | _, _ => none
def vIndex (v : Val) (vs : List Val) : Option Nat := match pd DEP v, pds DEP vs with
  | some d, some ds => ds.findIdx? fun z => PyData.eqv z d
  | _, _ => none
def dGet (kvs : List (NestedKey × Val)) (k : NestedKey) : Option Val := (kvs.find? fun p => decide (p.1 = k)).map (·.2)
def dPut (kvs : List (NestedKey × Val)) (k : NestedKey) (v : Val) : List (NestedKey × Val) :=
  if (dGet kvs k).isSome then kvs.map fun p => if p.1 = k then (p.1, v) else p else kvs ++ [(k, v)]
def dDel (kvs : List (NestedKey × Val)) (k : NestedKey) : List (NestedKey × Val) := kvs.filter fun p => decide (p.1 ≠ k)
/-- a key for a dict of that kind -/
def keyOf (t : Bool) (v : Val) : Option NestedKey := match t, v with
  | false, .int i => some (.num i)
  | true, .tup vs => match nk (.tup vs) with
    | some k => if k.depth ≤ 8 then some k else none
    | none => none
  | _, _ => none
def intsOf : List Val → Option (List Int)
  | [] => some []
  | .int i :: r => (intsOf r).map (i :: ·)
  | _ :: _ => none
/-- insertion into a sorted row of ints -/
def insI (x : Int) : List Int → List Int
  | [] => [x]
  | y :: ys => if x ≤ y then x :: y :: ys else y :: insI x ys
def isort : List Int → List Int
  | [] => []
  | x :: xs => insI x (isort xs)
/-- .. of unlike ones -/
def insU (x : Int) : List Int → List Int
  | [] => [x]
  | y :: ys => if x < y then x :: y :: ys else if x = y then y :: ys else y :: insU x ys
def usort : List Int → List Int
  | [] => []
  | x :: xs => insU x (usort xs)
def maxL (x : Int) (xs : List Int) : Int := xs.foldl (fun m y => if m < y then y else m) x
def minL (x : Int) (xs : List Int) : Int := xs.foldl (fun m y => if y < m then y else m) x
def vMinL : Val → List Val → Option Val
  | m, [] => some m
  | m, x :: xs => match vLt DEP x m with
    | some true => vMinL x xs
    | some false => vMinL m xs
    | none => none
/-- rows of ints, as one number -/
def cd : List Int → Int
  | [] => 0
  | d :: r => d * 64 ^ r.length + cd r
def tupI (ns : List Int) : Val := .tup (ns.map .int)
def rowsOf : List Val → Option (List (List Int))
  | [] => some []
  | .tup vs :: r => match intsOf vs, rowsOf r with
    | some ns, some rs => some (ns :: rs)
    | _, _ => none
  | _ :: _ => none
def insT (x : List Int) : List (List Int) → List (List Int)
  | [] => [x]
  | y :: ys => if cd x ≤ cd y then x :: y :: ys else y :: insT x ys
def tsort : List (List Int) → List (List Int)
  | [] => []
  | x :: xs => insT x (tsort xs)
def insTU (x : List Int) : List (List Int) → List (List Int)
  | [] => [x]
  | y :: ys => if cd x < cd y then x :: y :: ys else if cd x = cd y then y :: ys else y :: insTU x ys
def tusort : List (List Int) → List (List Int)
  | [] => []
  | x :: xs => insTU x (tusort xs)
/-- few rows of one length, of small ints -/
def rowsB (rs : List (List Int)) : Bool := decide (rs.length < 64) && (decide (1 ≤ (rs.headD [0]).length) && rs.all fun r => decide (r.length = (rs.headD [0]).length) && r.all fun i => decide (0 ≤ i) && decide (i < 64))
/-- few different rows of one length, of small ints -/
def rowsS (rs : List (List Int)) : Bool := decide ((tusort rs).length < 63) && (decide (1 ≤ (rs.headD [0]).length) && rs.all fun r => decide (r.length = (rs.headD [0]).length) && r.all fun i => decide (0 ≤ i) && decide (i < 64))
def vTruth : Val → Option Bool
  | .non => some false
  | .bl b => some b
  | .int i => some (i != 0)
  | .str s => if s.length ≤ sizeLine then some ((s.length : Int) != 0) else none
  | .tup vs => some (!vs.isEmpty)
  | .lst vs => some (!vs.isEmpty)
  | .dct _ kvs => some (!kvs.isEmpty)
  | _ => none
def intRange (lo : Int) : Nat → List Val
  | 0 => []
  | n + 1 => .int lo :: intRange (lo + 1) n
/-- the items of a thing that is walked -/
def itemsOf : Val → Option (List Val)
  | .lst vs => some vs
  | .tup vs => some vs
  | .dct _ kvs => some (kvs.map fun p => vk p.1)
  | _ => none

def isNonB : Val → Bool
  | .non => true
  | _ => false
/-- all these data can be compared with one another -/
def okD (ds : List PyData) : Bool := (ds.all fun x => ds.all fun y => PySem.W.alike x y) && ds.all fun d => match d with
  | .none => false
  | _ => true
/-- .. and sorted -/
def okS (ds : List PyData) : Bool := (ds.all fun d => match d with
  | .tuple (_ :: _) => true
  | _ => false) || ds.all fun d => match d with
  | .none => false
  | .tuple _ => false
  | _ => true
def pickMin (p : Val × PyData) (r : List (Val × PyData)) : Val × PyData := r.foldl (fun a y => if PySem.W.dataLt y.2 a.2 then y else a) p
def sortDv (ps : List (Val × PyData)) : List Val := (ps.mergeSort (PySem.W.dataLe false Prod.snd)).map (·.1)
def minV (vs : List Val) : Option Val := (pds DEP vs).bind fun ds => match vs.zip ds with
  | p :: r => if okD ds = true then some (pickMin p r).1 else none
  | [] => none
def sortV (vs : List Val) : Option (List Val) := (pds DEP vs).bind fun ds => if okD ds = true ∧ okS ds = true ∧ vs.length ≤ sizeLine then some (sortDv (vs.zip ds)) else none
/-- pairs of a number and a value -/
def pairsOf : List Val → Option (List (Int × Val))
  | [] => some []
  | .tup [.int i, v] :: r => (pairsOf r).map ((i, v) :: ·)
  | _ :: _ => none
def mergeD (acc : List (NestedKey × Val)) (ps : List (Int × Val)) : List (NestedKey × Val) := ps.foldl (fun acc p => dPut acc (.num p.1) p.2) acc
/-- a number that a range may have (looked at so that nothing is unfolded at an open number) -/
def smallI (i : Int) : Bool := Nat.ble i.natAbs 4194303
theorem smallI_iff {i : Int} : smallI i = true ↔ -(2 ^ 22) < i ∧ i < 2 ^ 22 := by
  unfold smallI
  rw [Nat.ble_eq]
  have : (2 : Int) ^ 22 = 4194304 := by decide
  rw [this]
  omega
def prim1 : P1 → Val → Option (Val × Bool)
  | .len, .lst vs => some (.int vs.length, false)
  | .len, .tup vs => some (.int vs.length, false)
  | .len, .dct _ kvs => some (.int kvs.length, false)
  | .len, .str s => if s.length ≤ sizeLine then some (.int s.length, false) else none
  | .sum, .lst vs => (intsOf vs).map fun ns => (.int ns.sum, false)
  | .sum, .tup vs => (intsOf vs).map fun ns => (.int ns.sum, false)
  | .list, .lst vs => some (.lst vs, true)
  | .list, .tup vs => some (.lst vs, true)
  | .list, .dct _ kvs => some (.lst (kvs.map fun p => vk p.1), true)
  | .tuple, .lst vs => some (.tup vs, false)
  | .tuple, .tup vs => some (.tup vs, false)
  | .sorted, .lst vs => (intsOf vs).map fun ns => (.lst ((isort ns).map .int), true)
  | .sset, .lst vs => (intsOf vs).bind fun ns => if vs.length < 4000 ∧ (usort ns).length < 64 then some (.lst ((usort ns).map .int), true) else none
  | .lset, .lst vs => (intsOf vs).bind fun ns => if vs.length < 4000 then some (.int (usort ns).length, false) else none
  | .sortedT, .lst vs => (rowsOf vs).bind fun rs => if rowsB rs = true then some (.lst ((tsort rs).map tupI), true) else none
  | .dictP, .lst vs => (pairsOf vs).bind fun ps => if ps.length ≤ sizeLine then some (.dct false (mergeD [] ps), true) else none
  | .ssetT, .lst vs => (rowsOf vs).bind fun rs => if rowsS rs = true then some (.lst ((tusort rs).map tupI), true) else none
  | .lsetT, .lst vs => (rowsOf vs).bind fun rs => if rowsB rs = true then some (.int (tusort rs).length, false) else none
  | .max, .lst vs => (match intsOf vs with
    | some (x :: xs) => some (.int (maxL x xs), false)
    | _ => none)
  | .min, .lst vs => (match intsOf vs with
    | some (x :: xs) => some (.int (minL x xs), false)
    | _ => none)
  | .minT, .lst vs => (minV vs).map fun v => (v, false)
  | .sortD, .lst vs => (sortV vs).map fun us => (.lst us, true)
  | .int, .int i => some (.int i, false)
  | .int, .bl b => some (.int (b2i b), false)
  | .abs, .int i => some (.int (if i < 0 then -i else i), false)
  | .str, .int i => if i.natAbs.log2 < 1920 then some (.str (toString i), false) else none
  | .neg, .int i => some (.int (-i), false)
  | .rev, .lst vs => some (.lst vs.reverse, true)
  | .lrange, .int n => if smallI n = true then some (.lst (intRange 0 n.toNat), true) else none
  | .isNone, v => some (.bl (isNonB v), false)
  | .notNone, v => some (.bl (!isNonB v), false)
  | .isInt, v => (isOf "int" v).map fun b => (.bl b, false)
  | .isBool, v => (isOf "bool" v).map fun b => (.bl b, false)
  | .isTuple, v => (isOf "tuple" v).map fun b => (.bl b, false)
  | .isList, v => (isOf "list" v).map fun b => (.bl b, false)
  | .isStr, v => (isOf "str" v).map fun b => (.bl b, false)
  | .isLT, v => (isOf "list" v).bind fun b => (isOf "tuple" v).map fun c => (.bl (b || c), false)
  | _, _ => none
where isOf (T : String) : Val → Option Bool
  | .non => some false
  | .bl _ => some (T == "bool" || T == "int")
  | .int _ => some (T == "int")
  | .str _ => some (T == "str")
  | .tup _ => some (T == "tuple")
  | .lst _ => some (T == "list")
  | .dct _ _ => some (T == "dict")
  | _ => none
def rep (vs : List Val) (n : Nat) : List Val := (List.replicate n vs).flatten
def mulOk (i j : Int) : Bool := (decide (-(2 ^ 64) < i) && decide (i < 2 ^ 64)) || ((decide (-(2 ^ 64) < j) && decide (j < 2 ^ 64)) || decide (i.natAbs.log2 + j.natAbs.log2 < 1000000))
def atV (vs : List Val) (i : Int) : Option Val := (ixN vs.length i).bind fun j => vs[j]?
def prim2 : P2 → Val → Val → Option (Val × Bool)
  | .add, .int i, .int j => some (.int (i + j), false)
  | .add, .str x, .str y => if x.length + y.length ≤ sizeLine then some (.str (x ++ y), false) else none
  | .add, .lst xs, .lst ys => if xs.length + ys.length ≤ sizeLine then some (.lst (xs ++ ys), true) else none
  | .add, .tup xs, .tup ys => if xs.length + ys.length ≤ sizeLine then some (.tup (xs ++ ys), false) else none
  | .sub, .int i, .int j => some (.int (i - j), false)
  | .mul, .int i, .int j => if mulOk i j then some (.int (i * j), false) else none
  | .mul, .lst xs, .int k => if smallI k = true ∧ xs.length * k.toNat ≤ sizeLine then some (.lst (rep xs k.toNat), true) else none
  | .mul, .tup xs, .int k => if 1 ≤ k ∧ k ≤ 1000 ∧ xs.length ≤ 1000 ∧ xs.length ≠ 0 then some (.tup (rep xs k.toNat), false) else none
  | .fdiv, .int i, .int j => if 0 < j ∧ j.natAbs.log2 < 9000 then some (.int (i / j), false) else none
  | .mod, .int i, .int j => if 0 < j then some (.int (i % j), false) else none
  | .pow, .int i, .int j => if 0 ≤ j ∧ j ≤ 1000 ∧ i.natAbs < 2 ^ 64 then some (.int (i ^ j.toNat), false) else none
  | .eq, x, y => (vEq DEP x y).map fun b => (.bl b, false)
  | .ne, x, y => (vEq DEP x y).map fun b => (.bl (!b), false)
  | .lt, x, y => (vLt DEP x y).map fun b => (.bl b, false)
  | .gt, .int i, .int j => some (.bl (decide (j < i)), false)
  | .le, .int i, .int j => some (.bl (decide (i ≤ j)), false)
  | .ge, .int i, .int j => some (.bl (decide (j ≤ i)), false)
  | .inn, v, .lst vs => (vIn v vs).map fun b => (.bl b, false)
  | .inn, v, .tup vs => (vIn v vs).map fun b => (.bl b, false)
  | .inn, v, .dct t kvs => (keyOf t v).map fun k => (.bl (dGet kvs k).isSome, false)
  | .notin, v, .lst vs => (vIn v vs).map fun b => (.bl (!b), false)
  | .notin, v, .tup vs => (vIn v vs).map fun b => (.bl (!b), false)
  | .notin, v, .dct t kvs => (keyOf t v).map fun k => (.bl (!(dGet kvs k).isSome), false)
  | .idx, .lst vs, .int i => (atV vs i).map fun v => (v, false)
  | .idx, .tup vs, .int i => (atV vs i).map fun v => (v, false)
  | .idx, .dct t kvs, v => (keyOf t v).bind fun k => (dGet kvs k).map fun x => (x, false)
  | .max, .int i, .int j => some (.int (if j > i then j else i), false)
  | .min, .int i, .int j => some (.int (if j < i then j else i), false)
  | _, _, _ => none
/-- xs[lo:hi] -/
def vCut (vs : List Val) (lo hi : Option Int) : List Val := (vs.drop (HT.sIx vs.length 0 lo)).take (HT.sIx vs.length vs.length hi - HT.sIx vs.length 0 lo)
def primCut (v : Val) (lo hi : Option Int) : Option (Val × Bool) := match v with
  | .lst vs => some (.lst (vCut vs lo hi), true)
  | .tup vs => some (.tup (vCut vs lo hi), false)
  | _ => none

/-! ### the trees -/
/-- targets of a for, of an assignment -/
inductive Tg where
  | nm (i : Nat) | tup (ts : List Tg)
/-- how things are walked -/
inductive Wk where
  | val | range1 | range2 | enum | zip | revd
  deriving DecidableEq
mutual
inductive E where
  | var (i : Nat) | int (i : Int) | str (s : Str) | bl (b : Bool) | non
  | gint (x : Str) (i : Int)
  | p1 (f : P1) (a : E) | p2 (f : P2) (a b : E)
  | cut (a : E) (lo hi : Option E)
  | chain (strict : Bool) (a b c : E)
  | and (a b : E) | or (a b : E) | not (a : E) | ife (c : Ts) (a b : E)
  | tup (es : List E) | lst (es : List E) | dnew (t : Bool) | d1 (t : Bool) (k v : E)
  | nobj (e : E)
  | call (f : Str) (es : List E)
  | make (c : Str) (imm : Bool) (es : List E)
  | fld (a : E) (c f : Str)
  | meth (a : E) (c m k : Str) (es : List E)
  | prop (a : E) (c m k : Str)
  | lenC (a : E) (c k : Str)
  | eqC (a b : E) (c k : Str)
  | lend (i : Nat) (e : E)
  | isC (a : E) (c : Str)
  | get (d k x : E)
  | index (l x : E)
  | app (o e : E) | ext (o e : E) | pop (o : E)
  | comp (elt : E) (tg : Tg) (wk : Wk) (src : List E) (cond : Option Ts) (own : List (Str × Nat))
  | dcomp (t : Bool) (key elt : E) (tg : Tg) (wk : Wk) (src : List E) (cond : Option Ts) (own : List (Str × Nat))
/-- tests -/
inductive Ts where
  | val (e : E) | and (a b : Ts) | or (a b : Ts) | not (a : Ts)
  | cmp (f : P2) (a b : E) | eqC (a b : E) (c k : Str) | isN (n : Bool) (a : E) | chn (st : Bool) (a b c : E)
end
inductive S where
  | set (i : Nat) (e : E)
  | par (i j : Nat) (a b : E)
  | unpack (tg : Tg) (e : E)
  | unpack2 (t u : Tg) (a b : E)
  | dead
  | setI (o k e : E)
  | setF (o : E) (c f : Str) (e : E)
  | aug (i : Nat) (op : P2) (e : E)
  | augI (o k : E) (e : E)
  | del (o k : E)
  | expr (e : E)
  | ite (c : Ts) (a b : List S)
  | for_ (tg : Tg) (wk : Wk) (src : List E) (body : List S)
  | while_ (c : Ts) (body : List S)
  | ret (e : E) | retN | brk | pass
  | raise (c : Str) (fs : List Str) (es : List E)
  | tryR (body : List S) (x : Str) (cs : List Str) (e : E)
  | kill (is : List Nat)

/-- whether an except clause takes an error, by their classes -/
def hand (c x : Str) : Bool := decide (c = x) || decide (x = ("TellError" : Str))
/-- a constant -/
def constE : E → Option Val
  | .bl b => some (.bl b)
  | .non => some .non
  | .str z => some (.str z)
  | .int i => some (.int i)
  | _ => none
/-! ### the reading -/
inductive Res (α : Type) where
  | ok (a : α) (s : Sta) | ex (c : Str) (fs : List (Str × Val)) (s : Sta) | bad
def Res.bind {α β : Type} : Res α → (α → Sta → Res β) → Res β
  | .ok a s, f => f a s
  | .ex c fs s, _ => .ex c fs s
  | .bad, _ => .bad
/-- what a def does: its value (true: nobody else holds it), an exception, or nothing is told -/
inductive FR where
  | ok (v : Val) (fr : Bool) (w : List (Option Val)) | ex (c : Str) (fs : List (Str × Val)) (w : List (Option Val)) | bad
abbrev Fns := Str → List Val → List (Option Val) → FR

/-- a value, or what a slot holds -/
inductive PV where
  | val (v : Val) | bor (i : Nat)
def rdv (s : Sta) : PV → Option Val
  | .val (.obj n) => match s.w[n]? with
    | some (some v) => some v
    | _ => none
  | .val v => some v
  | .bor i => match s.ρ[i]? with
    | some (.own v) => some v
    | some (.fz v) => some v
    | _ => none
/-- a name that holds a thing by itself is looked at, not taken -/
def pkOf (e : E) (r : Sta → Res (Val × Bool)) (s : Sta) : Res PV := match e with
  | .var i => (match s.ρ[i]? with
    | some (.own _) => .ok (.bor i) s
    | some (.fz v) => .ok (.val v) s
    | _ => .bad)
  | _ => (r s).bind fun p s => .ok (.val p.1) s
/-- the thing behind p is a list (0), a dict (1) -/
def chk (s : Sta) (p : PV) (n : Nat) : Option Unit := match n, rdv s p with
  | 0, some (.lst _) => some ()
  | 1, some (.dct _ _) => some ()
  | _, _ => none
/-- an exception is nothing here -/
def noEx {α : Type} : Res α → Res α
  | .ok a s => .ok a s
  | _ => .bad
def optR {α : Type} (o : Option α) (s : Sta) : Res α := match o with
  | some a => .ok a s
  | none => .bad
def unown : Slot → Slot
  | .own _ => .e
  | b => b
/-- slots of a comprehension's own names, emptied -/
def wipeS (ρ : List Slot) : List Nat → List Slot
  | [] => ρ
  | i :: is => (wipeS ρ is).set i .e
/-- .. and put back -/
def backS (ρ ρ' : List Slot) : List Nat → List Slot
  | [] => ρ'
  | i :: is => (backS ρ ρ' is).set i (unown (ρ.getD i .e))
mutual
def setTg : Tg → Val → List Slot → Option (List Slot)
  | .nm i, v, ρ => if i < ρ.length then some (ρ.set i (.fz v)) else none
  | .tup ts, .tup vs, ρ => setTgs ts vs ρ
  | .tup ts, .lst vs, ρ => setTgs ts vs ρ
  | .tup _, _, _ => none
def setTgs : List Tg → List Val → List Slot → Option (List Slot)
  | [], [], ρ => some ρ
  | t :: ts, v :: vs, ρ => (setTg t v ρ).bind (setTgs ts vs)
  | _, _, _ => none
end
/-- the items that are walked -/
def enumV (i : Int) : List Val → List Val
  | [] => []
  | v :: vs => .tup [.int i, v] :: enumV (i + 1) vs
def zipV : List Val → List Val → List Val
  | x :: xs, y :: ys => .tup [x, y] :: zipV xs ys
  | _, _ => []
def walk : Wk → List Val → Option (List Val)
  | .val, [v] => itemsOf v
  | .range1, [.int n] => if smallI n = true then some (intRange 0 n.toNat) else none
  | .range2, [.int a, .int b] => if smallI a = true ∧ smallI b = true then some (intRange a (b - a).toNat) else none
  | .enum, [.lst vs] => some (enumV 0 vs)
  | .enum, [.tup vs] => some (enumV 0 vs)
  | .zip, [.lst xs, .lst ys] => if xs.length = ys.length then some (zipV xs ys) else none
  | .revd, [.lst vs] => some vs.reverse
  | .revd, [.tup vs] => some vs.reverse
  | _, _ => none
/-- a fold over items that may end early -/
def foldR {α β : Type} (f : α → β → Sta → Res β) : List α → β → Sta → Res β
  | [], b, s => .ok b s
  | a :: as, b, s => (f a b s).bind (foldR f as)
def ofFR (ρ : List Slot) : FR → Res (Val × Bool)
  | .ok v fr w => .ok (v, fr) ⟨ρ, w⟩
  | .ex c fs w => .ex c fs ⟨ρ, w⟩
  | .bad => .bad
/-- .. that lets nothing out -/
def ofFN (ρ : List Slot) : FR → Res (Val × Bool)
  | .ok v fr w => .ok (v, fr) ⟨ρ, w⟩
  | _ => .bad
/-- what len gives of what __len__ gave -/
def lenR (y : Val × Bool) (s : Sta) : Res (Val × Bool) := match y.1 with
  | .int n => if smallI n = true ∧ 0 ≤ n then .ok (.int n, false) s else .bad
  | _ => .bad
def boolR (y : Val × Bool) (s : Sta) : Res (Val × Bool) := match y.1 with
  | .bl b => .ok (.bl b, false) s
  | _ => .bad
/-- an instance of c, and what it is compared with -/
def eqOk (c : Str) : Val → Val → Bool
  | .ins d _, .tup _ => decide (d = c)
  | .ins d _, .ins e _ => decide (d = c) && decide (e = c)
  | _, _ => false
mutual
/-- no dict within, no instance -/
def noD : Val → Bool
  | .tup vs => noDs vs
  | .lst vs => noDs vs
  | .dct _ _ => false
  | .ins _ _ => false
  | _ => true
def noDs : List Val → Bool
  | [] => true
  | v :: vs => noD v && noDs vs
end
def putL (o : PV) (f : List Val → Option (List Val × Val)) (s : Sta) : Res (Val × Bool) := match o with
  | .bor i => (match s.ρ[i]? with
    | some (.own (.lst vs)) => (match f vs with
      | some (us, r) => .ok (r, false) ⟨s.ρ.set i (.own (.lst us)), s.w⟩
      | none => .bad)
    | _ => .bad)
  | .val (.obj n) => (match s.w[n]? with
    | some (some (.lst vs)) => (match f vs with
      | some (us, r) => .ok (r, false) ⟨s.ρ, s.w.set n (some (.lst us))⟩
      | none => .bad)
    | _ => .bad)
  | _ => .bad
section
variable (Φ : Fns)
mutual
def ev : E → Sta → Res (Val × Bool)
  | .var i, s => (match s.ρ[i]? with
    | some (.own v) => .ok (v, false) ⟨s.ρ.set i (.fz v), s.w⟩
    | some (.fz v) => .ok (v, false) s
    | _ => .bad)
  | .int i, s => .ok (.int i, false) s
  | .str x, s => .ok (.str x, false) s
  | .bl b, s => .ok (.bl b, false) s
  | .non, s => .ok (.non, false) s
  | .gint _ i, s => .ok (.int i, false) s
  | .p1 f a, s => (pkOf a (ev a) s).bind fun x s => (optR (rdv s x) s).bind fun v s => optR (prim1 f v) s
  | .p2 f a b, s => (pkOf a (ev a) s).bind fun x s => (pkOf b (ev b) s).bind fun y s => (optR (rdv s x) s).bind fun v s => (optR (rdv s y) s).bind fun u s => optR (prim2 f v u) s
  | .cut a lo hi, s => (pkOf a (ev a) s).bind fun x s => (evO lo s).bind fun l s => (evO hi s).bind fun h s => (optR (rdv s x) s).bind fun v s => optR (primCut v l h) s
  | .chain st a b c, s => (ev a s).bind fun x s => (ev b s).bind fun y s => match x.1, y.1 with
    | .int i, .int j => if i ≤ j then (ev c s).bind fun z s => (match z.1 with
        | .int k => .ok (.bl (if st then decide (j < k) else decide (j ≤ k)), false) s
        | _ => .bad) else .ok (.bl false, false) s
    | _, _ => .bad
  | .and a b, s => (ev a s).bind fun x s => match x.1 with
    | .bl true => ev b s
    | .bl false => .ok (.bl false, false) s
    | _ => .bad
  | .or a b, s => (ev a s).bind fun x s => match x.1 with
    | .bl false => ev b s
    | .bl true => .ok (.bl true, false) s
    | _ => .bad
  | .not a, s => (pkOf a (ev a) s).bind fun x s => (optR (rdv s x) s).bind fun v s => (optR (vTruth v) s).bind fun k s => .ok (.bl (!k), false) s
  | .ife c a b, s => (evT c s).bind fun k s => if k then ev a s else ev b s
  | .tup es, s => (evs es s).bind fun vs s => if vs.length ≤ sizeLine then .ok (.tup vs, false) s else .bad
  | .lst es, s => (evs es s).bind fun vs s => if vs.length ≤ sizeLine then .ok (.lst vs, true) s else .bad
  | .dnew t, s => .ok (.dct t [], true) s
  | .d1 t k v, s => (ev k s).bind fun k s => (ev v s).bind fun v s => (optR (keyOf t k.1) s).bind fun k s => .ok (.dct t [(k, v.1)], true) s
  | .nobj e, s => (ev e s).bind fun x s => if x.2 then .ok (.obj s.w.length, false) ⟨s.ρ, s.w ++ [some x.1]⟩ else .bad
  | .call f es, s => (evs es s).bind fun vs s => ofFR s.ρ (Φ f vs s.w)
  | .make c imm es, s => (evs es s).bind fun vs s => match Φ c (.obj s.w.length :: vs) (s.w ++ [some (.ins c [])]) with
    | .ok .non _ w => (if imm then (match w[s.w.length]? with
        | some (some v) => .ok (v, false) ⟨s.ρ, w.set s.w.length none⟩
        | _ => .bad) else .ok (.obj s.w.length, false) ⟨s.ρ, w⟩)
    | _ => .bad
  | .fld a c f, s => (pkOf a (ev a) s).bind fun x s => (optR (rdv s x) s).bind fun v s => match v with
    | .ins c' fs => if c' = c then (optR (fs.lookup f) s).bind fun u s => .ok (u, false) s else .bad
    | _ => .bad
  | .meth a c m k es, s => (ev a s).bind fun x s => (match rdv s (.val x.1) with
    | some (.ins c' fs) => if c' = c ∧ fs.lookup m = none then (evs es s).bind fun vs s => ofFR s.ρ (Φ k (x.1 :: vs) s.w) else .bad
    | _ => .bad)
  | .prop a c m k, s => (ev a s).bind fun x s => (match rdv s (.val x.1) with
    | some (.ins c' _) => if c' = c then ofFN s.ρ (Φ k [x.1] s.w) else .bad
    | _ => .bad)
  | .lenC a c k, s => (ev a s).bind fun x s => (match rdv s (.val x.1) with
    | some (.ins c' _) => if c' = c then (ofFN s.ρ (Φ k [x.1] s.w)).bind fun y s => lenR y s else .bad
    | _ => .bad)
  | .eqC a b c k, s => (ev a s).bind fun x s => (ev b s).bind fun y s => if eqOk c x.1 y.1 = true then (ofFN s.ρ (Φ k [x.1, y.1] s.w)).bind fun z s => boolR z s else .bad
  | .lend i e, s => (match s.ρ[i]? with
    | some (.own (.dct t kvs)) => (noEx (ev e ⟨(s.ρ.map unown).set i (.fz (.dct t kvs)), s.w.map fun _ => none⟩)).bind fun x s' => if noD x.1 = true ∧ s'.w.length = s.w.length then .ok x s else .bad
    | _ => .bad)
  | .isC a c, s => (pkOf a (ev a) s).bind fun x s => (optR (rdv s x) s).bind fun v s => match v with
    | .ins c' _ => if c' = c then .ok (.bl true, false) s else .bad
    | .obj _ => .bad
    | .fn _ => .bad
    | _ => .ok (.bl false, false) s
  | .get d k x, s => (pkOf d (ev d) s).bind fun d s => (optR (chk s d 1) s).bind fun _ s => (ev k s).bind fun kv s => (ev x s).bind fun xv s => (optR (rdv s d) s).bind fun dv s => match dv with
    | .dct t kvs => (optR (keyOf t kv.1) s).bind fun k s => .ok ((dGet kvs k).getD xv.1, false) s
    | _ => .bad
  | .index l x, s => (pkOf l (ev l) s).bind fun l s => (optR (chk s l 0) s).bind fun _ s => (ev x s).bind fun xv s => (optR (rdv s l) s).bind fun lv s => match lv with
    | .lst vs => (optR (vIndex xv.1 vs) s).bind fun n s => .ok (.int n, false) s
    | _ => .bad
  | .app o e, s => (pkOf o (ev o) s).bind fun o s => (optR (chk s o 0) s).bind fun _ s => (ev e s).bind fun x s => putL o (fun vs => if vs.length < sizeLine then some (vs ++ [x.1], .non) else none) s
  | .ext o e, s => (pkOf o (ev o) s).bind fun o s => (optR (chk s o 0) s).bind fun _ s => (ev e s).bind fun x s => match x.1 with
    | .lst us => putL o (fun vs => if vs.length + us.length ≤ sizeLine then some (vs ++ us, .non) else none) s
    | _ => .bad
  | .pop o, s => (pkOf o (ev o) s).bind fun o s => putL o (fun vs => match vs.getLast? with | some v => some (vs.dropLast, v) | none => none) s
  | .comp elt tg wk src cond own, s => (evs src s).bind fun vs s => (optR (walk wk vs) s).bind fun its s =>
      (foldR (fun v (acc : List Val) s => match setTg tg v s.ρ with
        | none => .bad
        | some ρ => (match cond with
          | none => (ev elt ⟨ρ, s.w⟩).bind fun x s => if acc.length < sizeLine then .ok (acc ++ [x.1]) ⟨wipeS s.ρ (own.map (·.2)), s.w⟩ else .bad
          | some c => (evT c ⟨ρ, s.w⟩).bind fun b s => if b then (ev elt s).bind fun x s => if acc.length < sizeLine then .ok (acc ++ [x.1]) ⟨wipeS s.ρ (own.map (·.2)), s.w⟩ else .bad
              else .ok acc ⟨wipeS s.ρ (own.map (·.2)), s.w⟩)) its [] ⟨wipeS s.ρ (own.map (·.2)), s.w⟩ |> noEx).bind fun acc s' => .ok (.lst acc, true) ⟨backS s.ρ s'.ρ (own.map (·.2)), s'.w⟩
  | .dcomp t key elt tg wk src cond own, s => (evs src s).bind fun vs s => (optR (walk wk vs) s).bind fun its s =>
      (foldR (fun v (acc : List (NestedKey × Val)) s => match setTg tg v s.ρ with
        | none => .bad
        | some ρ => (match cond with
          | none => (ev key ⟨ρ, s.w⟩).bind fun k s => (ev elt s).bind fun x s => match keyOf t k.1 with
            | some k => if acc.length < sizeLine then .ok (dPut acc k x.1) ⟨wipeS s.ρ (own.map (·.2)), s.w⟩ else .bad
            | none => .bad
          | some c => (evT c ⟨ρ, s.w⟩).bind fun b s => if b then (ev key s).bind fun k s => (ev elt s).bind fun x s => match keyOf t k.1 with
              | some k => if acc.length < sizeLine then .ok (dPut acc k x.1) ⟨wipeS s.ρ (own.map (·.2)), s.w⟩ else .bad
              | none => .bad
            else .ok acc ⟨wipeS s.ρ (own.map (·.2)), s.w⟩)) its [] ⟨wipeS s.ρ (own.map (·.2)), s.w⟩ |> noEx).bind fun acc s' => .ok (.dct t acc, true) ⟨backS s.ρ s'.ρ (own.map (·.2)), s'.w⟩
/-- as a test -/
def evT : Ts → Sta → Res Bool
  | .and a b, s => (evT a s).bind fun k s => if k then evT b s else .ok false s
  | .or a b, s => (evT a s).bind fun k s => if k then .ok true s else evT b s
  | .not a, s => (evT a s).bind fun k s => .ok (!k) s
  | .cmp f a b, s => (pkOf a (ev a) s).bind fun x s => (pkOf b (ev b) s).bind fun y s => (optR (rdv s x) s).bind fun v s => (optR (rdv s y) s).bind fun u s => match prim2 f v u with
    | some (.bl k, false) => .ok k s
    | _ => .bad
  | .eqC a b c k, s => (ev a s).bind fun x s => (ev b s).bind fun y s => if eqOk c x.1 y.1 = true then (ofFN s.ρ (Φ k [x.1, y.1] s.w)).bind fun z s => (match z.1 with
    | .bl b => .ok b s
    | _ => .bad) else .bad
  | .isN n a, s => (pkOf a (ev a) s).bind fun x s => (optR (rdv s x) s).bind fun v s => match prim1 (if n then .isNone else .notNone) v with
    | some (.bl k, false) => .ok k s
    | _ => .bad
  | .chn st a b c, s => (ev a s).bind fun x s => (ev b s).bind fun y s => match x.1, y.1 with
    | .int i, .int j => if i ≤ j then (ev c s).bind fun z s => (match z.1 with
        | .int k => .ok (if st then decide (j < k) else decide (j ≤ k)) s
        | _ => .bad) else .ok false s
    | _, _ => .bad
  | .val e, s => (pkOf e (ev e) s).bind fun x s => (optR (rdv s x) s).bind fun v s => optR (vTruth v) s
def evO : Option E → Sta → Res (Option Int)
  | none, s => .ok none s
  | some e, s => (ev e s).bind fun x s => match x.1 with
    | .int i => .ok (some i) s
    | _ => .bad
def evs : List E → Sta → Res (List Val)
  | [], s => .ok [] s
  | e :: es, s => (ev e s).bind fun x s => (evs es s).bind fun xs s => .ok (x.1 :: xs) s
end
end

/-! ### statements -/
inductive Fl where
  | nx | brk | ret (v : Val) (fr : Bool)
abbrev FUEL : Nat := 1000000
def whileN (c : Sta → Res Bool) (body : Sta → Res Fl) : Nat → Sta → Res Fl
  | 0, _ => .bad
  | n + 1, s => (c s).bind fun b s => if b then (body s).bind fun f s => (match f with
      | .nx => whileN c body n s
      | .brk => .ok .nx s
      | .ret v fr => .ok (.ret v fr) s) else .ok .nx s
def forN (tg : Tg) (body : Sta → Res Fl) : List Val → Sta → Res Fl
  | [], s => .ok .nx s
  | v :: vs, s => match setTg tg v s.ρ with
    | none => .bad
    | some ρ => (body ⟨ρ, s.w⟩).bind fun f s => (match f with
      | .nx => forN tg body vs s
      | .brk => .ok .nx s
      | .ret v fr => .ok (.ret v fr) s)
/-- a name takes a value -/
def setV (i : Nat) (v : Val) (fr : Bool) (s : Sta) : Res Fl := if i < s.ρ.length then .ok .nx ⟨s.ρ.set i (if fr then .own v else .fz v), s.w⟩ else .bad
def setM (t : Tg) (v : Val) (fr : Bool) (s : Sta) : Res Fl := match t with
  | .nm i => setV i v fr s
  | .tup ts => if fr then .bad else match setTg (.tup ts) v s.ρ with
    | some ρ => .ok .nx ⟨ρ, s.w⟩
    | none => .bad
/-- .. a name that holds a thing by itself hands it over -/
def evM (Φ : Fns) (e : E) (s : Sta) : Res (Val × Bool) := match e with
  | .var i => (match s.ρ[i]? with
    | some (.own v) => .ok (v, true) ⟨s.ρ.set i .e, s.w⟩
    | some (.fz v) => .ok (v, false) s
    | _ => .bad)
  | e => ev Φ e s
def putI (o : PV) (k v : Val) (s : Sta) : Res Fl := match o with
  | .bor i => (match s.ρ[i]? with
    | some (.own u) => (match putC u k v with
      | some u => .ok .nx ⟨s.ρ.set i (.own u), s.w⟩
      | none => .bad)
    | _ => .bad)
  | .val (.obj n) => (match s.w[n]? with
    | some (some u) => (match putC u k v with
      | some u => .ok .nx ⟨s.ρ, s.w.set n (some u)⟩
      | none => .bad)
    | _ => .bad)
  | _ => .bad
where putC : Val → Val → Val → Option Val
  | .lst vs, .int i, v => (ixN vs.length i).map fun j => .lst (vs.set j v)
  | .dct t kvs, k, v => (keyOf t k).bind fun k => if kvs.length < sizeLine then some (.dct t (dPut kvs k v)) else none
  | _, _, _ => none
def delI (o : PV) (k : Val) (s : Sta) : Res Fl := match o with
  | .bor i => (match s.ρ[i]? with
    | some (.own (.dct t kvs)) => (match keyOf t k with
      | some k => if (dGet kvs k).isSome then .ok .nx ⟨s.ρ.set i (.own (.dct t (dDel kvs k))), s.w⟩ else .bad
      | none => .bad)
    | _ => .bad)
  | _ => .bad
def putF (o : PV) (c f : Str) (v : Val) (s : Sta) : Res Fl := match o with
  | .val (.obj n) => (match s.w[n]? with
    | some (some (.ins c' fs)) => if c' = c ∧ fs.length < 1000 then .ok .nx ⟨s.ρ, s.w.set n (some (.ins c (pF f v fs)))⟩ else .bad
    | _ => .bad)
  | _ => .bad
where pF (f : Str) (v : Val) : List (Str × Val) → List (Str × Val)
  | [] => [(f, v)]
  | (g, x) :: r => if g = f then (g, v) :: r else (g, x) :: pF f v r
/-- a name that holds a thing by itself shares it from here on -/
def frzR (i : Nat) (ρ : List Slot) : Option Slot → List Slot
  | some (.own v) => ρ.set i (.fz v)
  | _ => ρ
def killS (ρ : List Slot) : List Nat → List Slot
  | [] => ρ
  | i :: is => frzR i (killS ρ is) (killS ρ is)[i]?
def idxL : Val → Val → Option Val
  | .lst vs, .int i => atV vs i
  | _, _ => none
def addI (o : PV) (k : Val) (s : Sta) : Val → Val → Res Fl
  | .int i, .int j => putI o k (.int (i + j)) s
  | _, _ => .bad
/-- the end of a body that is tried -/
def tryRes (x : Str) (cs : List Str) (e : E) : Res Fl → Res Fl
  | .ex c fs s => if cs.contains c then (if hand c x then (match constE e with
      | some v => .ok (.ret v false) s
      | none => .bad) else .ex c fs s) else .bad
  | r => r
section
variable (Φ : Fns)
mutual
def evS : S → Sta → Res Fl
  | .set i e, s => (evM Φ e s).bind fun x s => setV i x.1 x.2 s
  | .par i j a b, s => (evM Φ a s).bind fun x s => (evM Φ b s).bind fun y s => (setV j y.1 y.2 s).bind fun _ s => setV i x.1 x.2 s
  | .dead, _ => .bad
  | .unpack2 t u a b, s => (evM Φ a s).bind fun x s => (evM Φ b s).bind fun y s => (setM t x.1 x.2 s).bind fun _ s => setM u y.1 y.2 s
  | .unpack tg e, s => (ev Φ e s).bind fun x s => match setTg tg x.1 s.ρ with
    | some ρ => .ok .nx ⟨ρ, s.w⟩
    | none => .bad
  | .setI o k e, s => (ev Φ e s).bind fun v s => (pkOf o (ev Φ o) s).bind fun o s => (ev Φ k s).bind fun k s => putI o k.1 v.1 s
  | .setF o c f e, s => (ev Φ e s).bind fun v s => (pkOf o (ev Φ o) s).bind fun o s => putF o c f v.1 s
  | .aug i op e, s => (match s.ρ[i]? with
    | some (.fz (.int a)) => (ev Φ e s).bind fun y s => (match y.1 with
      | .int b => (match prim2 op (.int a) (.int b) with
        | some (.int c, false) => setV i (.int c) false s
        | _ => .bad)
      | _ => .bad)
    | _ => .bad)
  | .augI o k e, s => (pkOf o (ev Φ o) s).bind fun o s => (ev Φ k s).bind fun k s => (optR (rdv s o) s).bind fun ov s => (optR (idxL ov k.1) s).bind fun x s =>
      (ev Φ e s).bind fun y s => addI o k.1 s x y.1
  | .del o k, s => (pkOf o (ev Φ o) s).bind fun o s => (ev Φ k s).bind fun k s => delI o k.1 s
  | .expr e, s => (ev Φ e s).bind fun _ s => .ok .nx s
  | .ite c a b, s => (evT Φ c s).bind fun k s => if k then evSs a s else evSs b s
  | .for_ tg wk src body, s => (evs Φ src s).bind fun vs s => (optR (walk wk vs) s).bind fun its s => forN tg (evSs body) its s
  | .while_ c body, s => whileN (evT Φ c) (evSs body) FUEL s
  | .ret e, s => (evM Φ e s).bind fun x s => .ok (.ret x.1 x.2) s
  | .retN, s => .ok (.ret .non false) s
  | .brk, s => .ok .brk s
  | .pass, s => .ok .nx s
  | .raise c fs es, s => (evs Φ es s).bind fun vs s => if fs.length = vs.length then .ex c (fs.zip vs) s else .bad
  | .kill is, s => .ok .nx ⟨killS s.ρ is, s.w⟩
  | .tryR body x cs e, s => tryRes x cs e (evSs body s)
def evSs : List S → Sta → Res Fl
  | [], s => .ok .nx s
  | a :: r, s => (evS a s).bind fun f s => match f with
    | .nx => evSs r s
    | f => .ok f s
end
/-- a def's body, run -/
def runDef (n : Nat) (body : List S) (vs : List Val) (w : List (Option Val)) : FR := match evSs Φ body ⟨slots0 n vs, w⟩ with
  | .ok (.ret v fr) s => .ok v fr s.w
  | .ok .nx s => .ok .non false s.w
  | .ok .brk _ => .bad
  | .ex c fs s => .ex c fs s.w
  | .bad => .bad
end
example (Φ : Fns) (a b : E) (s : Sta) : ev Φ (.and a b) s = (ev Φ a s).bind fun x s => match x.1 with
    | .bl true => ev Φ b s
    | .bl false => .ok (.bl false, false) s
    | _ => .bad := rfl
def more (Φ : Fns) (x : Str) (n : Nat) (b : List S) : Fns := fun y => if y = x then runDef Φ n b else Φ y
theorem more_at {Φ : Fns} {x : Str} {n : Nat} {b : List S} : more Φ x n b x = runDef Φ n b := if_pos rfl
theorem more_ne {Φ : Fns} {x y : Str} {n : Nat} {b : List S} (h : y ≠ x) : more Φ x n b y = Φ y := if_neg h
end TL

set_option Elab.async false
set_option linter.all false
set_option maxRecDepth 100000
/-! LTD: the look whether a text is such a tree. -/
namespace TL
open PySem PySem.Spec PyProof.Rows L2

/-- a method of a class: its name there, its name among the defs, its level, its parameters -/
structure MRow where
  c : Str
  m : Str
  k : Str
  lv : Nat
  ps : List Str
  deriving DecidableEq
/-- what of the program's top a text leans on -/
structure Tab where
  free : List Str
  gints : List (Str × Int)
  fns : List (Str × Nat × List Str)
  mks : List (Str × Nat × List Str)
  mts : List MRow
  prs : List MRow
  sps : List MRow
  flds : List (Str × Str)
  excs : List (Str × List Str)

/-- where a text stands: the names, the scope, which names are cells that may be stored -/
structure Pl where
  N : List Str
  sc : Scope
  cells : Str → Bool
  lv : Nat

def kindB (sc : Scope) (x : Str) (k : NameKind) : Bool := decide (sc.names.lookup x = some k)
def visB (sc : Scope) (x : Str) : Bool := kindB sc x .local || (kindB sc x .cell || kindB sc x .free)
def okB (x : Str) : Bool := !(x == ("__debug__" : Str)) && (!(x == ("__classdict__" : Str)) && !decide (x = ("__name__" : Str)))
/-- a name in a slot, read -/
def rdB (P : Pl) (i : Nat) (x : Str) : Bool := decide (P.N[i]? = some x) && (visB P.sc x && okB x)
/-- .. stored -/
def stB (P : Pl) (i : Nat) (x : Str) : Bool := decide (P.N[i]? = some x) && (kindB P.sc x .local || (kindB P.sc x .cell && P.cells x))
def glB (P : Pl) (x : Str) : Bool := kindB P.sc x .globalImplicit && okB x
/-- a built-in's name -/
def frB (T : Tab) (P : Pl) (x : Str) : Bool := glB P x && T.free.contains x
/-- no starred item; no super(); no slice; no written set -/
def plainA : Expr → Bool
  | .Starred .. => false
  | _ => true
def okBase : Expr → Bool
  | .Call (.Name ..) [] [] _ => false
  | _ => true
def noSlice : Expr → Bool
  | .Slice .. => false
  | _ => true
def noSet : Expr → Bool
  | .Set .. => false
  | _ => true
/-- a call of a built-in by its name with these arguments -/
def bcall (T : Tab) (P : Pl) (f : String) : Expr → Option (List Expr)
  | .Call (.Name x _) args [] _ => if x = (f : Str) ∧ frB T P x = true ∧ args.all plainA = true then some args else none
  | _ => none
def one : Option (List Expr) → Option Expr
  | some [a] => some a
  | _ => none
def two : Option (List Expr) → Option (Expr × Expr)
  | some [a, b] => some (a, b)
  | _ => none
/-- isinstance(a, ty) -/
def isB (T : Tab) (P : Pl) (ty : String) (e : Expr) : Option Expr := match two (bcall T P "isinstance" e) with
  | some (a, .Name t _) => if t = (ty : Str) ∧ frB T P t = true then some a else none
  | _ => none
/-- isinstance(a, (list, tuple)) -/
def isLTB (T : Tab) (P : Pl) (e : Expr) : Option Expr := match two (bcall T P "isinstance" e) with
  | some (a, .Tuple [.Name t _, .Name u _] _ _) => if (t = ("list" : Str) ∧ u = ("tuple" : Str)) ∧ frB T P t = true ∧ frB T P u = true then some a else none
  | _ => none
/-- xs[::-1] -/
def revX : Expr → Option Expr
  | .Subscript e (.Slice none none (some (.UnaryOp .USub (.Constant (.int i) _ _) _)) _) _ => if i = 1 then some e else none
  | _ => none
/-- a is None, a is not None -/
def nonX : Bool → Expr → Option Expr
  | true, .Compare a [.Is] [.Constant .none _ _] _ => some a
  | false, .Compare a [.IsNot] [.Constant .none _ _] _ => some a
  | _, _ => none
def p1X (T : Tab) (P : Pl) : P1 → Expr → Option Expr
  | .len, e => one (bcall T P "len" e)
  | .sum, e => one (bcall T P "sum" e)
  | .list, e => one (bcall T P "list" e)
  | .tuple, e => one (bcall T P "tuple" e)
  | .sorted, e => one (bcall T P "sorted" e)
  | .sset, e => (one (bcall T P "sorted" e)).bind fun e => one (bcall T P "set" e)
  | .lset, e => (one (bcall T P "len" e)).bind fun e => one (bcall T P "set" e)
  | .sortedT, e => one (bcall T P "sorted" e)
  | .ssetT, e => (one (bcall T P "sorted" e)).bind fun e => one (bcall T P "set" e)
  | .lsetT, e => (one (bcall T P "len" e)).bind fun e => one (bcall T P "set" e)
  | .minT, e => one (bcall T P "min" e)
  | .dictP, e => one (bcall T P "dict" e)
  | .sortD, e => one (bcall T P "sorted" e)
  | .max, e => one (bcall T P "max" e)
  | .min, e => one (bcall T P "min" e)
  | .int, e => one (bcall T P "int" e)
  | .abs, e => one (bcall T P "abs" e)
  | .str, e => one (bcall T P "str" e)
  | .neg, .UnaryOp .USub a _ => some a
  | .lrange, e => (one (bcall T P "list" e)).bind fun e => one (bcall T P "range" e)
  | .isInt, e => isB T P "int" e
  | .isBool, e => isB T P "bool" e
  | .isTuple, e => isB T P "tuple" e
  | .isList, e => isB T P "list" e
  | .isStr, e => isB T P "str" e
  | .isLT, e => isLTB T P e
  | .rev, e => revX e
  | .isNone, e => nonX true e
  | .notNone, e => nonX false e
  | _, _ => none
def binX (o : Operator) : Expr → Option (Expr × Expr)
  | .BinOp a o' b _ => if o' = o then some (a, b) else none
  | _ => none
def cmpX (o : CmpOp) : Expr → Option (Expr × Expr)
  | .Compare a [o'] [b] _ => if o' = o ∧ noSet b = true then some (a, b) else none
  | _ => none
def subX : Expr → Option (Expr × Expr)
  | .Subscript a b _ => if noSlice b = true then some (a, b) else none
  | _ => none
def p2X (T : Tab) (P : Pl) : P2 → Expr → Option (Expr × Expr)
  | .add, e => binX .Add e
  | .sub, e => binX .Sub e
  | .mul, e => binX .Mult e
  | .fdiv, e => binX .FloorDiv e
  | .mod, e => binX .Mod e
  | .pow, e => binX .Pow e
  | .eq, e => cmpX .Eq e
  | .ne, e => cmpX .NotEq e
  | .lt, e => cmpX .Lt e
  | .le, e => cmpX .LtE e
  | .gt, e => cmpX .Gt e
  | .ge, e => cmpX .GtE e
  | .inn, e => cmpX .In e
  | .notin, e => cmpX .NotIn e
  | .idx, e => subX e
  | .max, e => two (bcall T P "max" e)
  | .min, e => two (bcall T P "min" e)
/-- o.m(args), m a method of a built-in type -/
def mcall (m : String) : Expr → Option (Expr × List Expr)
  | .Call (.Attribute o x ap) args [] cp => if x = (m : Str) ∧ okBase o = true ∧ args.all plainA = true ∧ (ap.endLine == cp.line) = true then some (o, args) else none
  | _ => none
def wkX (T : Tab) (P : Pl) : Wk → Expr → Option (List Expr)
  | .val, e => some [e]
  | .range1, e => (one (bcall T P "range" e)).map ([·])
  | .range2, e => (two (bcall T P "range" e)).map fun p => [p.1, p.2]
  | .enum, e => (one (bcall T P "enumerate" e)).map ([·])
  | .zip, e => (two (bcall T P "zip" e)).map fun p => [p.1, p.2]
  | .revd, e => (one (bcall T P "reversed" e)).map ([·])
mutual
def mTg (P : Pl) : Tg → Expr → Bool
  | .nm i, .Name x _ => stB P i x
  | .tup ts, .Tuple es _ _ => mTgs P ts es
  | _, _ => false
def mTgs (P : Pl) : List Tg → List Expr → Bool
  | [], [] => true
  | t :: ts, e :: es => mTg P t e && mTgs P ts es
  | _, _ => false
end
/-- an expression whose truth is its value's truth, none of and, or, not, a comparison -/
def plainT : Expr → Bool
  | .BoolOp .. => false
  | .UnaryOp .Not _ _ => false
  | .Compare .. => false
  | .IfExp .. => false
  | _ => true
def isCmp : P2 → Bool
  | .eq => true | .ne => true | .lt => true | .le => true | .gt => true | .ge => true | .inn => true | .notin => true
  | _ => false
/-- no name with a way of its own -/
def okA (f : Str) : Bool := !decide (f = ("__class__" : Str))
/-- a target of several names -/
def isTupE : Expr → Bool
  | .Tuple .. => true
  | _ => false
def wkTg (wk : Wk) (tg : Expr) : Bool := match wk with
  | .enum => isTupE tg
  | .zip => isTupE tg
  | _ => true
/-- names of a target, by their slots -/
def Pl.blk (P : Pl) (scope : Scope) : Pl := ⟨P.N, relS scope P.sc, fun x => scope.names.lookup x == some .cell, P.lv⟩
mutual
def tgIn : Tg → List Nat → Bool
  | .nm i, l => l.contains i
  | .tup ts, l => tgIns ts l
def tgIns : List Tg → List Nat → Bool
  | [], _ => true
  | t :: ts, l => tgIn t l && tgIns ts l
end
mutual
def mE (T : Tab) : Pl → E → Expr → Bool
  | P, .var i, .Name x _ => rdB P i x
  | _, .int i, .Constant (.int j) _ _ => decide (i = j)
  | _, .str x, .Constant (.str y) _ _ => decide (x = y)
  | _, .bl b, .Constant (.bool c) _ _ => decide (b = c)
  | _, .non, .Constant .none _ _ => true
  | P, .gint x i, .Name y _ => decide (x = y) && (glB P y && T.gints.contains (x, i))
  | P, .p1 f a, e => (match p1X T P f e with
    | some x => mE T P a x
    | none => false)
  | P, .p2 f a b, e => (match p2X T P f e with
    | some (x, y) => mE T P a x && mE T P b y
    | none => false)
  | P, .cut a lo hi, .Subscript x (.Slice l h none _) _ => mE T P a x && (mO T P lo l && mO T P hi h)
  | P, .chain st a b c, .Compare x [.LtE, o] [y, z] _ => decide (o = if st then .Lt else .LtE) && (mE T P a x && (mE T P b y && mE T P c z))
  | P, .and a b, .BoolOp .And [x, y] _ => mE T P a x && mE T P b y
  | P, .and a b, .BoolOp .And (x :: y :: z :: r) p => mE T P a x && mE T P b (.BoolOp .And (y :: z :: r) p)
  | P, .or a b, .BoolOp .Or [x, y] _ => mE T P a x && mE T P b y
  | P, .or a b, .BoolOp .Or (x :: y :: z :: r) p => mE T P a x && mE T P b (.BoolOp .Or (y :: z :: r) p)
  | P, .not a, .UnaryOp .Not x _ => mE T P a x
  | P, .ife c a b, .IfExp x y z _ => mT T P c x && (mE T P a y && mE T P b z)
  | P, .tup es, .Tuple xs _ _ => mEs T P es xs
  | P, .lst es, .List xs _ => mEs T P es xs
  | _, .dnew _, .Dict [] [] _ => true
  | P, .d1 _ k v, .Dict [some x] [y] _ => mE T P k x && mE T P v y
  | P, .nobj e, x => mE T P e x
  | P, .call f es, .Call (.Name x _) args [] _ => decide (f = x) && (!args.isEmpty && (glB P x && ((T.fns.any fun q => decide (q.1 = x ∧ q.2.1 ≤ P.lv ∧ q.2.2.length = es.length)) && mEs T P es args)))
  | P, .make c _ es, .Call (.Name x _) args [] _ => decide (c = x) && (!args.isEmpty && (glB P x && ((T.mks.any fun q => decide (q.1 = x ∧ q.2.1 + 1 ≤ P.lv ∧ q.2.2.length = es.length + 1)) && mEs T P es args)))
  | P, .fld a c f, .Attribute x y _ => decide (f = y) && (okBase x && (T.flds.contains (c, f) && mE T P a x))
  | P, .prop a c m k, .Attribute x y _ => decide (m = y) && (okBase x && (okA y && ((T.prs.any fun q => decide (q.c = c ∧ q.m = m ∧ q.k = k ∧ q.lv + 1 ≤ P.lv ∧ q.ps.length = 1)) && mE T P a x)))
  | P, .lenC a c k, e => (match one (bcall T P "len" e) with
    | some x => (T.sps.any fun q => decide (q.c = c ∧ q.m = ("__len__" : Str) ∧ q.k = k ∧ q.lv + 1 ≤ P.lv ∧ q.ps.length = 1)) && mE T P a x
    | none => false)
  | P, .eqC a b c k, e => (match cmpX .Eq e with
    | some (x, y) => (T.sps.any fun q => decide (q.c = c ∧ q.m = ("__eq__" : Str) ∧ q.k = k ∧ q.lv + 1 ≤ P.lv ∧ q.ps.length = 2)) && (mE T P a x && mE T P b y)
    | none => false)
  | P, .lend _ e, x => mE T P e x
  | P, .get d k v, e => (match mcall "get" e with
    | some (o, [x, y]) => mE T P d o && (mE T P k x && mE T P v y)
    | _ => false)
  | P, .index l v, e => (match mcall "index" e with
    | some (o, [x]) => mE T P l o && mE T P v x
    | _ => false)
  | P, .app l v, e => (match mcall "append" e with
    | some (o, [x]) => mE T P l o && mE T P v x
    | _ => false)
  | P, .ext l v, e => (match mcall "extend" e with
    | some (o, [x]) => mE T P l o && mE T P v x
    | _ => false)
  | P, .pop l, e => (match mcall "pop" e with
    | some (o, []) => mE T P l o
    | _ => false)
  | P, .isC a c, e => (match two (bcall T P "isinstance" e) with
    | some (x, .Name t _) => decide (t = c) && (glB P t && ((T.mks.any fun q => decide (q.1 = c)) && mE T P a x))
    | _ => false)
  | P, .comp elt tg wk src cond own, .ListComp x [⟨t, it, ifs, 0⟩] scope _ => blkC P.N P.sc scope own && (tgIn tg (own.map (·.2)) && (wkTg wk t && (noSet it && (mTg (P.blk scope) tg t && ((match wkX T P wk it with
      | some xs => mEs T P src xs
      | none => false) && (mC T (P.blk scope) cond ifs && mE T (P.blk scope) elt x))))))
  | P, .dcomp _ key elt tg wk src cond own, .DictComp kx x [⟨t, it, ifs, 0⟩] scope _ => blkC P.N P.sc scope own && (tgIn tg (own.map (·.2)) && (wkTg wk t && (noSet it && (mTg (P.blk scope) tg t && ((match wkX T P wk it with
      | some xs => mEs T P src xs
      | none => false) && (mC T (P.blk scope) cond ifs && (mE T (P.blk scope) key kx && mE T (P.blk scope) elt x)))))))
  | _, _, _ => false
def mT (T : Tab) : Pl → Ts → Expr → Bool
  | P, .val e, x => plainT x && mE T P e x
  | P, .and a b, .BoolOp .And [x, y] _ => mT T P a x && mT T P b y
  | P, .and a b, .BoolOp .And (x :: y :: z :: r) p => mT T P a x && mT T P b (.BoolOp .And (y :: z :: r) p)
  | P, .or a b, .BoolOp .Or [x, y] _ => mT T P a x && mT T P b y
  | P, .or a b, .BoolOp .Or (x :: y :: z :: r) p => mT T P a x && mT T P b (.BoolOp .Or (y :: z :: r) p)
  | P, .not a, .UnaryOp .Not x _ => mT T P a x
  | P, .cmp f a b, e => isCmp f && (match p2X T P f e with
    | some (x, y) => mE T P a x && mE T P b y
    | none => false)
  | P, .eqC a b c k, e => (match cmpX .Eq e with
    | some (x, y) => (T.sps.any fun q => decide (q.c = c ∧ q.m = ("__eq__" : Str) ∧ q.k = k ∧ q.lv + 1 ≤ P.lv ∧ q.ps.length = 2)) && (mE T P a x && mE T P b y)
    | none => false)
  | P, .isN n a, .Compare x [o] [.Constant .none _ _] _ => decide (o = if n then .Is else .IsNot) && mE T P a x
  | P, .chn st a b c, .Compare x [.LtE, o] [y, z] _ => decide (o = if st then .Lt else .LtE) && (mE T P a x && (mE T P b y && mE T P c z))
  | _, _, _ => false
def mO (T : Tab) : Pl → Option E → Option Expr → Bool
  | _, none, none => true
  | P, some e, some x => mE T P e x
  | _, _, _ => false
def mC (T : Tab) : Pl → Option Ts → List Expr → Bool
  | _, none, [] => true
  | P, some c, [i] => mT T P c i
  | _, _, _ => false
def mEs (T : Tab) : Pl → List E → List Expr → Bool
  | _, [], [] => true
  | P, e :: es, x :: xs => plainA x && (mE T P e x && mEs T P es xs)
  | _, _, _ => false
end
end TL

set_option Elab.async false
set_option linter.all false
set_option maxRecDepth 100000
/-! LTE: what a reading says of a run. -/
namespace TL
open PySem PySem.Spec PyProof.Rows L2

section
variable (F : Fr)
/-- a value was given -/
def Got (τ : Tmp) (s : Sta) (σ : St) (G : Hp) (A : List Addr) (H : Hp) (v : Val) (fr : Bool) (x : V) : Prop := match fr with
  | true => ∃ a, x = .ref a ∧ Rel F G A ((a, v) :: τ) s σ H
  | false => Rel F G A τ s σ H ∧ Rep F.w F.K G A v x
/-- the fields of an exception -/
def ExcAt (G : Hp) (A : List Addr) (fs : List (Str × Val)) (d : Option Addr) : Prop := (fs = [] ∧ d = none) ∨ ∃ dd gs, d = some dd ∧ G dd = some (.xd gs) ∧ RepF F.w F.K G A fs gs
/-- what a reading's end must satisfy: an end of kind R -/
def Sat {α β : Type} (W : WX) (σ : St) (R : α → Sta → Hp → List Addr → Hp → β → Prop) (G : Hp) (A : List Addr) (r : Res α) (Q : β → Hp → Prop) : Prop := match r with
  | .ok a s => ∀ y G' A' H', Le G A G' A' → R a s G' A' H' y → Q y H'
  | .ex c fs s => ∀ d G' A' H', Le G A G' A' → Rel F G' A' [] s σ H' → ExcAt F G' A' fs d → W (.ref (He.ga F.K c)) d σ H'
  | .bad => False
/-- the ends: a value; a looked-at value; a truth; a row of values; a part of a slice -/
def RV (τ : Tmp) (σ : St) : Val × Bool → Sta → Hp → List Addr → Hp → V → Prop := fun p s G A H x => Got F τ s σ G A H p.1 p.2 x
def PvAt (σ : St) (G : Hp) (A : List Addr) (x : V) : PV → Prop
  | .val v => Rep F.w F.K G A v x
  | .bor i => σ[i]? = some (some x)
def RP (τ : Tmp) (σ : St) : PV → Sta → Hp → List Addr → Hp → V → Prop := fun p s G A H x => Rel F G A τ s σ H ∧ PvAt F σ G A x p
def RB (τ : Tmp) (σ : St) : Bool → Sta → Hp → List Addr → Hp → Bool → Prop := fun b s G A H y => Rel F G A τ s σ H ∧ y = b
def RL (τ : Tmp) (σ : St) : List Val → Sta → Hp → List Addr → Hp → List V → Prop := fun vs s G A H ys => Rel F G A τ s σ H ∧ Reps F.w F.K G A vs ys
def RO (τ : Tmp) (σ : St) : Option Int → Sta → Hp → List Addr → Hp → Option Int → Prop := fun o s G A H y => Rel F G A τ s σ H ∧ y = o
end
section
variable {F : Fr} {W : WX} {σ : St} {G G' : Hp} {A A' : List Addr} {α β γ δ : Type}
theorem Sat.mono {R : α → Sta → Hp → List Addr → Hp → β → Prop} {r : Res α} {Q : β → Hp → Prop} (h : Sat F W σ R G A r Q) (l : Le G A G' A') : Sat F W σ R G' A' r Q := by
  cases r with
  | ok a s => exact fun y G2 A2 H2 l2 => h y G2 A2 H2 (l.trans l2)
  | ex c fs s => exact fun d G2 A2 H2 l2 => h d G2 A2 H2 (l.trans l2)
  | bad => exact h
theorem Sat.imp {R : α → Sta → Hp → List Addr → Hp → β → Prop} {r : Res α} {Q Q' : β → Hp → Prop} (h : Sat F W σ R G A r Q) (q : ∀ y H, Q y H → Q' y H) : Sat F W σ R G A r Q' := by
  cases r with
  | ok a s => exact fun y G2 A2 H2 l2 z => q _ _ (h y G2 A2 H2 l2 z)
  | ex c fs s => exact h
  | bad => exact h
/-- one reading behind another -/
theorem Sat.bind {R : α → Sta → Hp → List Addr → Hp → β → Prop} {R' : γ → Sta → Hp → List Addr → Hp → δ → Prop} {r : Res α} {f : α → Sta → Res γ} {Q : δ → Hp → Prop}
    (h : Sat F W σ R' G A (r.bind f) Q) : Sat F W σ R G A r (fun y H1 => ∃ a s1 G1 A1, r = .ok a s1 ∧ Le G A G1 A1 ∧ R a s1 G1 A1 H1 y ∧ Sat F W σ R' G1 A1 (f a s1) Q) := by
  cases r with
  | ok a s => exact fun y G1 A1 H1 l z => ⟨a, s, G1, A1, rfl, l, z, Sat.mono h l⟩
  | ex c fs s => exact h
  | bad => exact h
theorem Sat.opt {R : α → Sta → Hp → List Addr → Hp → β → Prop} {o : Option γ} {s : Sta} {f : γ → Sta → Res α} {Q : β → Hp → Prop} (h : Sat F W σ R G A ((optR o s).bind f) Q) : ∃ a, o = some a ∧ Sat F W σ R G A (f a s) Q := by
  cases o with
  | none => exact h.elim
  | some a => exact ⟨a, rfl, h⟩
theorem Sat.opt1 {R : α → Sta → Hp → List Addr → Hp → β → Prop} {o : Option α} {s : Sta} {Q : β → Hp → Prop} (h : Sat F W σ R G A (optR o s) Q) : ∃ a, o = some a ∧ Sat F W σ R G A (.ok a s) Q := by
  cases o with
  | none => exact h.elim
  | some a => exact ⟨a, rfl, h⟩
theorem Got.rel {τ : Tmp} {s : Sta} {H : Hp} {v : Val} {fr : Bool} {x : V} (h : Got F τ s σ G A H v fr x) : Rel F G A τ s σ H := by
  cases fr with
  | true => obtain ⟨a, _, r⟩ := h; exact r.pop
  | false => exact h.1
/-- what was given does not change any more -/
theorem Got.fix {τ : Tmp} {s : Sta} {H : Hp} {v : Val} {fr : Bool} {x : V} (h : Got F τ s σ G A H v fr x) : ∃ G', Le G A G' A ∧ Rel F G' A τ s σ H ∧ Rep F.w F.K G' A v x := by
  cases fr with
  | true =>
    obtain ⟨a, rfl, r⟩ := h
    exact r.fixT
  | false => exact ⟨G, Le.refl, h.1, h.2⟩
/-- a looked-at value is read at the end -/
theorem view_of {τ : Tmp} {s : Sta} {H : Hp} {p : PV} {v : Val} {x : V} (r : Rel F G A τ s σ H) (h : PvAt F σ G A x p) (e : rdv s p = some v) : View F G A H v x := by
  cases p with
  | bor i =>
    have hx : σ[i]? = some (some x) := h
    cases hs : s.ρ[i]? with
    | none => simp [rdv, hs] at e
    | some b =>
      cases b with
      | e => simp [rdv, hs] at e
      | fz u =>
        simp [rdv, hs] at e
        subst e
        obtain ⟨y, hy, q⟩ := r.slot i _ hs
        rw [hx] at hy; cases hy
        exact .inl q
      | own u =>
        simp [rdv, hs] at e
        subst e
        exact r.viewSlot hs hx
  | val u =>
    cases u with
    | obj n =>
      cases hw : s.w[n]? with
      | none => simp [rdv, hw] at e
      | some o =>
        cases o with
        | none => simp [rdv, hw] at e
        | some z =>
          simp [rdv, hw] at e
          subst e
          exact r.viewObj hw h
    | _ =>
      simp only [rdv, Option.some.injEq] at e
      subst e
      exact .inl h
theorem PvAt.mono {x : V} {p : PV} (h : PvAt F σ G A x p) (l : Le G A G' A') : PvAt F σ G' A' x p := by
  cases p with
  | val v => exact Rep.mono l _ _ h
  | bor i => exact h
end

/-! ### the promise of a def -/
def SpD (w : World) (K : PySem.W.Frag) (n : Nat) (φ : List Val → List (Option Val) → FR) : Sp := fun vs H Q E =>
  ∃ (F : Fr) (G : Hp) (A : List Addr) (τ : Tmp) (s : Sta) (σ : St) (args : List Val), F.w = w ∧ F.K = K ∧ Rel F G A τ s σ H ∧ args.length = n ∧ Reps w K G A args vs ∧
    match φ args s.w with
    | .ok v fr w' => ∀ x G' A' H' τ' s' σ', s'.w = w' → Le G A G' A' → Got (F.sub G A s.w H) τ' s' σ' G' A' H' v fr x → Q x H'
    | .ex c fs w' => ∀ d G' A' H' τ' s' σ', s'.w = w' → Le G A G' A' → Rel (F.sub G A s.w H) G' A' τ' s' σ' H' → ExcAt (F.sub G A s.w H) G' A' fs d → E (.ref (He.ga K c)) d H'
    | .bad => False
theorem SpD.len {w : World} {K : PySem.W.Frag} {n : Nat} {φ : List Val → List (Option Val) → FR} : ∀ vs H Q E, SpD w K n φ vs H Q E → vs.length = n := fun vs H Q E ⟨_, _, _, _, _, _, args, _, _, _, h, r, _⟩ => by rw [r.length, h]

/-- an error class of the program, without own __init__ -/
def veB : List Value := [.type "ValueError", .type "Exception", .type "BaseException", .type "object"]
def excB1 (K : PySem.W.Frag) (x : Str) : Bool := PySem.W.keepIn K (.ref (He.ga K x)) && (PySem.W.excIn K (He.ga K x) veB "ValueError.__new__" && (decide (PySem.W.subIn K (.ref (He.ga K x)) (.type "BaseException") = some true) && decide (PySem.W.typeIn K (.ref (He.ga K x)) = some (.type "type"))))
/-- the program's top bears the table -/
structure TabOk (T : Tab) (Φ : Fns) (P : Program) (w : World) (K : PySem.W.Frag) (mg : Str → Option Value) (base : Heap) : Prop where
  free : ∀ x ∈ T.free, mg x = none
  gint : ∀ x i, (x, i) ∈ T.gints → ∃ t, mg x = some (.int i t)
  fns : ∀ q ∈ T.fns, mg q.1 = some (.ref (He.ga K q.1)) ∧ PySem.W.keepIn K (.ref (He.ga K q.1)) = true ∧ ∃ fd, FnOk P w K mg base (L2.CX P w) q.2.1 (He.ga K q.1) fd q.2.2 (SpD w K q.2.2.length (Φ q.1)) ∧ Binds K fd q.2.2 []
  isc : ∀ q ∈ T.mks, C8.InsC K (He.ga K q.1) ∧ ∀ t ∈ ["NoneType", "bool", "int", "str", "tuple", "list", "dict"], PySem.W.kitOne K (.type t) (.ref (He.ga K q.1)) = some false
  mks : ∀ q ∈ T.mks, mg q.1 = some (.ref (He.ga K q.1)) ∧ Cls K (He.ga K q.1) ∧ ∃ fI fd, Mk K (He.ga K q.1) fI ∧ FnOk P w K mg base (L2.CX P w) q.2.1 fI fd q.2.2 (SpD w K q.2.2.length (Φ q.1)) ∧ Binds K fd q.2.2 []
  prs : ∀ q ∈ T.prs, Cls K (He.ga K q.c) ∧ ∃ p g fd, PropOf K (He.ga K q.c) q.m p g ∧ FnOk P w K mg base (L2.CX P w) q.lv g fd q.ps (SpD w K q.ps.length (Φ q.k)) ∧ Binds K fd q.ps []
  sps : ∀ q ∈ T.sps, Cls K (He.ga K q.c) ∧ PySem.W.notFirst K (He.ga K q.c) (.type "tuple") = true ∧ ∃ f fd, PySem.W.findIn K (.ref (He.ga K q.c)) q.m = some (some (.ref f)) ∧ PySem.W.isFn K (.ref f) = true ∧ FnOk P w K mg base (L2.CX P w) q.lv f fd q.ps (SpD w K q.ps.length (Φ q.k)) ∧ Binds K fd q.ps []
  mts : ∀ q ∈ T.mts, Cls K (He.ga K q.c) ∧ ∃ f fd, Meth K (He.ga K q.c) q.m f ∧ FnOk P w K mg base (L2.CX P w) q.lv f fd q.ps (SpD w K q.ps.length (Φ q.k)) ∧ Binds K fd q.ps []
  flds : ∀ q ∈ T.flds, Cls K (He.ga K q.1) ∧ NoAttr K (He.ga K q.1) q.2
  excs : ∀ q ∈ T.excs, mg q.1 = some (.ref (He.ga K q.1)) ∧ excB1 K q.1 = true ∧ ∀ r ∈ T.excs, PySem.W.exmOne K (.ref (He.ga K q.1)) (.ref (He.ga K r.1)) = some (hand q.1 r.1)

/-- where a text is run -/
structure Ctx (T : Tab) (Φ : Fns) (P : Pl) (X : Cx) (W : WX) : Prop where
  calm : X.calm = true
  nd : X.N.Nodup
  eN : X.N = P.N
  eS : X.env.scope = P.sc
  cells : ∀ x, P.cells x = true → X.fn x = true
  tk : Takes X W
  room : Room P.lv X.A
  tab : TabOk T Φ X.prog X.w X.K X.mg X.base


section
variable (Φ : Fns) (X : Cx) (W : WX)
/-- in some frame -/
def tAny {α β : Type} (R : Fr → Tmp → St → α → Sta → Hp → List Addr → Hp → β → Prop) (f : Sta → Res α) : St → Hp → (β → Hp → Prop) → Prop := fun σ H Q =>
  ∃ (F : Fr) (G : Hp) (A : List Addr) (τ : Tmp) (s : Sta), F.w = X.w ∧ F.K = X.K ∧ Rel F G A τ s σ H ∧ Sat F W σ (R F τ σ) G A (f s) Q
abbrev tV (e : E) : TE := tAny X W RV (ev Φ e)
abbrev tP (e : E) : TE := tAny X W RP (pkOf e (ev Φ e))
abbrev tB (c : Ts) : TT := tAny X W RB (evT Φ c)
abbrev tL (es : List E) : TA := tAny X W RL (evs Φ es)
abbrev tO (o : Option E) : TO := tAny X W RO (evO Φ o)
end
section
variable {X : Cx}
theorem PE.conv {e : Expr} {t t' : TE} (h : PE X e t) (c : ∀ σ H Q, t' σ H Q → t σ H Q) : PE X e t' := ⟨fun pins s σ H Q I q => h.run pins s σ H Q I (c σ H Q q)⟩
theorem PT.conv {e : Expr} {t t' : TT} (h : PT X e t) (c : ∀ σ H Q, t' σ H Q → t σ H Q) : PT X e t' := ⟨fun pins s σ H Q I q => h.run pins s σ H Q I (c σ H Q q)⟩
theorem PA.conv {e : List Expr} {t t' : TA} (h : PA X e t) (c : ∀ σ H Q, t' σ H Q → t σ H Q) : PA X e t' := ⟨fun pos pins s σ H Q I q => h.run pos pins s σ H Q I (c σ H Q q)⟩
end
end TL

set_option Elab.async false
set_option linter.all false
set_option maxRecDepth 100000
/-! LTF: dicts whose object is known. -/
namespace TL
open PySem PySem.Spec PyProof.Rows L2

section
variable {w : World} {K : PySem.W.Frag} {G : Hp} {A : List Addr} {prog : Program}
/-- the int-keyed pairs -/
def PK (w : World) (K : PySem.W.Frag) (G : Hp) (A : List Addr) : List (NestedKey × Val) → List (Key × Value) → Prop := Paired fun p q => ∃ i y, p.1 = .num i ∧ q.1 = Sum.inl i ∧ RelV y q.2 ∧ Rep w K G A p.2 y
/-- the tuple-keyed ones -/
def PTk (w : World) (K : PySem.W.Frag) (G : Hp) (A : List Addr) : List (NestedKey × Val) → List (NestedKey × Addr × Value) → Prop :=
  Paired fun p q => ∃ y ks, p.1 = .tup ks ∧ q.1 = p.1 ∧ RepN G p.1 (.ref q.2.1) ∧ p.1.depth ≤ 8 ∧ RelV y q.2.2 ∧ Rep w K G A p.2 y
theorem repD_pk : ∀ {kvs : List (NestedKey × Val)} {es : List DictEntry}, RepD w K G A false kvs es → ∃ vs, PK w K G A kvs vs ∧ Pairs (mixKind prog w) es vs ∧ ∀ e ∈ es, ∃ k, (mixKind prog w).is k e.key = true ∧ e.hash = (mixKind prog w).hash k
  | [], es, h => by
    rw [show es = [] from h]
    exact ⟨[], .nil, .nil, fun e he => by cases he⟩
  | (k, v) :: r, es, h => by
    obtain ⟨u1, u2, y, ds, rfl, ⟨i, tk, rfl, rfl⟩, h2, h3, h4⟩ := h
    obtain ⟨vs, a, b, c⟩ := repD_pk h4
    refine ⟨(Sum.inl i, u2) :: vs, .cons ⟨i, y, rfl, rfl, h2, h3⟩ a, .cons (keyIs_int i tk) rfl b, fun e he => ?_⟩
    rcases List.mem_cons.mp he with rfl | he
    · exact ⟨Sum.inl i, keyIs_int i tk, rfl⟩
    · exact c e he
theorem pk_repD : ∀ {kvs : List (NestedKey × Val)} {es : List DictEntry} {vs : List (Key × Value)}, PK w K G A kvs vs → Pairs (mixKind prog w) es vs → (∀ e ∈ es, ∃ k, (mixKind prog w).is k e.key = true ∧ e.hash = (mixKind prog w).hash k) → RepD w K G A false kvs es
  | [], es, vs, a, b, c => by cases a; cases b; rfl
  | (k, v) :: r, es, vs, a, b, c => by
    cases a with
    | cons a1 a2 =>
      cases b with
      | cons b1 b2 b3 =>
        rename_i kv vs e es
        obtain ⟨i, y, e1, e2, h1, h2⟩ := a1
        have ih := pk_repD a2 b3 fun e he => c e (List.mem_cons_of_mem _ he)
        obtain ⟨k', c1, c2⟩ := c e List.mem_cons_self
        have b1' : keyIs kv.1 e.key = true := b1
        have c1' : keyIs k' e.key = true := c1
        rw [e2] at b1'
        have ek : k' = Sum.inl i := (mixKind prog w).inj _ _ _ c1' b1'
        subst ek
        have e1' : k = .num i := e1
        subst e1'
        obtain ⟨t, et⟩ : ∃ t, e.key = .int i t := by
          obtain ⟨t, et⟩ := Value.isInt_shape (k := i) (v := e.key) b1'
          exact ⟨t, et⟩
        obtain ⟨eh, ekey, ev⟩ := e
        have et' : ekey = .int i t := et
        have c2' : eh = hashInt i := c2
        have b2' : ev = kv.2 := b2
        subst et' c2' b2'
        exact ⟨_, _, y, es, rfl, ⟨i, t, rfl, rfl⟩, h1, h2, ih⟩
theorem PK.nodup : ∀ {kvs : List (NestedKey × Val)} {vs : List (Key × Value)}, PK w K G A kvs vs → (kvs.map (·.1)).Nodup → (vs.map (·.1)).Nodup
  | _, _, .nil, _ => List.nodup_nil
  | p :: kvs, q :: vs, .cons a r, h => by
    rw [List.map_cons, List.nodup_cons] at h ⊢
    obtain ⟨i, y, e1, e2, _, _⟩ := a
    refine ⟨fun hm => h.1 ?_, PK.nodup r h.2⟩
    rw [e2] at hm
    rw [e1]
    clear h e1 e2
    induction r with
    | nil => simp at hm
    | cons b r ih =>
      obtain ⟨j, z, f1, f2, _, _⟩ := b
      rw [List.map_cons, List.mem_cons] at hm ⊢
      rcases hm with e | e
      · rw [f2] at e; cases e; exact .inl f1.symm
      · exact .inr (ih e)
theorem PK.get {i : Int} : ∀ {kvs : List (NestedKey × Val)} {vs : List (Key × Value)}, PK w K G A kvs vs → match dGet kvs (.num i), valueAt vs (Sum.inl i) with
    | some v, some u => ∃ y, RelV y u ∧ Rep w K G A v y
    | none, none => True
    | _, _ => False
  | _, _, .nil => by simp [dGet, valueAt]
  | p :: kvs, q :: vs, .cons a r => by
    obtain ⟨j, y, e1, e2, h1, h2⟩ := a
    have ih := PK.get (i := i) r
    unfold dGet valueAt at ih ⊢
    rw [List.find?_cons, List.find?_cons, e1, e2]
    by_cases e : j = i
    · subst e
      simp only [decide_true, Option.map_some]
      exact ⟨y, h1, h2⟩
    · have n1 : ¬ (NestedKey.num j = NestedKey.num i) := fun z => e (by cases z; rfl)
      have n2 : ¬ ((Sum.inl j : Key) = Sum.inl i) := fun z => e (by cases z; rfl)
      simp only [decide_eq_false n1, decide_eq_false n2]
      exact ih
theorem PK.length {kvs : List (NestedKey × Val)} {vs : List (Key × Value)} (h : PK w K G A kvs vs) : kvs.length = vs.length := Paired.length h
theorem PK.mapPut {i : Int} {v : Val} {y : V} {u : Value} (hy : RelV y u) (hv : Rep w K G A v y) : ∀ {kvs : List (NestedKey × Val)} {vs : List (Key × Value)}, PK w K G A kvs vs →
    PK w K G A (kvs.map fun p => if p.1 = .num i then (p.1, v) else p) (vs.map fun q => if q.1 = Sum.inl i then (q.1, u) else q)
  | _, _, .nil => .nil
  | p :: kvs, q :: vs, .cons a r => by
    obtain ⟨j, z, e1, e2, h1, h2⟩ := a
    refine .cons ?_ (PK.mapPut hy hv r)
    by_cases e : j = i
    · subst e
      simp only [e1, e2, if_true]
      exact ⟨j, y, rfl, rfl, hy, hv⟩
    · have n1 : ¬ (p.1 = NestedKey.num i) := fun z => e (by rw [e1] at z; cases z; rfl)
      have n2 : ¬ (q.1 = (Sum.inl i : Key)) := fun z => e (by rw [e2] at z; cases z; rfl)
      simp only [n1, n2, if_false]
      exact ⟨j, z, e1, e2, h1, h2⟩
theorem any_isSome {α β : Type} [DecidableEq α] (k : α) : ∀ l : List (α × β), (l.any fun p => decide (p.1 = k)) = ((l.find? fun p => decide (p.1 = k)).map (·.2)).isSome
  | [] => rfl
  | p :: l => by
    rw [List.any_cons, List.find?_cons]
    by_cases e : p.1 = k
    · simp [e]
    · simp only [decide_eq_false e, Bool.false_or]
      exact any_isSome k l
theorem PK.put {i : Int} {v : Val} {y : V} {u : Value} (hy : RelV y u) (hv : Rep w K G A v y) {kvs : List (NestedKey × Val)} {vs : List (Key × Value)} (h : PK w K G A kvs vs) : PK w K G A (dPut kvs (.num i) v) (stored vs (Sum.inl i) u) := by
  have g := PK.get (i := i) h
  have e : (vs.any fun q => decide (q.1 = (Sum.inl i : Key))) = (dGet kvs (.num i)).isSome := by
    rw [any_isSome]
    show (valueAt vs (Sum.inl i)).isSome = _
    cases h1 : dGet kvs (.num i) <;> cases h2 : valueAt vs (Sum.inl i) <;> simp_all
  unfold dPut stored
  rw [show (vs.any fun kv => decide (kv.1 = Sum.inl i)) = _ from e]
  by_cases q : (dGet kvs (.num i)).isSome = true
  · rw [if_pos q, if_pos q]
    exact PK.mapPut hy hv h
  · rw [if_neg q, if_neg q]
    exact Paired.snoc h ⟨i, y, rfl, rfl, hy, hv⟩
theorem PK.del {i : Int} : ∀ {kvs : List (NestedKey × Val)} {vs : List (Key × Value)}, PK w K G A kvs vs → PK w K G A (dDel kvs (.num i)) (without vs (Sum.inl i))
  | _, _, .nil => .nil
  | p :: kvs, q :: vs, .cons a r => by
    have ih := PK.del (i := i) r
    obtain ⟨j, z, e1, e2, h1, h2⟩ := a
    unfold dDel without at ih ⊢
    rw [List.filter_cons, List.filter_cons]
    by_cases e : j = i
    · subst e
      simp only [e1, e2, ne_eq, not_true, decide_false, if_false, Bool.false_eq_true]
      exact ih
    · have n1 : ¬ (p.1 = NestedKey.num i) := fun z => e (by rw [e1] at z; cases z; rfl)
      have n2 : ¬ (q.1 = (Sum.inl i : Key)) := fun z => e (by rw [e2] at z; cases z; rfl)
      simp only [ne_eq, n1, n2, not_false_eq_true, decide_true, if_true]
      exact .cons ⟨j, z, e1, e2, h1, h2⟩ ih

/-- keys in the heap -/
theorem tup_at {H : Hp} {h : Heap} {a : Addr} {xs : List V} (hok : HOk prog w H h) (e : H a = some (.tup xs)) : ∃ o its n, h.get? a = some o ∧ o.cls = .type "tuple" ∧ o.data = .seq its n ∧ Vals xs its.toList := by
  obtain ⟨z, its, r, o, e1, e2, n, e3⟩ := (show ObjOk prog w H h a (.tup xs) from hok a _ e)
  exact ⟨o, its.toArray, n, e1, e2, e3, by simpa using r⟩
mutual
theorem repN_is {H : Hp} {h : Heap} (hok : HOk prog w H h) (sub : ∀ a u, G a = some u → H a = some u) : ∀ (k : NestedKey) (y : V) (u : Value), RepN G k y → RelV y u → NestedIs h k u
  | .none, y, u, hr, r => by rw [show y = .non from hr] at r; rw [show u = _ from r]; exact .none
  | .num i, y, u, hr, r => by rw [show y = .int i from hr] at r; obtain ⟨t, rfl⟩ := r; exact .int i t
  | .text x, y, u, hr, r => by rw [show y = .str x from hr] at r; obtain ⟨t, rfl⟩ := r; exact .text x t
  | .tup ks, y, u, hr, r => by
    obtain ⟨a, xs, rfl, h1, h2⟩ := hr
    rw [show u = .ref a from r]
    obtain ⟨o, its, n, e1, e2, e3, e4⟩ := tup_at hok (sub _ _ h1)
    exact .tup e1 e2 e3 (repNs_is hok sub ks xs its.toList h2 e4)
theorem repNs_is {H : Hp} {h : Heap} (hok : HOk prog w H h) (sub : ∀ a u, G a = some u → H a = some u) : ∀ (ks : List NestedKey) (ys : List V) (us : List Value), RepNs G ks ys → Vals ys us → NestedAll h ks us
  | [], ys, us, hr, r => by rw [show ys = [] from hr] at r; cases r; exact .nil
  | k :: ks, ys, us, hr, r => by
    obtain ⟨y, zs, rfl, h1, h2⟩ := hr
    cases r with
    | cons r1 r2 => exact .cons (repN_is hok sub k y _ h1 r1) (repNs_is hok sub ks zs _ h2 r2)
end
mutual
/-- a value that is a key -/
theorem rep_repN : ∀ (v : Val) (k : NestedKey) (x : V), nk v = some k → Rep w K G A v x → RepN G k x
  | .non, k, x, e, h => by simp only [nk, Option.some.injEq] at e; subst e; exact h
  | .int _, k, x, e, h => by simp only [nk, Option.some.injEq] at e; subst e; exact h
  | .str _, k, x, e, h => by simp only [nk, Option.some.injEq] at e; subst e; exact h
  | .tup vs, k, x, e, h => by
    simp only [nk, Option.map_eq_some_iff] at e
    obtain ⟨ks, e1, rfl⟩ := e
    obtain ⟨a, xs, rfl, h1, h2⟩ := h
    exact ⟨a, xs, rfl, h1, reps_repNs vs ks xs e1 h2⟩
  | .bl _, _, _, e, _ => by simp [nk] at e
  | .lst _, _, _, e, _ => by simp [nk] at e
  | .dct _ _, _, _, e, _ => by simp [nk] at e
  | .ins _ _, _, _, e, _ => by simp [nk] at e
  | .obj _, _, _, e, _ => by simp [nk] at e
  | .fn _, _, _, e, _ => by simp [nk] at e
theorem reps_repNs : ∀ (vs : List Val) (ks : List NestedKey) (xs : List V), nks vs = some ks → Reps w K G A vs xs → RepNs G ks xs
  | [], ks, xs, e, h => by simp only [nks, Option.some.injEq] at e; subst e; exact h
  | v :: vs, ks, xs, e, h => by
    cases h1 : nk v with
    | none => simp [nks, h1] at e
    | some k =>
      cases h2 : nks vs with
      | none => simp [nks, h1, h2] at e
      | some ks' =>
        simp only [nks, h1, h2, Option.some.injEq] at e
        subst e
        obtain ⟨y, ys, rfl, q1, q2⟩ := h
        exact ⟨y, ys, rfl, rep_repN v k y h1 q1, reps_repNs vs ks' ys h2 q2⟩
end
mutual
theorem repN_rep : ∀ (k : NestedKey) (x : V), RepN G k x → Rep w K G A (vk k) x
  | .none, x, h => h
  | .num _, x, h => h
  | .text _, x, h => h
  | .tup ks, x, h => by
    obtain ⟨a, xs, rfl, h1, h2⟩ := h
    exact ⟨a, xs, rfl, h1, repNs_reps ks xs h2⟩
theorem repNs_reps : ∀ (ks : List NestedKey) (xs : List V), RepNs G ks xs → Reps w K G A (vks ks) xs
  | [], xs, h => h
  | k :: ks, xs, h => by
    obtain ⟨y, ys, rfl, h1, h2⟩ := h
    exact ⟨y, ys, rfl, repN_rep k y h1, repNs_reps ks ys h2⟩
end
theorem repD_pt : ∀ {kvs : List (NestedKey × Val)} {es : List DictEntry}, RepD w K G A true kvs es → ∃ xs, PTk w K G A kvs xs ∧ es = xs.map (entryOfKey (nestedKind prog w))
  | [], es, h => by
    rw [show es = [] from h]
    exact ⟨[], .nil, rfl⟩
  | (k, v) :: r, es, h => by
    obtain ⟨u1, u2, y, ds, rfl, ⟨ks, b, rfl, rfl, hn, hd⟩, h2, h3, h4⟩ := h
    obtain ⟨xs, a, b'⟩ := repD_pt h4
    exact ⟨(.tup ks, b, u2) :: xs, .cons ⟨y, ks, rfl, rfl, hn, hd, h2, h3⟩ a, by rw [b']; rfl⟩
theorem pt_repD : ∀ {kvs : List (NestedKey × Val)} {xs : List (NestedKey × Addr × Value)}, PTk w K G A kvs xs → RepD w K G A true kvs (xs.map (entryOfKey (nestedKind prog w)))
  | _, _, .nil => rfl
  | (k, v) :: r, (k', b, u) :: xs, .cons a q => by
    obtain ⟨y, ks, e0, e1, hn, hd, h1, h2⟩ := a
    have e0' : k = .tup ks := e0
    have e1' : k' = k := e1
    subst e1'
    exact ⟨.ref b, u, y, _, rfl, ⟨ks, b, e0', rfl, hn, hd⟩, h1, h2, pt_repD q⟩
theorem PTk.keys : ∀ {kvs : List (NestedKey × Val)} {xs : List (NestedKey × Addr × Value)}, PTk w K G A kvs xs → xs.map (·.1) = kvs.map (·.1)
  | _, _, .nil => rfl
  | p :: _, q :: _, .cons ⟨y, ks, e0, e1, _⟩ r => by rw [List.map_cons, List.map_cons, e1, PTk.keys r]
theorem PTk.length {kvs : List (NestedKey × Val)} {xs : List (NestedKey × Addr × Value)} (h : PTk w K G A kvs xs) : kvs.length = xs.length := Paired.length h
theorem PTk.get {k : NestedKey} : ∀ {kvs : List (NestedKey × Val)} {xs : List (NestedKey × Addr × Value)}, PTk w K G A kvs xs → match dGet kvs k, atKey xs k with
    | some v, some p => ∃ y, RelV y p.2 ∧ Rep w K G A v y
    | none, none => True
    | _, _ => False
  | _, _, .nil => by simp [dGet, atKey]
  | p :: kvs, q :: xs, .cons a r => by
    obtain ⟨y, ks, e0, e1, hn, hd, h1, h2⟩ := a
    have ih := PTk.get (k := k) r
    unfold dGet atKey at ih ⊢
    rw [List.find?_cons, List.find?_cons, e1]
    by_cases e : p.1 = k
    · simp only [e, decide_true, Option.map_some]
      exact ⟨y, h1, h2⟩
    · simp only [decide_eq_false e]
      exact ih
theorem PTk.mapPut {k : NestedKey} {v : Val} {y : V} {u : Value} (hy : RelV y u) (hv : Rep w K G A v y) : ∀ {kvs : List (NestedKey × Val)} {xs : List (NestedKey × Addr × Value)}, PTk w K G A kvs xs →
    PTk w K G A (kvs.map fun p => if p.1 = k then (p.1, v) else p) (xs.map (putAt k u))
  | _, _, .nil => .nil
  | p :: kvs, q :: xs, .cons a r => by
    obtain ⟨z, ks, e0, e1, hn, hd, h1, h2⟩ := a
    refine .cons ?_ (PTk.mapPut hy hv r)
    unfold putAt
    dsimp only
    by_cases e : p.1 = k
    · rw [if_pos e, if_pos (e1.trans e)]
      exact ⟨y, ks, e0, e1, hn, hd, hy, hv⟩
    · rw [if_neg e, if_neg (fun z => e (e1.symm.trans z))]
      exact ⟨z, ks, e0, e1, hn, hd, h1, h2⟩
theorem PTk.put {ks : List NestedKey} {b : Addr} {v : Val} {y : V} {u : Value} (hn : RepN G (.tup ks) (.ref b)) (hd : (NestedKey.tup ks).depth ≤ 8) (hy : RelV y u) (hv : Rep w K G A v y) {kvs : List (NestedKey × Val)} {xs : List (NestedKey × Addr × Value)} (h : PTk w K G A kvs xs) :
    PTk w K G A (dPut kvs (.tup ks) v) (storedH xs (.tup ks) b u) := by
  have g := PTk.get (k := .tup ks) h
  have e : (atKey xs (.tup ks)).isSome = (dGet kvs (.tup ks)).isSome := by
    cases h1 : dGet kvs (.tup ks) <;> cases h2 : atKey xs (.tup ks) <;> simp_all
  unfold dPut storedH
  rw [e]
  by_cases q : (dGet kvs (.tup ks)).isSome = true
  · rw [if_pos q, if_pos q]
    exact PTk.mapPut hy hv h
  · rw [if_neg q, if_neg q]
    exact Paired.snoc h ⟨y, ks, rfl, rfl, hn, hd, hy, hv⟩
theorem PTk.del {k : NestedKey} : ∀ {kvs : List (NestedKey × Val)} {xs : List (NestedKey × Addr × Value)}, PTk w K G A kvs xs → PTk w K G A (dDel kvs k) (withoutH xs k)
  | _, _, .nil => .nil
  | p :: kvs, q :: xs, .cons a r => by
    have ih := PTk.del (k := k) r
    obtain ⟨z, ks, e0, e1, hn, hd, h1, h2⟩ := a
    unfold dDel withoutH at ih ⊢
    rw [List.filter_cons, List.filter_cons, e1]
    by_cases e : p.1 = k
    · simp only [e, ne_eq, not_true, decide_false, if_false, Bool.false_eq_true]
      exact ih
    · simp only [ne_eq, e, not_false_eq_true, decide_true, if_true]
      exact .cons ⟨z, ks, e0, e1, hn, hd, h1, h2⟩ ih
theorem PTk.is {H : Hp} {h : Heap} (hok : HOk prog w H h) (sub : ∀ a u, G a = some u → H a = some u) : ∀ {kvs : List (NestedKey × Val)} {xs : List (NestedKey × Addr × Value)}, PTk w K G A kvs xs → ∀ x ∈ xs, (nestedKind prog w).is h x.1 x.2.1
  | _, _, .nil => fun x hx => by cases hx
  | p :: kvs, q :: xs, .cons a r => fun x hx => by
    rcases List.mem_cons.mp hx with rfl | hx
    · obtain ⟨z, ks, e0, e1, hn, hd, h1, h2⟩ := a
      rw [e1]
      exact ⟨repN_is hok sub p.1 _ _ hn rfl, hd⟩
    · exact PTk.is hok sub r x hx
theorem nodup_dPut {kvs : List (NestedKey × Val)} {k : NestedKey} {v : Val} (h : (kvs.map (·.1)).Nodup) : ((dPut kvs k v).map (·.1)).Nodup := by
  unfold dPut
  by_cases q : (dGet kvs k).isSome = true
  · rw [if_pos q, List.map_map]
    have e : (fun p : NestedKey × Val => p.1) ∘ (fun p => if p.1 = k then (p.1, v) else p) = fun p => p.1 := by
      funext p
      show (if p.1 = k then (p.1, v) else p).1 = p.1
      split <;> rfl
    rw [e]; exact h
  · rw [if_neg q, List.map_append, List.nodup_append]
    refine ⟨h, by simp, fun x hx y hy => ?_⟩
    simp only [List.map_cons, List.map_nil, List.mem_singleton] at hy
    subst hy
    rintro rfl
    obtain ⟨p, hp, e⟩ := List.mem_map.mp hx
    apply q
    unfold dGet
    rw [Option.isSome_map, List.find?_isSome]
    exact ⟨p, hp, by simpa using e⟩
theorem nodup_dDel {kvs : List (NestedKey × Val)} {k : NestedKey} (h : (kvs.map (·.1)).Nodup) : ((dDel kvs k).map (·.1)).Nodup := h.sublist (List.filter_sublist.map _)
theorem length_dPut {kvs : List (NestedKey × Val)} {k : NestedKey} {v : Val} : (dPut kvs k v).length ≤ kvs.length + 1 := by
  unfold dPut
  split <;> simp
/-! ### the dict's object, at a known place -/
/-- what the entries say of the heap -/
def DAt (w : World) (K : PySem.W.Frag) (G : Hp) (A : List Addr) (H : Hp) (a : Addr) (t : Bool) (kvs : List (NestedKey × Val)) : Prop :=
  ∃ es ep, H a = some (dictHO a es ep) ∧ RepD w K G A t kvs es.toList ∧ (kvs.map (·.1)).Nodup ∧ kvs.length ≤ sizeLine ∧ (a == sysModules) = false
theorem dict_obj {H : Hp} {h : Heap} {a : Addr} {es : Array DictEntry} {ep : Nat} (hok : HOk prog w H h) (e : H a = some (dictHO a es ep)) : h.get? a = some (dictO es ep) := (show ObjOk prog w H h a (dictHO a es ep) from hok a _ e).1
theorem dictO_exact {es : Array DictEntry} {ep : Nat} : (dictO es ep).ExactDict := ⟨rfl, rfl, rfl⟩
theorem exact_dictO {o : Obj} {es : Array DictEntry} {ep : Nat} (h : o.ExactDict) (e : o.data = .dict es ep) : o = dictO es ep := by
  obtain ⟨c, d, dt, sl⟩ := o
  obtain ⟨h1, h2, h3⟩ := h
  have h1' : c = _ := h1
  have h2' : d = _ := h2
  have h3' : sl = _ := h3
  have e' : dt = _ := e
  subst h1' h2' h3' e'
  rfl
theorem DAt.int {H : Hp} {h : Heap} {a : Addr} {kvs : List (NestedKey × Val)} (hok : HOk prog w H h) (d : DAt w K G A H a false kvs) : ∃ vs, PK w K G A kvs vs ∧ h.DictOf (mixKind prog w) a vs ∧ vs.length ≤ sizeLine := by
  obtain ⟨es, ep, e, r, nd, ln, _⟩ := d
  obtain ⟨vs, a1, a2, a3⟩ := repD_pk (prog := prog) r
  exact ⟨vs, a1, ⟨_, es, ep, dict_obj hok e, dictO_exact, rfl, fun x hx => a3 x (Array.mem_toList_iff.mpr hx), a2, a1.nodup nd⟩, by rw [← a1.length]; exact ln⟩
theorem DAt.tup {H : Hp} {h : Heap} {a : Addr} {kvs : List (NestedKey × Val)} (hok : HOk prog w H h) (sub : ∀ a u, G a = some u → H a = some u) (d : DAt w K G A H a true kvs) :
    ∃ xs, PTk w K G A kvs xs ∧ h.DictOfH (nestedKind prog w) a xs ∧ xs.length ≤ sizeLine := by
  obtain ⟨es, ep, e, r, nd, ln, _⟩ := d
  obtain ⟨xs, a1, a2⟩ := repD_pt (prog := prog) r
  exact ⟨xs, a1, ⟨_, es, ep, dict_obj hok e, dictO_exact, rfl, a2, a1.is hok sub, by rw [a1.keys]; exact nd⟩, by rw [← a1.length]; exact ln⟩
/-- a new state of the object -/
theorem DAt.ofInt {h : Heap} {a : Addr} {kvs : List (NestedKey × Val)} {vs : List (Key × Value)} (r : PK w K G A kvs vs) (d : h.DictOf (mixKind prog w) a vs) : ∃ es ep, h.get? a = some (dictO es ep) ∧ RepD w K G A false kvs es.toList := by
  obtain ⟨o, es, ep, h1, h2, h3, h4, h5, _⟩ := d
  exact ⟨es, ep, by rw [h1, exact_dictO h2 h3], pk_repD r h5 fun e he => h4 e (Array.mem_toList_iff.mp he)⟩
theorem DAt.ofTup {h : Heap} {a : Addr} {kvs : List (NestedKey × Val)} {xs : List (NestedKey × Addr × Value)} (r : PTk w K G A kvs xs) (d : h.DictOfH (nestedKind prog w) a xs) : ∃ es ep, h.get? a = some (dictO es ep) ∧ RepD w K G A true kvs es.toList := by
  obtain ⟨o, es, ep, h1, h2, h3, h4, _⟩ := d
  exact ⟨es, ep, by rw [h1, exact_dictO h2 h3], by rw [h4]; exact pt_repD r⟩
end
end TL

set_option Elab.async false
set_option linter.all false
set_option maxRecDepth 100000
/-! LTG: the plain operations, run. -/
namespace TL
open PySem PySem.Spec PyProof.Rows L2

/-- a one-place operation's reading -/
def rP1 (X : Cx) (f : P1) : V → Hp → VK → Prop := fun x H Q => ∃ (F : Fr) (G : Hp) (A : List Addr) (τ : Tmp) (s : Sta) (σ : St) (v v' : Val) (fr : Bool), F.w = X.w ∧ F.K = X.K ∧ Rel F G A τ s σ H ∧ View F G A H v x ∧
  prim1 f v = some (v', fr) ∧ ∀ y G' A' H', Le G A G' A' → Got F τ s σ G' A' H' v' fr y → Q y H'
def rP2 (X : Cx) (f : P2) : R2 := fun x y H Q => ∃ (F : Fr) (G : Hp) (A : List Addr) (τ : Tmp) (s : Sta) (σ : St) (v u v' : Val) (fr : Bool), F.w = X.w ∧ F.K = X.K ∧ Rel F G A τ s σ H ∧ View F G A H v x ∧ View F G A H u y ∧
  prim2 f v u = some (v', fr) ∧ ∀ z G' A' H', Le G A G' A' → Got F τ s σ G' A' H' v' fr z → Q z H'
/-- .. of a call's arguments -/
def rC1 (X : Cx) (f : P1) : List V → Hp → VK → Prop := fun xs H Q => ∃ x, xs = [x] ∧ rP1 X f x H Q
def rC2 (X : Cx) (f : P2) : List V → Hp → VK → Prop := fun xs H Q => ∃ x y, xs = [x, y] ∧ rP2 X f x y H Q
theorem opC {X : Cx} {f : Value → Value → Sem Value} {r r' : R2} (h : OpR X f r) (c : ∀ x y H Q, r' x y H Q → r x y H Q) : OpR X f r' := fun pins s σ H x y v u Q I rx ry q => h pins s σ H x y v u Q I rx ry (c x y H Q q)
theorem callC {X : Cx} {f : Value} {r r' : List V → Hp → VK → Prop} (h : CallR X f r) (c : ∀ xs H Q, r' xs H Q → r xs H Q) : CallR X f r' := fun pins s σ H xs us Q I rx q => h pins s σ H xs us Q I rx (c xs H Q q)
theorem callOr {X : Cx} {f : Value} {r r' : List V → Hp → VK → Prop} (h : CallR X f r) (h' : CallR X f r') : CallR X f (fun xs H Q => r xs H Q ∨ r' xs H Q) := fun pins s σ H xs us Q I rx q => q.elim (h pins s σ H xs us Q I rx) (h' pins s σ H xs us Q I rx)
theorem pr_inj {v v' : Val} {b b' : Bool} (h : some (v, b) = some (v', b')) : v = v' ∧ b = b' := by cases h; exact ⟨rfl, rfl⟩
theorem pr_ite {c : Prop} [Decidable c] {v v' : Val} {b b' : Bool} (h : (if c then some (v, b) else none) = some (v', b')) : c ∧ v = v' ∧ b = b' := by
  by_cases q : c
  · rw [if_pos q] at h; exact ⟨q, pr_inj h⟩
  · rw [if_neg q] at h; cases h
theorem pr_map {α : Type} {o : Option α} {g : α → Val × Bool} {p : Val × Bool} (h : o.map g = some p) : ∃ a, o = some a ∧ g a = p := Option.map_eq_some_iff.mp h

section
variable {X : Cx} {F : Fr} {G : Hp} {A : List Addr} {τ : Tmp} {s : Sta} {σ : St} {H : Hp} {Q : VK}
theorem out_v {v : Val} {x : V} (r : Rel F G A τ s σ H) (h : Rep F.w F.K G A v x) (q : ∀ y G' A' H', Le G A G' A' → Got F τ s σ G' A' H' v false y → Q y H') : Q x H := q x G A H Le.refl ⟨r, h⟩
theorem out_i {i : Int} (r : Rel F G A τ s σ H) (q : ∀ y G' A' H', Le G A G' A' → Got F τ s σ G' A' H' (.int i) false y → Q y H') : Q (.int i) H := q _ G A H Le.refl ⟨r, rfl⟩
theorem out_b {b : Bool} (r : Rel F G A τ s σ H) (q : ∀ y G' A' H', Le G A G' A' → Got F τ s σ G' A' H' (.bl b) false y → Q y H') : Q (.bl b) H := q _ G A H Le.refl ⟨r, rfl⟩
theorem out_s {z : Str} (r : Rel F G A τ s σ H) (q : ∀ y G' A' H', Le G A G' A' → Got F τ s σ G' A' H' (.str z) false y → Q y H') : Q (.str z) H := q _ G A H Le.refl ⟨r, rfl⟩
theorem View.rtup {vs : List Val} {x : V} (h : View F G A H (.tup vs) x) : Rep F.w F.K G A (.tup vs) x := h.elim id fun ⟨_, _, _, _, b⟩ => b.elim
/-- a new list -/
theorem out_l {vs : List Val} {xs : List V} {p : Addr} (r : Rel F G A τ s σ H) (h : Reps F.w F.K G A vs xs) (hp : H p = none) (q : ∀ y G' A' H', Le G A G' A' → Got F τ s σ G' A' H' (.lst vs) true y → Q y H') : Q (.ref p) (upd H p (.lst xs)) :=
  q _ G A _ Le.refl ⟨p, rfl, r.layT hp ⟨xs, rfl, h⟩⟩
/-- a new tuple -/
theorem out_t {vs : List Val} {xs : List V} {p : Addr} (r : Rel F G A τ s σ H) (h : Reps F.w F.K G A vs xs) (hp : H p = none) (q : ∀ y G' A' H', Le G A G' A' → Got F τ s σ G' A' H' (.tup vs) false y → Q y H') : Q (.ref p) (upd H p (.tup xs)) := by
  have l : Le G A (upd G p (.tup xs)) A := Le.upd (r.free hp)
  exact q _ _ A _ l ⟨r.layG hp, p, xs, rfl, upd_same, Reps.mono l _ _ h⟩
theorem View.int {i : Int} {x : V} (h : View F G A H (.int i) x) : x = .int i := h.elim id fun ⟨_, _, _, _, b⟩ => b.elim
theorem View.bl {b : Bool} {x : V} (h : View F G A H (.bl b) x) : x = .bl b := h.elim id fun ⟨_, _, _, _, b⟩ => b.elim
theorem View.str {z : Str} {x : V} (h : View F G A H (.str z) x) : x = .str z := h.elim id fun ⟨_, _, _, _, b⟩ => b.elim
theorem View.non {x : V} (h : View F G A H .non x) : x = .non := h.elim id fun ⟨_, _, _, _, b⟩ => b.elim
theorem sqL {K : PySem.W.Frag} {a : Addr} {xs : List V} (h : Rd H a (.lst xs)) : SqL K H a xs := .inl h
theorem sqT {K : PySem.W.Frag} {a : Addr} {xs : List V} (h : H a = some (.tup xs)) : SqT K H a xs := .inl (.inl h)
/-- rows of ints -/
theorem intsOf_some : ∀ {vs : List Val} {ns : List Int}, intsOf vs = some ns → vs = ns.map .int
  | [], ns, h => by simp only [intsOf, Option.some.injEq] at h; subst h; rfl
  | v :: vs, ns, h => by
    cases v with
    | int i =>
      simp only [intsOf, Option.map_eq_some_iff] at h
      obtain ⟨ms, h1, rfl⟩ := h
      rw [intsOf_some h1]; rfl
    | _ => simp [intsOf] at h
theorem intsOf_map (ns : List Int) : intsOf (ns.map .int) = some ns := by
  induction ns with
  | nil => rfl
  | cons n ns ih => simp only [List.map_cons, intsOf, ih, Option.map_some]
theorem reps_ints {w : World} {K : PySem.W.Frag} : ∀ {ns : List Int} {xs : List V}, Reps w K G A (ns.map .int) xs → xs = ns.map V.int
  | [], xs, h => h
  | n :: ns, xs, h => by
    obtain ⟨y, ys, rfl, h1, h2⟩ := h
    rw [show y = .int n from h1, reps_ints h2]; rfl
theorem reps_of_ints {w : World} {K : PySem.W.Frag} (ns : List Int) : Reps w K G A (ns.map .int) (ns.map V.int) := by
  induction ns with
  | nil => rfl
  | cons n ns ih => exact ⟨_, _, rfl, rfl, ih⟩
/-! ### sorted rows of ints -/
theorem insI_perm (x : Int) : ∀ l : List Int, (insI x l).Perm (x :: l)
  | [] => .refl _
  | y :: ys => by
    unfold insI
    split
    · exact .refl _
    · exact ((insI_perm x ys).cons y).trans (.swap x y ys)
theorem isort_perm : ∀ l : List Int, (isort l).Perm l
  | [] => .refl _
  | x :: xs => (insI_perm x _).trans ((isort_perm xs).cons x)
theorem insI_sorted {x : Int} : ∀ {l : List Int}, l.Pairwise (· ≤ ·) → (insI x l).Pairwise (· ≤ ·)
  | [], _ => by simp [insI]
  | y :: ys, h => by
    unfold insI
    rw [List.pairwise_cons] at h
    split
    · rename_i q
      rw [List.pairwise_cons]
      refine ⟨fun z hz => ?_, List.pairwise_cons.mpr h⟩
      rcases List.mem_cons.mp hz with rfl | hz
      · exact q
      · exact Int.le_trans q (h.1 z hz)
    · rename_i q
      rw [List.pairwise_cons]
      refine ⟨fun z hz => ?_, insI_sorted h.2⟩
      rcases List.mem_cons.mp ((insI_perm x ys).mem_iff.mp hz) with rfl | hz
      · omega
      · exact h.1 z hz
theorem isort_sorted : ∀ l : List Int, (isort l).Pairwise (· ≤ ·)
  | [] => .nil
  | x :: xs => insI_sorted (isort_sorted xs)
/-- two sorted rows with the same items are one -/
theorem sorted_same : ∀ {l m : List Int}, l.Perm m → l.Pairwise (· ≤ ·) → m.Pairwise (· ≤ ·) → l = m
  | [], m, p, _, _ => (List.nil_perm.mp p).symm
  | x :: l, m, p, h1, h2 => by
    cases m with
    | nil => exact absurd p (by simp)
    | cons y m =>
      rw [List.pairwise_cons] at h1 h2
      have e : x = y := by
        rcases List.mem_cons.mp (p.mem_iff.mp List.mem_cons_self) with e | e
        · exact e
        · rcases List.mem_cons.mp (p.mem_iff.mpr List.mem_cons_self) with e' | e'
          · exact e'.symm
          · have := h1.1 y e'
            have := h2.1 x e
            omega
      subst e
      rw [sorted_same ((List.perm_cons x).mp p) h1.2 h2.2]
theorem insU_mem {x z : Int} : ∀ {l : List Int}, z ∈ insU x l ↔ z = x ∨ z ∈ l
  | [] => by simp [insU]
  | y :: ys => by
    unfold insU
    split
    · simp
    · split
      · rename_i q; subst q; simp
      · rw [List.mem_cons, insU_mem, List.mem_cons]
        constructor
        · rintro (h | h | h) <;> simp [h]
        · rintro (h | h | h) <;> simp [h]
theorem insU_sorted {x : Int} : ∀ {l : List Int}, l.Pairwise (· < ·) → (insU x l).Pairwise (· < ·)
  | [], _ => by simp [insU]
  | y :: ys, h => by
    have h' := List.pairwise_cons.mp h
    unfold insU
    split
    · rename_i q
      rw [List.pairwise_cons]
      refine ⟨fun z hz => ?_, h⟩
      rcases List.mem_cons.mp hz with rfl | hz
      · exact q
      · exact Int.lt_trans q (h'.1 z hz)
    · split
      · exact h
      · rename_i q1 q2
        rw [List.pairwise_cons]
        refine ⟨fun z hz => ?_, insU_sorted h'.2⟩
        rcases insU_mem.mp hz with rfl | hz
        · omega
        · exact h'.1 z hz
theorem usort_sorted : ∀ l : List Int, (usort l).Pairwise (· < ·)
  | [] => .nil
  | x :: xs => insU_sorted (usort_sorted xs)
theorem usort_mem {z : Int} : ∀ {l : List Int}, z ∈ usort l ↔ z ∈ l
  | [] => by simp [usort]
  | x :: xs => by rw [usort, insU_mem, usort_mem, List.mem_cons]
/-- two strictly sorted rows with the same members are one -/
theorem strict_same : ∀ {l m : List Int}, (∀ z, z ∈ l ↔ z ∈ m) → l.Pairwise (· < ·) → m.Pairwise (· < ·) → l = m
  | [], [], _, _, _ => rfl
  | [], y :: m, p, _, _ => absurd ((p y).mpr List.mem_cons_self) (by simp)
  | x :: l, [], p, _, _ => absurd ((p x).mp List.mem_cons_self) (by simp)
  | x :: l, y :: m, p, h1, h2 => by
    have g1 := List.pairwise_cons.mp h1
    have g2 := List.pairwise_cons.mp h2
    have e : x = y := by
      rcases List.mem_cons.mp ((p x).mp List.mem_cons_self) with e | e
      · exact e
      · rcases List.mem_cons.mp ((p y).mpr List.mem_cons_self) with e' | e'
        · exact e'.symm
        · have := g1.1 y e'
          have := g2.1 x e
          omega
    subst e
    rw [strict_same (fun z => ?_) g1.2 g2.2]
    constructor
    · intro hz
      rcases List.mem_cons.mp ((p z).mp (List.mem_cons_of_mem _ hz)) with rfl | h
      · exact absurd (g1.1 z hz) (Int.lt_irrefl _)
      · exact h
    · intro hz
      rcases List.mem_cons.mp ((p z).mpr (List.mem_cons_of_mem _ hz)) with rfl | h
      · exact absurd (g2.1 z hz) (Int.lt_irrefl _)
      · exact h
theorem maxL_spec : ∀ (xs : List Int) (x : Int), maxL x xs ∈ x :: xs ∧ ∀ y ∈ x :: xs, y ≤ maxL x xs
  | [], x => by simp [maxL]
  | z :: xs, x => by
    obtain ⟨h1, h2⟩ := maxL_spec xs (if x < z then z else x)
    show maxL (if x < z then z else x) xs ∈ _ ∧ ∀ y ∈ _, y ≤ maxL (if x < z then z else x) xs
    have h3 := h2 _ List.mem_cons_self
    refine ⟨?_, fun y hy => ?_⟩
    · rcases List.mem_cons.mp h1 with e | e
      · rw [e]; split <;> simp
      · simp [e]
    · simp only [List.mem_cons] at hy
      rcases hy with rfl | rfl | hy
      · by_cases c : y < z
        · rw [if_pos c] at h3 ⊢; omega
        · rw [if_neg c] at h3 ⊢; omega
      · by_cases c : x < y
        · rw [if_pos c] at h3 ⊢; omega
        · rw [if_neg c] at h3 ⊢; omega
      · exact h2 y (List.mem_cons_of_mem _ hy)
theorem minL_spec : ∀ (xs : List Int) (x : Int), minL x xs ∈ x :: xs ∧ ∀ y ∈ x :: xs, minL x xs ≤ y
  | [], x => by simp [minL]
  | z :: xs, x => by
    obtain ⟨h1, h2⟩ := minL_spec xs (if z < x then z else x)
    show minL (if z < x then z else x) xs ∈ _ ∧ ∀ y ∈ _, minL (if z < x then z else x) xs ≤ y
    have h3 := h2 _ List.mem_cons_self
    refine ⟨?_, fun y hy => ?_⟩
    · rcases List.mem_cons.mp h1 with e | e
      · rw [e]; split <;> simp
      · simp [e]
    · simp only [List.mem_cons] at hy
      rcases hy with rfl | rfl | hy
      · by_cases c : z < y
        · rw [if_pos c] at h3 ⊢; omega
        · rw [if_neg c] at h3 ⊢; omega
      · by_cases c : y < x
        · rw [if_pos c] at h3 ⊢; omega
        · rw [if_neg c] at h3 ⊢; omega
      · exact h2 y (List.mem_cons_of_mem _ hy)
end

/-! ### dicts -/
section
variable {X : Cx} {pins : List (Addr × Obj)} {σ : St} {H G : Hp} {A : List Addr} {s : Shared} {a : Addr} {E : Value → Shared → Prop} {Ar : Around} {kvs : List (NestedKey × Val)} {t : Bool}
theorem dl_small {n : Nat} (h : n ≤ sizeLine) : (n : Int) < 2 ^ 63 := by rw [sizeLine_eq] at h; omega
/-- len(d) -/
theorem dd_len {Q : Value → Shared → Prop} (I : Inv X pins σ H s) (sub : ∀ a u, G a = some u → H a = some u) (d : DAt X.w X.K G A H a t kvs) (h : ∀ tk s', Inv X pins σ H s' → Q (.int kvs.length tk) s') : wpAny (model X.prog X.w) Ar (call (.builtin "len") [.ref a]) Q E s := by
  obtain ⟨es, ep, e, r, nd, ln, lo⟩ := id d
  cases t with
  | false =>
    obtain ⟨vs, p, dd, hl⟩ := d.int I.hok
    refine call_len_dict lo dd (dl_small hl) ?_
    rw [← p.length]
    exact h _ _ (I.tok _)
  | true =>
    obtain ⟨xs, p, dd, hl⟩ := d.tup I.hok sub
    refine call_len_dictH lo dd (dl_small hl) ?_
    rw [← p.length]
    exact h _ _ (I.tok _)
end
end TL

set_option Elab.async false
set_option linter.all false
set_option maxRecDepth 100000
set_option maxHeartbeats 4000000
/-! LTH: the plain operations, run (2). -/
namespace TL
open PySem PySem.Spec PyProof.Rows L2

/-! ### values as data -/
section
variable {w : World} {K : PySem.W.Frag} {G H : Hp} {A : List Addr}
mutual
theorem rep_dp (sub : ∀ a u, G a = some u → H a = some u) : ∀ (n : Nat) (v : Val) (d : PyData) (x : V), pd n v = some d → Rep w K G A v x → Dp K H x d
  | 0, v, _, _, e, _ => by simp [pd] at e
  | n + 1, .non, _, _, e, h => by simp only [pd, Option.some.injEq] at e; subst e; rw [show _ = V.non from h]; exact .non
  | n + 1, .bl _, _, _, e, h => by simp only [pd, Option.some.injEq] at e; subst e; rw [show _ = V.bl _ from h]; exact .bl _
  | n + 1, .int _, _, _, e, h => by simp only [pd, Option.some.injEq] at e; subst e; rw [show _ = V.int _ from h]; exact .int _
  | n + 1, .str z, _, _, e, h => by
    by_cases c : PyData.strOk z = true
    · simp only [pd, if_pos c, Option.some.injEq] at e; subst e; rw [show _ = V.str _ from h]; exact .str _
    · simp [pd, c] at e
  | n + 1, .tup vs, d, x, e, h => by
    simp only [pd, Option.map_eq_some_iff] at e
    obtain ⟨ds, e1, rfl⟩ := e
    obtain ⟨a, xs, rfl, h1, h2⟩ := h
    exact .tup (.inl (.inl (sub _ _ h1))) (reps_dp sub n vs ds xs e1 h2)
  | n + 1, .lst vs, d, x, e, h => by
    simp only [pd, Option.map_eq_some_iff] at e
    obtain ⟨ds, e1, rfl⟩ := e
    obtain ⟨a, u, rfl, h1, xs, rfl, h2⟩ := h
    exact .lst (.inl (rd_up sub h1)) (reps_dp sub n vs ds xs e1 h2)
  | n + 1, .dct _ _, _, _, e, _ => by simp [pd] at e
  | n + 1, .ins _ _, _, _, e, _ => by simp [pd] at e
  | n + 1, .obj _, _, _, e, _ => by simp [pd] at e
  | n + 1, .fn _, _, _, e, _ => by simp [pd] at e
theorem reps_dp (sub : ∀ a u, G a = some u → H a = some u) : ∀ (n : Nat) (vs : List Val) (ds : List PyData) (xs : List V), pds n vs = some ds → Reps w K G A vs xs → DpAll K H xs ds
  | n, [], _, _, e, h => by simp only [pds, Option.some.injEq] at e; subst e; rw [show _ = [] from h]; exact .nil
  | n, v :: vs, ds, _, e, h => by
    cases h1 : pd n v with
    | none => simp [pds, h1] at e
    | some d =>
      cases h2 : pds n vs with
      | none => simp [pds, h1, h2] at e
      | some ds' =>
        simp only [pds, h1, h2, Option.some.injEq] at e
        subst e
        obtain ⟨y, ys, rfl, q1, q2⟩ := h
        exact .cons (rep_dp sub n v d y h1 q1) (reps_dp sub n vs ds' ys h2 q2)
end
mutual
theorem pd_lay : ∀ (n : Nat) (v : Val) (d : PyData), pd n v = some d → d.canLay0 = true ∧ d.depth ≤ n
  | 0, v, _, e => by simp [pd] at e
  | n + 1, .non, _, e => by simp only [pd, Option.some.injEq] at e; subst e; exact ⟨rfl, Nat.zero_le _⟩
  | n + 1, .bl _, _, e => by simp only [pd, Option.some.injEq] at e; subst e; exact ⟨rfl, Nat.zero_le _⟩
  | n + 1, .int _, _, e => by simp only [pd, Option.some.injEq] at e; subst e; exact ⟨rfl, Nat.zero_le _⟩
  | n + 1, .str z, _, e => by
    by_cases c : PyData.strOk z = true
    · simp only [pd, if_pos c, Option.some.injEq] at e; subst e; exact ⟨by simpa [PyData.canLay0] using c, Nat.zero_le _⟩
    · simp [pd, c] at e
  | n + 1, .tup vs, d, e => by
    simp only [pd, Option.map_eq_some_iff] at e
    obtain ⟨ds, e1, rfl⟩ := e
    obtain ⟨h1, h2⟩ := pds_lay n vs ds e1
    exact ⟨by simpa [PyData.canLay0] using h1, by simp only [PyData.depth]; omega⟩
  | n + 1, .lst vs, d, e => by
    simp only [pd, Option.map_eq_some_iff] at e
    obtain ⟨ds, e1, rfl⟩ := e
    obtain ⟨h1, h2⟩ := pds_lay n vs ds e1
    exact ⟨by simpa [PyData.canLay0] using h1, by simp only [PyData.depth]; omega⟩
  | n + 1, .dct _ _, _, e => by simp [pd] at e
  | n + 1, .ins _ _, _, e => by simp [pd] at e
  | n + 1, .obj _, _, e => by simp [pd] at e
  | n + 1, .fn _, _, e => by simp [pd] at e
theorem pds_lay : ∀ (n : Nat) (vs : List Val) (ds : List PyData), pds n vs = some ds → PyData.canLayAll0 ds = true ∧ PyData.depthAll ds ≤ n
  | n, [], _, e => by simp only [pds, Option.some.injEq] at e; subst e; exact ⟨rfl, by simp [PyData.depthAll]⟩
  | n, v :: vs, ds, e => by
    cases h1 : pd n v with
    | none => simp [pds, h1] at e
    | some d =>
      cases h2 : pds n vs with
      | none => simp [pds, h1, h2] at e
      | some ds' =>
        simp only [pds, h1, h2, Option.some.injEq] at e
        subst e
        obtain ⟨a1, a2⟩ := pd_lay n v d h1
        obtain ⟨b1, b2⟩ := pds_lay n vs ds' h2
        exact ⟨by simp [PyData.canLayAll0, a1, b1], by simp only [PyData.depthAll]; omega⟩
end
theorem shaped_of {n : Nat} {d : PyData} (h : d.canLay0 = true ∧ d.depth ≤ n) (hn : n ≤ 64) : SeqAt.shaped d = true := by
  show (d.canLay0 && decide (d.depth ≤ 64)) = true
  rw [Bool.and_eq_true]
  exact ⟨h.1, decide_eq_true (Nat.le_trans h.2 hn)⟩
end
section
variable {F : Fr} {G : Hp} {A : List Addr} {τ : Tmp} {s : Sta} {σ : St} {H : Hp}
theorem View.dp (r : Rel F G A τ s σ H) {n : Nat} {v : Val} {d : PyData} {x : V} (e : pd n v = some d) (h : View F G A H v x) : Dp F.K H x d := by
  rcases h with h | ⟨a, u, rfl, hu, b⟩
  · exact rep_dp r.sub n v d x e h
  · cases v with
    | lst vs =>
      cases n with
      | zero => simp [pd] at e
      | succ n =>
        simp only [pd, Option.map_eq_some_iff] at e
        obtain ⟨ds, e1, rfl⟩ := e
        obtain ⟨xs, rfl, h2⟩ := b
        exact .lst (.inl (.inl hu)) (reps_dp r.sub n vs ds xs e1 h2)
    | dct _ _ => cases n <;> simp [pd] at e
    | ins _ _ => cases n <;> simp [pd] at e
    | _ => exact b.elim
theorem vEq_some {n : Nat} {v u : Val} {b : Bool} (h : vEq n v u = some b) : ∃ d e, pd n v = some d ∧ pd n u = some e ∧ PyData.eqv d e = b := by
  unfold vEq at h
  cases h1 : pd n v with
  | none => rw [h1] at h; cases h
  | some d =>
    cases h2 : pd n u with
    | none => rw [h1, h2] at h; cases h
    | some e => rw [h1, h2] at h; exact ⟨d, e, rfl, rfl, Option.some.inj h⟩
theorem vIn_some {v : Val} {vs : List Val} {b : Bool} (h : vIn v vs = some b) : ∃ d ds, pd DEP v = some d ∧ pds DEP vs = some ds ∧ (ds.any fun z => PyData.eqv z d) = b := by
  unfold vIn at h
  cases h1 : pd DEP v with
  | none => rw [h1] at h; cases h
  | some d =>
    cases h2 : pds DEP vs with
    | none => rw [h1, h2] at h; cases h
    | some e => rw [h1, h2] at h; exact ⟨d, e, rfl, rfl, Option.some.inj h⟩
end

/-! ### comparisons -/
section
variable {X : Cx}
theorem bo_eq (hu : X.A.units + 64 < cLine) : OpR X (compareOp .Eq) (rP2 X .eq) := by
  refine opC (op_eqD hu) fun x y H Q h => ?_
  obtain ⟨F, G, A, τ, s, σ, v, u, v', fr, hw, hK, r, vx, vy, e, q⟩ := h
  obtain ⟨b, e1, e2⟩ := pr_map e
  obtain ⟨d, d2, h1, h2, rfl⟩ := vEq_some e1
  obtain ⟨rfl, rfl⟩ := Prod.mk.inj e2
  exact ⟨d, d2, hK ▸ vx.dp r h1, hK ▸ vy.dp r h2, shaped_of (pd_lay _ _ _ h1) (by decide), shaped_of (pd_lay _ _ _ h2) (by decide), out_b r q⟩
theorem bo_ne (hu : X.A.units + 64 < cLine) : OpR X (compareOp .NotEq) (rP2 X .ne) := by
  refine opC (op_neD hu) fun x y H Q h => ?_
  obtain ⟨F, G, A, τ, s, σ, v, u, v', fr, hw, hK, r, vx, vy, e, q⟩ := h
  obtain ⟨b, e1, e2⟩ := pr_map e
  obtain ⟨d, d2, h1, h2, rfl⟩ := vEq_some e1
  obtain ⟨rfl, rfl⟩ := Prod.mk.inj e2
  exact ⟨d, d2, hK ▸ vx.dp r h1, hK ▸ vy.dp r h2, shaped_of (pd_lay _ _ _ h1) (by decide), shaped_of (pd_lay _ _ _ h2) (by decide), out_b r q⟩
/-! ### arithmetic -/
theorem bo_sub : OpR X (binaryOp .Sub) (rP2 X .sub) := by
  refine opC op_sub fun x y H Q h => ?_
  obtain ⟨F, G, A, τ, s, σ, v, u, v', fr, hw, hK, r, vx, vy, e, q⟩ := h
  cases v <;> cases u <;> try (exact absurd (show (none : Option (Val × Bool)) = some _ from e) nofun)
  obtain ⟨rfl, rfl⟩ := pr_inj e
  exact ⟨_, _, vx.int, vy.int, out_i r q⟩
/-- list + list -/
def rCatL : R2 := fun x y H Q => ∃ l b xs zs, x = .ref l ∧ y = .ref b ∧ Rd H l (.lst xs) ∧ Rd H b (.lst zs) ∧ xs.length + zs.length ≤ sizeLine ∧ ∀ p, H p = none → Q (.ref p) (upd H p (.lst (xs ++ zs)))
theorem op_catL : OpR X (binaryOp .Add) rCatL := by
  intro pins s σ H x y v u Q I rx ry h
  obtain ⟨l, b, xs, zs, rfl, rfl, hH, hB, hz, q⟩ := h
  cases rx
  cases ry
  obtain ⟨z, its, n, r, e⟩ := hH.ok I.hok
  obtain ⟨z2, its2, n2, r2, e2⟩ := hB.ok I.hok
  have l1 := r.length
  have l2 := r2.length
  refine PySem.P.add_list e e2 ?_ (by rw [List.size_toArray, List.size_toArray]; omega)
  have ea : its.toArray ++ its2.toArray = (its ++ its2).toArray := by simp
  rw [ea]
  exact ⟨.ref _, _, I.lnew (t' := s.toks) (r.append r2) (by rw [List.length_append]; omega), rfl, q _ I.fresh⟩
theorem bo_add : OpR X (binaryOp .Add) (rP2 X .add) := by
  refine opC (op_add.or (op_add_str.or (op_catL.or op_catA))) fun x y H Q h => ?_
  obtain ⟨F, G, A, τ, s, σ, v, u, v', fr, hw, hK, r, vx, vy, e, q⟩ := h
  cases v <;> cases u <;> try (exact absurd (show (none : Option (Val × Bool)) = some _ from e) nofun)
  · obtain ⟨rfl, rfl⟩ := pr_inj e
    exact .inl ⟨_, _, vx.int, vy.int, out_i r q⟩
  · obtain ⟨hc, rfl, rfl⟩ := pr_ite e
    exact .inr (.inl ⟨_, _, vx.str, vy.str, hc, out_s r q⟩)
  · rename_i vs us
    obtain ⟨hc, rfl, rfl⟩ := pr_ite e
    have hx := vx.rtup
    have hy := vy.rtup
    obtain ⟨a, xs, rfl, h1, h2⟩ := id hx
    obtain ⟨b, ys, rfl, h3, h4⟩ := id hy
    have l1 := h2.length
    have l2 := h4.length
    refine .inr (.inr (.inr ⟨a, b, xs, ys, rfl, rfl, sqT (r.sub _ _ h1), sqT (r.sub _ _ h3), by omega, fun e => ?_, fun _ e => ?_, fun _ _ p hp => ?_⟩))
    · have e' : vs = [] := List.eq_nil_of_length_eq_zero (by rw [← l1, e]; rfl)
      subst e'
      exact out_v r hy q
    · have e' : us = [] := List.eq_nil_of_length_eq_zero (by rw [← l2, e]; rfl)
      subst e'
      rw [List.append_nil] at q
      exact out_v r hx q
    · exact out_t r (h2.append h4) hp q
  · obtain ⟨hc, rfl, rfl⟩ := pr_ite e
    obtain ⟨a, xs, rfl, h1, h2⟩ := vx.lst r
    obtain ⟨b, ys, rfl, h3, h4⟩ := vy.lst r
    have l1 := h2.length
    have l2 := h4.length
    exact .inr (.inr (.inl ⟨a, b, xs, ys, rfl, rfl, h1, h3, by omega, fun p hp => out_l r (h2.append h4) hp q⟩))
end
end TL

set_option Elab.async false
set_option linter.all false
set_option maxRecDepth 100000
set_option maxHeartbeats 4000000
/-! LTI: the plain operations, run (3): dicts, order. -/
namespace TL
open PySem PySem.Spec PyProof.Rows L2

/-! ### dicts -/
section
variable {F : Fr} {G : Hp} {A : List Addr} {τ : Tmp} {s : Sta} {σ : St} {H : Hp}
theorem View.dat (r : Rel F G A τ s σ H) {t : Bool} {kvs : List (NestedKey × Val)} {x : V} (h : View F G A H (.dct t kvs) x) : ∃ a, x = .ref a ∧ DAt F.w F.K G A H a t kvs := by
  obtain ⟨a, es, ep, rfl, e, q⟩ := h.dct r
  exact ⟨a, rfl, es, ep, e, q⟩
/-- a key's value -/
def KeyV (G : Hp) (t : Bool) (k : NestedKey) (x : V) : Prop := match t with
  | false => ∃ i, k = .num i ∧ x = .int i
  | true => ∃ ks b, k = .tup ks ∧ x = .ref b ∧ RepN G k (.ref b) ∧ k.depth ≤ 8
theorem keyV {t : Bool} {v : Val} {k : NestedKey} {x : V} (e : keyOf t v = some k) (h : View F G A H v x) : KeyV G t k x := by
  cases t with
  | false =>
    cases v with
    | int i => cases e; exact ⟨i, rfl, h.int⟩
    | _ => exact absurd (show (none : Option NestedKey) = some _ from e) nofun
  | true =>
    cases v with
    | tup vs =>
      have e' : (match nk (.tup vs) with | some k => if k.depth ≤ 8 then some k else none | none => none) = some k := e
      cases h1 : nk (.tup vs) with
      | none => rw [h1] at e'; cases e'
      | some k' =>
        rw [h1] at e'
        by_cases c : k'.depth ≤ 8
        · have e2 : (if k'.depth ≤ 8 then some k' else none) = some k := e'
          rw [if_pos c] at e2
          cases e2
          have hr := rep_repN _ _ _ h1 h.rtup
          have h1' := h1
          simp only [nk, Option.map_eq_some_iff] at h1'
          obtain ⟨ks, _, rfl⟩ := h1'
          obtain ⟨b, xs, rfl, _⟩ := id hr
          exact ⟨ks, b, rfl, rfl, hr, c⟩
        · have e2 : (if k'.depth ≤ 8 then some k' else none) = some k := e'
          rw [if_neg c] at e2
          cases e2
    | _ => exact absurd (show (none : Option NestedKey) = some _ from e) nofun
end
section
variable {X : Cx} {pins : List (Addr × Obj)} {σ : St} {H G : Hp} {A : List Addr} {s : Shared} {a : Addr} {E : Value → Shared → Prop} {Ar : Around} {kvs : List (NestedKey × Val)} {t : Bool} {k : NestedKey} {x : V} {u : Value}
/-- what a dict of the layer says -/
theorem dd_in {Q : Value → Shared → Prop} (hu : Ar.units + 16 < cLine) (I : Inv X pins σ H s) (sub : ∀ a u, G a = some u → H a = some u) (d : DAt X.w X.K G A H a t kvs) (hk : KeyV G t k x) (rx : RelV x u)
    (h : ∀ tk, Q (.bool (dGet kvs k).isSome) { s with toks := tk }) : wpAny (model X.prog X.w) Ar (compareOp .In u (.ref a)) Q E s := by
  obtain ⟨es, ep, e, r, nd, ln, lo⟩ := id d
  cases t with
  | false =>
    obtain ⟨i, rfl, rfl⟩ := hk
    obtain ⟨tk, rfl⟩ := rx
    obtain ⟨vs, p, dd, hl⟩ := d.int I.hok
    refine wpAny_in_of (knd := mixKind X.prog X.w) (k := Sum.inl i) (keyIs_int i tk) lo dd.mapOf ?_
    have g := p.get (i := i)
    have e2 : (valueAt vs (Sum.inl i)).isSome = (dGet kvs (.num i)).isSome := by
      cases h1 : dGet kvs (.num i) <;> cases h2 : valueAt vs (Sum.inl i) <;> simp_all
    rw [e2]
    exact h _
  | true =>
    obtain ⟨ks, b, rfl, rfl, hn, hd⟩ := hk
    cases rx
    obtain ⟨xs, p, dd, hl⟩ := d.tup I.hok sub
    refine wpAny_in_heap (knd := nestedKind X.prog X.w) (k := .tup ks) (show Ar.units + 1 + 8 < cLine by omega) ⟨repN_is I.hok sub _ _ _ hn rfl, hd⟩ lo dd ?_
    have g := p.get (k := .tup ks)
    have e2 : (atKey xs (.tup ks)).isSome = (dGet kvs (.tup ks)).isSome := by
      cases h1 : dGet kvs (.tup ks) <;> cases h2 : atKey xs (.tup ks) <;> simp_all
    rw [e2]
    exact h _
theorem dd_notin {Q : Value → Shared → Prop} (hu : Ar.units + 16 < cLine) (I : Inv X pins σ H s) (sub : ∀ a u, G a = some u → H a = some u) (d : DAt X.w X.K G A H a t kvs) (hk : KeyV G t k x) (rx : RelV x u)
    (h : ∀ tk, Q (.bool (!(dGet kvs k).isSome)) { s with toks := tk }) : wpAny (model X.prog X.w) Ar (compareOp .NotIn u (.ref a)) Q E s := by
  obtain ⟨es, ep, e, r, nd, ln, lo⟩ := id d
  cases t with
  | false =>
    obtain ⟨i, rfl, rfl⟩ := hk
    obtain ⟨tk, rfl⟩ := rx
    obtain ⟨vs, p, dd, hl⟩ := d.int I.hok
    refine wpAny_notIn_of (knd := mixKind X.prog X.w) (k := Sum.inl i) (keyIs_int i tk) lo dd.mapOf ?_
    have g := p.get (i := i)
    have e2 : (valueAt vs (Sum.inl i)).isSome = (dGet kvs (.num i)).isSome := by
      cases h1 : dGet kvs (.num i) <;> cases h2 : valueAt vs (Sum.inl i) <;> simp_all
    rw [e2]
    exact h _
  | true =>
    obtain ⟨ks, b, rfl, rfl, hn, hd⟩ := hk
    cases rx
    obtain ⟨xs, p, dd, hl⟩ := d.tup I.hok sub
    refine wpAny_notIn_heap (knd := nestedKind X.prog X.w) (k := .tup ks) (show Ar.units + 1 + 8 < cLine by omega) ⟨repN_is I.hok sub _ _ _ hn rfl, hd⟩ lo dd ?_
    have g := p.get (k := .tup ks)
    have e2 : (atKey xs (.tup ks)).isSome = (dGet kvs (.tup ks)).isSome := by
      cases h1 : dGet kvs (.tup ks) <;> cases h2 : atKey xs (.tup ks) <;> simp_all
    rw [e2]
    exact h _
/-- d[k] -/
theorem dd_item {Q : Value → Shared → Prop} {v : Val} (hu : Ar.units + 16 < cLine) (I : Inv X pins σ H s) (sub : ∀ a u, G a = some u → H a = some u) (d : DAt X.w X.K G A H a t kvs) (hk : KeyV G t k x) (rx : RelV x u) (hv : dGet kvs k = some v)
    (h : ∀ y z tk, RelV y z → Rep X.w X.K G A v y → Q z { s with toks := tk }) : wpAny (model X.prog X.w) Ar (getItem (.ref a) u) Q E s := by
  obtain ⟨es, ep, e, r, nd, ln, lo⟩ := id d
  cases t with
  | false =>
    obtain ⟨i, rfl, rfl⟩ := hk
    obtain ⟨tk, rfl⟩ := rx
    obtain ⟨vs, p, dd, hl⟩ := d.int I.hok
    have g := p.get (i := i)
    rw [hv] at g
    cases h2 : valueAt vs (Sum.inl i) with
    | none => rw [h2] at g; exact g.elim
    | some z =>
      rw [h2] at g
      obtain ⟨y, h3, h4⟩ := g
      exact wpAny_getItem_of (knd := mixKind X.prog X.w) (k := Sum.inl i) (keyIs_int i tk) dd.mapOf h2 (h y z _ h3 h4)
  | true =>
    obtain ⟨ks, b, rfl, rfl, hn, hd⟩ := hk
    cases rx
    obtain ⟨xs, p, dd, hl⟩ := d.tup I.hok sub
    have g := p.get (k := .tup ks)
    rw [hv] at g
    cases h2 : atKey xs (.tup ks) with
    | none => rw [h2] at g; exact g.elim
    | some z =>
      rw [h2] at g
      obtain ⟨y, h3, h4⟩ := g
      exact wpAny_getItem_heap (knd := nestedKind X.prog X.w) (k := .tup ks) (show Ar.units + 1 + 8 < cLine by omega) ⟨repN_is I.hok sub _ _ _ hn rfl, hd⟩ dd h2 (h y z.2 _ h3 h4)
/-- d.get(k, v) -/
theorem dd_getd {Q : Value → Shared → Prop} {v0 : Val} {y0 : V} {u0 : Value} (hu : Ar.units + 16 < cLine) (I : Inv X pins σ H s) (sub : ∀ a u, G a = some u → H a = some u) (d : DAt X.w X.K G A H a t kvs) (hk : KeyV G t k x) (rx : RelV x u)
    (r0 : RelV y0 u0) (q0 : Rep X.w X.K G A v0 y0)
    (h : ∀ y z tk, RelV y z → Rep X.w X.K G A ((dGet kvs k).getD v0) y → Q z { s with toks := tk }) : wpAny (model X.prog X.w) Ar (call (.builtin "dict.get") [.ref a, u, u0]) Q E s := by
  obtain ⟨es, ep, e, r, nd, ln, lo⟩ := id d
  have hT : s.TypeIs (.ref a) "dict" := ⟨_, dict_obj I.hok e, rfl⟩
  cases t with
  | false =>
    obtain ⟨i, rfl, rfl⟩ := hk
    obtain ⟨tk, rfl⟩ := rx
    obtain ⟨vs, p, dd, hl⟩ := d.int I.hok
    have g := p.get (i := i)
    refine call_meetsIn PySem.F.slot_dict_get hT PySem.F.entry_dict_get (PySem.F.args_dict_get_3 _ _ _) (meets_dict_get_default (mixKind X.prog X.w) a (k := Sum.inl i) (key := .int i tk) (keyIs_int i tk) lo u0) ⟨_, dd.mapOf, ?_⟩
    cases h1 : dGet kvs (.num i) with
    | none =>
      rw [h1] at g
      cases h2 : valueAt vs (Sum.inl i) with
      | none => exact h y0 u0 _ r0 (by rw [h1]; exact q0)
      | some z => rw [h2] at g; exact g.elim
    | some v =>
      rw [h1] at g
      cases h2 : valueAt vs (Sum.inl i) with
      | none => rw [h2] at g; exact g.elim
      | some z =>
        rw [h2] at g
        obtain ⟨y, h3, h4⟩ := g
        exact h y z _ h3 (by rw [h1]; exact h4)
  | true =>
    obtain ⟨ks, b, rfl, rfl, hn, hd⟩ := hk
    cases rx
    obtain ⟨xs, p, dd, hl⟩ := d.tup I.hok sub
    have g := p.get (k := .tup ks)
    refine call_meetsIn PySem.F.slot_dict_get hT PySem.F.entry_dict_get (PySem.F.args_dict_get_3 _ _ _) (meetsH_dict_get_default (nestedKind X.prog X.w) a b lo u0) ⟨show Ar.units + 1 + 8 < cLine by omega, .tup ks, xs, ⟨repN_is I.hok sub _ _ _ hn rfl, hd⟩, dd, ?_⟩
    cases h1 : dGet kvs (.tup ks) with
    | none =>
      rw [h1] at g
      cases h2 : atKey xs (.tup ks) with
      | none => exact h y0 u0 _ r0 (by rw [h1]; exact q0)
      | some z => rw [h2] at g; exact g.elim
    | some v =>
      rw [h1] at g
      cases h2 : atKey xs (.tup ks) with
      | none => rw [h2] at g; exact g.elim
      | some z =>
        rw [h2] at g
        obtain ⟨y, h3, h4⟩ := g
        exact h y z.2 _ h3 (by rw [h1]; exact h4)
/-- bool of a dict whose keys are objects: by its len -/
theorem truth_dh {κ : Type} [DecidableEq κ] {pr : Program} {wo : World} {kn : HeapKind pr wo κ} {Ar : Around} {Ex : Value → Shared → Prop} {sh : Shared} {b : Addr} {zs : List (κ × Addr × Value)} {Qt : Bool → Shared → Prop} (h1 : (b == sysModules) = false)
    (h2 : sh.heap.DictOfH kn b zs) (h3 : (zs.length : Int) < 2 ^ 63) (h4 : Qt (!zs.isEmpty) { sh with toks := sh.toks + 1 + 1 }) : wpAny (model pr wo) Ar (truthy (.ref b)) Qt Ex sh := by
  have e0 : ((zs.length : Int) != 0) = !zs.isEmpty := by
    cases zs with
    | nil => rfl
    | cons z zs => simp; omega
  have run : wpAny (model pr wo) Ar (runValue (.builtin "len" ⟨[.ref b], []⟩)) (fun v s1 => v = .int zs.length (sh.toks + 1) ∧ Qt (!zs.isEmpty) s1) Ex sh := by
    refine wpAny_runValue (codeAny_builtin entry_len ?_)
    rw [Around.under_plainId plain_len _]
    refine wpAny_mono (wpAny_len_body_dictH (Q := fun v s1 => v = .int zs.length (sh.toks + 1) ∧ Qt (!zs.isEmpty) s1) h1 h2 h3 ⟨rfl, h4⟩) (fun fi s1 q => ?_) fun _ _ q => q
    obtain ⟨v, rfl, q⟩ := q
    exact q
  unfold truthy
  refine wpAny_bind (wpAny_callSpecial?_none (name := Str.ofString "__bool__") h2.typeIs noBool_dict ?_)
  refine wpAny_bind (wpAny_specialOf (name := Str.ofString "__len__") h2.typeIs F.slot_dict_len.lookup ?_)
  refine wpAny_bind (wpAny_mono run (fun v s1 q => ?_) fun _ _ q => q)
  obtain ⟨rfl, q⟩ := q
  exact wpAny_pure (e0 ▸ q)
/-- a dict is truthy -/
theorem dd_truth {Q : Bool → Shared → Prop} (I : Inv X pins σ H s) (sub : ∀ a u, G a = some u → H a = some u) (d : DAt X.w X.K G A H a t kvs) (h : ∀ tk, Q (!kvs.isEmpty) { s with toks := tk }) : wpAny (model X.prog X.w) Ar (truthy (.ref a)) Q E s := by
  obtain ⟨es, ep, e, r, nd, ln, lo⟩ := id d
  cases t with
  | false =>
    obtain ⟨vs, p, dd, hl⟩ := d.int I.hok
    refine wpAny_truthy_dict lo dd (dl_small hl) ?_
    have e2 : (!vs.isEmpty) = !kvs.isEmpty := by
      have := p.length
      cases vs <;> cases kvs <;> simp_all
    rw [e2]
    exact h _
  | true =>
    obtain ⟨xs, p, dd, hl⟩ := d.tup I.hok sub
    refine truth_dh lo dd (dl_small hl) ?_
    have e2 : (!xs.isEmpty) = !kvs.isEmpty := by
      have := p.length
      cases xs <;> cases kvs <;> simp_all
    rw [e2]
    exact h _
/-- the object behind a write -/
theorem dd_write {h' : Heap} {es' : Array DictEntry} {ep' tk : Nat} (I : Inv X pins σ H s) (d : DAt X.w X.K G A H a t kvs) (sb : Heap.SameBut a s.heap h') (e' : h'.get? a = some (dictO es' ep')) :
    Inv X pins σ (upd H a (dictHO a es' ep')) { s with heap := h', toks := tk } := by
  obtain ⟨es, ep, e, _⟩ := id d
  exact I.write (x := a) (e := a) (by rw [e]; trivial) (.inl rfl) (fun b u hb hu => (sb.2 b hb).trans hu) ⟨_, e'⟩ ⟨e', ⟨_, e'⟩, fun h1 h2 p k => k _ p⟩
theorem dd_set {Q : Unit → Shared → Prop} {v : Val} {y : V} {z : Value} (hu : Ar.units + 16 < cLine) (I : Inv X pins σ H s) (sub : ∀ a u, G a = some u → H a = some u) (d : DAt X.w X.K G A H a t kvs) (hk : KeyV G t k x) (rx : RelV x u)
    (ry : RelV y z) (hv : Rep X.w X.K G A v y) (hl : kvs.length < sizeLine)
    (h : ∀ es' ep' s', Inv X pins σ (upd H a (dictHO a es' ep')) s' → RepD X.w X.K G A t (dPut kvs k v) es'.toList → Q () s') : wpAny (model X.prog X.w) Ar (setItem (.ref a) u z) Q E s := by
  obtain ⟨es, ep, e, r, nd, ln, lo⟩ := id d
  cases t with
  | false =>
    obtain ⟨i, rfl, rfl⟩ := hk
    obtain ⟨tk, rfl⟩ := rx
    obtain ⟨vs, p, dd, hl2⟩ := d.int I.hok
    refine wpAny_setItem_pairs (knd := mixKind X.prog X.w) (k := Sum.inl i) (keyIs_int i tk) dd (fun h' dd' sb => ?_) hl2
    obtain ⟨es', ep', e', r'⟩ := DAt.ofInt (p.put ry hv) dd'
    exact h es' ep' _ (dd_write I d sb e') r'
  | true =>
    obtain ⟨ks, b, rfl, rfl, hn, hd⟩ := hk
    cases rx
    obtain ⟨xs, p, dd, hl2⟩ := d.tup I.hok sub
    refine wpAny_setItem_heap (knd := nestedKind X.prog X.w) (k := .tup ks) (show Ar.units + 1 + 8 < cLine by omega) ⟨repN_is I.hok sub _ _ _ hn rfl, hd⟩ dd (fun h' dd' sb => ?_) hl2
    obtain ⟨es', ep', e', r'⟩ := DAt.ofTup (p.put hn hd ry hv) dd'
    exact h es' ep' _ (dd_write I d sb e') r'
theorem dd_del {Q : Unit → Shared → Prop} (hu : Ar.units + 16 < cLine) (I : Inv X pins σ H s) (sub : ∀ a u, G a = some u → H a = some u) (d : DAt X.w X.K G A H a t kvs) (hk : KeyV G t k x) (rx : RelV x u)
    (hv : (dGet kvs k).isSome = true)
    (h : ∀ es' ep' s', Inv X pins σ (upd H a (dictHO a es' ep')) s' → RepD X.w X.K G A t (dDel kvs k) es'.toList → Q () s') : wpAny (model X.prog X.w) Ar (delItem (.ref a) u) Q E s := by
  obtain ⟨es, ep, e, r, nd, ln, lo⟩ := id d
  have hT : s.TypeIs (.ref a) "dict" := ⟨_, dict_obj I.hok e, rfl⟩
  obtain ⟨v, hv'⟩ := Option.isSome_iff_exists.mp hv
  cases t with
  | false =>
    obtain ⟨i, rfl, rfl⟩ := hk
    obtain ⟨tk, rfl⟩ := rx
    obtain ⟨vs, p, dd, hl2⟩ := d.int I.hok
    have g := p.get (i := i)
    refine wpAny_delItem_slot hT (by decide) F.slot_dict_delitem (call_meetsIn F.slot_dict_delitem hT F.entry_dict_delitem (F.args_dict_delitem_2 _ _) (meets_dict_delitem_pairs (mixKind X.prog X.w) a (k := Sum.inl i) (keyIs_int i tk))
      ⟨vs, dd, hl2, ?_, fun h' dd' sb => ?_⟩)
    · rw [hv'] at g
      cases h2 : valueAt vs (Sum.inl i) with
      | none => rw [h2] at g; exact g.elim
      | some z => rfl
    · obtain ⟨es', ep', e', r'⟩ := DAt.ofInt (p.del (i := i)) dd'
      exact h es' ep' _ (dd_write I d sb e') r'
  | true =>
    obtain ⟨ks, b, rfl, rfl, hn, hd⟩ := hk
    cases rx
    obtain ⟨xs, p, dd, hl2⟩ := d.tup I.hok sub
    have g := p.get (k := .tup ks)
    rw [hv'] at g
    cases h2 : atKey xs (.tup ks) with
    | none => rw [h2] at g; exact g.elim
    | some z =>
      refine wpAny_delItem_heap (knd := nestedKind X.prog X.w) (k := .tup ks) (show Ar.units + 1 + 8 < cLine by omega) ⟨repN_is I.hok sub _ _ _ hn rfl, hd⟩ lo dd h2 (fun h' dd' sb => ?_) hl2
      obtain ⟨es', ep', e', r'⟩ := DAt.ofTup (p.del (k := .tup ks)) dd'
      exact h es' ep' _ (dd_write I d sb e') r'
end
end TL

set_option Elab.async false
set_option linter.all false
set_option maxRecDepth 100000
set_option maxHeartbeats 4000000
/-! LTJ: the plain operations, run (4): every two-place operation. -/
namespace TL
open PySem PySem.Spec PyProof.Rows L2
section
variable {X : Cx}
theorem Reps.rep {w : World} {K : PySem.W.Frag} {G : Hp} {A : List Addr} {vs : List Val} {xs : List V} (h : Reps w K G A vs xs) : ∀ n : Nat, Reps w K G A (rep vs n) (List.replicate n xs).flatten
  | 0 => rfl
  | n + 1 => by
    show Reps w K G A (List.replicate (n + 1) vs).flatten _
    rw [List.replicate_succ, List.flatten_cons, List.replicate_succ, List.flatten_cons]
    exact h.append (Reps.rep h n)
theorem rep_any (its : List Value) (m : Nat) : List.foldl (fun x1 x2 => x1 ++ x2) #[] (List.replicate (if its.toArray.isEmpty = true then 0 else m) its.toArray) = (List.replicate m its).flatten.toArray := by
  cases its with
  | nil =>
    show List.foldl _ #[] (List.replicate 0 _) = _
    simp
  | cons a b => rw [if_neg (by simp), size_rep]
theorem ints_of {F : Fr} {G : Hp} {A : List Addr} {H : Hp} {i : Int} {x : V} (h : View F G A H (.int i) x) : x = .int i := h.int
theorem tuple_mul1 (l : Addr) (items : Array Value) (n : Nat) (dd : Option Addr) (sl : Array (Option Value)) (x : Int) (u : Tok) (c0 : (decide (x < -(2 ^ 63)) || decide (x ≥ 2 ^ 63)) = false) (c1 : (items.isEmpty || x == 1) = true) :
    Meets (Builtin.«tuple.__mul__» ⟨[.ref l, .int x u], []⟩) (fun _ R s => s.heap.get? l = some { cls := .type "tuple", dict := dd, data := .seq items n, slots := sl } ∧
      R (.ok (.ret (Value.ref l))) s) :=
  .of_wp fun prog w A R s h => by
    obtain ⟨hp, g, d, tk, os⟩ := s
    obtain ⟨hl, h⟩ := h
    have f1 := AutoSeq1.idx_int
    wp_walk using wpAny_loadPart' hl
    repeat (first
      | (refine wpAny_ite_false (decide_eq_false (by rw [c0]; exact Bool.false_ne_true)) ?_; wp_walk using wpAny_loadPart' hl)
      | (refine wpAny_ite_true (decide_eq_true c1) ?_; wp_walk using wpAny_loadPart' hl))
    all_goals first | exact ⟨_, rfl, h⟩ | skip
def rRepT1 (K : PySem.W.Frag) : R2 := fun x y H Q => ∃ l xs, x = .ref l ∧ y = .int 1 ∧ SqT K H l xs ∧ Q (.ref l) H
theorem op_repT1 {X : Cx} : OpR X (binaryOp .Mult) (rRepT1 X.K) := by
  intro pins s σ H x y v u Q I rx ry h
  obtain ⟨l, xs, rfl, rfl, hT, q⟩ := h
  cases rx
  obtain ⟨t, rfl⟩ := ry
  obtain ⟨its, r, ⟨⟨cls, dd, data, sl⟩, ho, hc, n, hd⟩, hs⟩ := I.tuple hT
  simp only at hc hd
  subst hc hd
  refine wpAny_binaryOp_repeat_ref (T := "tuple") (U := "int") (by decide) ⟨_, ho, rfl⟩ (fun s' => typeIs_int s' 1 t) noFill_tuple_mul F.fills_int_mul F.slot_int_rmul repeat_tuple F.slot_int_index.lookup
    (call_meets F.slot_int_rmul (typeIs_int s 1 t) F.entry_int_rmul (F.args_int_rmul_2 _ _) (int_rmul_tuple 1 t l its.toArray n dd sl)
      ⟨ho, rfl, ⟨_, ho, rfl⟩, call_meets F.slot_tuple_mul ⟨_, ho, rfl⟩ F.entry_tuple_mul (F.args_tuple_mul_2 _ _) (tuple_mul1 l its.toArray n dd sl 1 t (by decide) (by simp)) ⟨ho, ?_⟩⟩)
  exact ⟨.ref l, H, I, rfl, q⟩
theorem bo_mul : OpR X (binaryOp .Mult) (rP2 X .mul) := by
  intro pins sh σ0 H x y vx0 uy0 Q I rx ry h
  obtain ⟨F, G, A, τ, s, σ, v, u, v', fr, hw, hK, r, vx, vy, e, q⟩ := h
  cases v <;> cases u <;> try (exact absurd (show (none : Option (Val × Bool)) = some _ from e) nofun)
  · rename_i i j
    obtain ⟨hc, rfl, rfl⟩ := pr_ite e
    simp only [mulOk, Bool.or_eq_true, Bool.and_eq_true, decide_eq_true_eq] at hc
    rcases hc with hc | hc | hc
    · exact op_mul pins sh σ0 H x y vx0 uy0 Q I rx ry ⟨i, j, vx.int, vy.int, .inl hc, out_i r q⟩
    · exact op_mul pins sh σ0 H x y vx0 uy0 Q I rx ry ⟨i, j, vx.int, vy.int, .inr hc, out_i r q⟩
    · exact op_mulW pins sh σ0 H x y vx0 uy0 Q I rx ry ⟨i, j, vx.int, vy.int, hc, out_i r q⟩
  · rename_i vs k
    obtain ⟨⟨h1, h2, h3, h4⟩, rfl, rfl⟩ := pr_ite e
    obtain ⟨a, xs, rfl, g1, g2⟩ := vx.tup r
    have l1 := g2.length
    by_cases k1 : k = 1
    · subst k1
      have e1 : rep vs (1 : Int).toNat = vs := by show (List.replicate 1 vs).flatten = vs; simp
      rw [e1] at q
      exact op_repT1 pins sh σ0 H _ y vx0 uy0 Q I rx ry ⟨a, xs, rfl, vy.int, sqT g1, out_v r vx.rtup q⟩
    refine op_repT pins sh σ0 H _ y vx0 uy0 Q I rx ry ⟨a, k, xs, rfl, vy.int, sqT g1, fun e => h4 (by rw [← l1, e]; rfl), by omega, h2, by omega, fun p hp => out_t r ?_ hp q⟩
    exact Reps.rep g2 k.toNat
  · rename_i vs k
    obtain ⟨⟨h12, h3⟩, rfl, rfl⟩ := pr_ite e
    obtain ⟨h1, h2⟩ := smallI_iff.mp h12
    obtain ⟨a, xs, rfl, g1, g2⟩ := vx.lst r
    have l1 := g2.length
    have ey := vy.int
    subst ey
    cases rx
    obtain ⟨t, rfl⟩ := ry
    obtain ⟨z, its, n, rv, eo⟩ := g1.ok I.hok
    have hl := rv.length
    have hz : its.toArray.size * k.toNat ≤ sizeLine := by rw [List.size_toArray, ← hl, l1]; exact h3
    have c1 : ¬ (!Builtin.List.listFitsIndex k) = true := by
      rw [fitsIndex_both (by omega) (by omega)]; exact Bool.false_ne_true
    have c2 : ¬ its.toArray.size * k.toNat > (2 ^ 63 - 1) / 8 := by
      rw [sizeLine_eq] at hz; omega
    have c3 : ¬ Builtin.List.listTooLong (its.toArray.size * k.toNat) = true := by
      rw [notLongL hz]; exact Bool.false_ne_true
    have tl : ∀ s' : Shared, s'.heap.get? a = some { cls := .type "list", data := .seq its.toArray n } → s'.TypeIs (.ref a) "list" := fun s' h => ⟨_, h, rfl⟩
    have m1 := AutoListH.list___mul___list_int_3 a its.toArray n k t c1 c2 c3
    have m2 := int___rmul___int_list k t a its.toArray n
    have lr : (List.replicate k.toNat xs).flatten.length ≤ sizeLine := by
      rw [PyProof.Rows.lm_len_rep_flat, Nat.mul_comm, l1]; exact h3
    refine wpAny_binaryOp_repeat_ref (by decide) (tl _ eo) (fun s' => typeIs_int s' k t) noFill_list_mul PySem.F.fills_int_mul PySem.F.slot_int_rmul repeat_list PySem.F.slot_int_index.lookup ?_
    refine call_meets PySem.F.slot_int_rmul (typeIs_int sh k t) PySem.F.entry_int_rmul (PySem.F.args_int_rmul_2 _ _) m2 ⟨eo, rfl, tl _ eo, ?_⟩
    refine call_meets PySem.F.slot_list_mul (tl _ eo) PySem.F.entry_list_mul (PySem.F.args_list_mul_2 _ _) m1 ⟨eo, ?_⟩
    rw [rep_any]
    exact ⟨.ref _, _, I.lnew (t' := sh.toks) (rv.rep k.toNat) lr, rfl, out_l r (Reps.rep g2 k.toNat) I.fresh q⟩
theorem bo_fdiv : OpR X (binaryOp .FloorDiv) (rP2 X .fdiv) := by
  refine opC op_fdivW fun x y H Q h => ?_
  obtain ⟨F, G, A, τ, s, σ, v, u, v', fr, hw, hK, r, vx, vy, e, q⟩ := h
  cases v <;> cases u <;> try (exact absurd (show (none : Option (Val × Bool)) = some _ from e) nofun)
  obtain ⟨hc, rfl, rfl⟩ := pr_ite e
  exact ⟨_, _, vx.int, vy.int, hc, out_i r q⟩
theorem bo_mod : OpR X (binaryOp .Mod) (rP2 X .mod) := by
  refine opC op_mod fun x y H Q h => ?_
  obtain ⟨F, G, A, τ, s, σ, v, u, v', fr, hw, hK, r, vx, vy, e, q⟩ := h
  cases v <;> cases u <;> try (exact absurd (show (none : Option (Val × Bool)) = some _ from e) nofun)
  obtain ⟨hc, rfl, rfl⟩ := pr_ite e
  exact ⟨_, _, vx.int, vy.int, hc, out_i r q⟩
theorem bo_pow : OpR X (binaryOp .Pow) (rP2 X .pow) := by
  refine opC op_pow fun x y H Q h => ?_
  obtain ⟨F, G, A, τ, s, σ, v, u, v', fr, hw, hK, r, vx, vy, e, q⟩ := h
  cases v <;> cases u <;> try (exact absurd (show (none : Option (Val × Bool)) = some _ from e) nofun)
  obtain ⟨⟨h1, h2, h3⟩, rfl, rfl⟩ := pr_ite e
  exact ⟨_, _, vx.int, vy.int, ⟨h1, by omega, h3⟩, out_i r q⟩
/-! ### in, not in -/
theorem bo_in (hu : X.A.units + 65 < cLine) : OpR X (compareOp .In) (rP2 X .inn) := by
  intro pins sh σ0 H x y vx0 uy0 Q I rx ry h
  obtain ⟨⟨w, K, H0, G0, A0, l0⟩, G, A, τ, s, σ, v, u, v', fr, hw, hK, r, vx, vy, e, q⟩ := h
  dsimp only at hw hK
  subst hw hK
  cases u with
  | lst us =>
    obtain ⟨b, e1, e2⟩ := pr_map e
    obtain ⟨rfl, rfl⟩ := Prod.mk.inj e2
    obtain ⟨d, ds, h1, h2, rfl⟩ := vIn_some e1
    have h3 : pd (DEP + 1) (.lst us) = some (.list ds) := by simp only [pd, h2, Option.map_some]
    exact op_inD hu pins sh σ0 H x y vx0 uy0 Q I rx ry ⟨d, ds, vx.dp r h1, vy.dp r h3, shaped_of (pd_lay _ _ _ h1) (by decide), shaped_of (pd_lay _ _ _ h3) (by decide), out_b r q⟩
  | tup us =>
    obtain ⟨b, e1, e2⟩ := pr_map e
    obtain ⟨rfl, rfl⟩ := Prod.mk.inj e2
    obtain ⟨d, ds, h1, h2, rfl⟩ := vIn_some e1
    have h3 : pd (DEP + 1) (.tup us) = some (.tuple ds) := by simp only [pd, h2, Option.map_some]
    obtain ⟨as, r1⟩ := Dp.reads I d x vx0 (vx.dp r h1) rx
    obtain ⟨bs, r2⟩ := Dp.reads I (.tuple ds) y uy0 (vy.dp r h3) ry
    exact SeqAt.in_tuple_reads r2 r1 (SeqAt.canLay_of_shaped (shaped_of (pd_lay _ _ _ h3) (by decide))) (SeqAt.canLay_of_shaped (shaped_of (pd_lay _ _ _ h1) (by decide))) (room_in_shaped (shaped_of (pd_lay _ _ _ h1) (by decide)) hu) ⟨.bl _, H, I, rfl, out_b r q⟩
  | dct t kvs =>
    obtain ⟨k, e1, e2⟩ := pr_map e
    obtain ⟨rfl, rfl⟩ := Prod.mk.inj e2
    obtain ⟨a, rfl, d⟩ := vy.dat r
    cases (show uy0 = Value.ref a from ry)
    exact dd_in (by omega) I r.sub d (keyV e1 vx) rx fun tk => ⟨.bl _, H, I.tok _, rfl, out_b r q⟩
  | _ => cases v <;> exact absurd (show (none : Option (Val × Bool)) = some _ from e) nofun
theorem bo_notin (hu : X.A.units + 65 < cLine) : OpR X (compareOp .NotIn) (rP2 X .notin) := by
  intro pins sh σ0 H x y vx0 uy0 Q I rx ry h
  obtain ⟨⟨w, K, H0, G0, A0, l0⟩, G, A, τ, s, σ, v, u, v', fr, hw, hK, r, vx, vy, e, q⟩ := h
  dsimp only at hw hK
  subst hw hK
  cases u with
  | lst us =>
    obtain ⟨b, e1, e2⟩ := pr_map e
    obtain ⟨rfl, rfl⟩ := Prod.mk.inj e2
    obtain ⟨d, ds, h1, h2, rfl⟩ := vIn_some e1
    have h3 : pd (DEP + 1) (.lst us) = some (.list ds) := by simp only [pd, h2, Option.map_some]
    exact op_notInD hu pins sh σ0 H x y vx0 uy0 Q I rx ry ⟨d, ds, vx.dp r h1, vy.dp r h3, shaped_of (pd_lay _ _ _ h1) (by decide), shaped_of (pd_lay _ _ _ h3) (by decide), out_b r q⟩
  | tup us =>
    obtain ⟨b, e1, e2⟩ := pr_map e
    obtain ⟨rfl, rfl⟩ := Prod.mk.inj e2
    obtain ⟨d, ds, h1, h2, rfl⟩ := vIn_some e1
    have h3 : pd (DEP + 1) (.tup us) = some (.tuple ds) := by simp only [pd, h2, Option.map_some]
    obtain ⟨as, r1⟩ := Dp.reads I d x vx0 (vx.dp r h1) rx
    obtain ⟨bs, r2⟩ := Dp.reads I (.tuple ds) y uy0 (vy.dp r h3) ry
    exact SeqAt.notIn_tuple_reads r2 r1 (SeqAt.canLay_of_shaped (shaped_of (pd_lay _ _ _ h3) (by decide))) (SeqAt.canLay_of_shaped (shaped_of (pd_lay _ _ _ h1) (by decide))) (room_in_shaped (shaped_of (pd_lay _ _ _ h1) (by decide)) hu) ⟨.bl _, H, I, rfl, out_b r q⟩
  | dct t kvs =>
    obtain ⟨k, e1, e2⟩ := pr_map e
    obtain ⟨rfl, rfl⟩ := Prod.mk.inj e2
    obtain ⟨a, rfl, d⟩ := vy.dat r
    cases (show uy0 = Value.ref a from ry)
    exact dd_notin (by omega) I r.sub d (keyV e1 vx) rx fun tk => ⟨.bl _, H, I.tok _, rfl, out_b r q⟩
  | _ => cases v <;> exact absurd (show (none : Option (Val × Bool)) = some _ from e) nofun
/-! ### o[k] -/
theorem atV_get {vs : List Val} {i : Int} {v : Val} (h : atV vs i = some v) {w : World} {K : PySem.W.Frag} {G : Hp} {A : List Addr} {xs : List V} (g : Reps w K G A vs xs) : ∃ x, atI xs i = some x ∧ Rep w K G A v x := by
  unfold atV at h
  cases e : ixN vs.length i with
  | none => rw [e] at h; cases h
  | some j =>
    rw [e] at h
    obtain ⟨x, h1, h2⟩ := g.get (show vs[j]? = some v from h)
    refine ⟨x, ?_, h2⟩
    unfold atI
    rw [g.length, e]
    exact h1
theorem bo_idx (hu : X.A.units + 65 < cLine) : IxR X (rP2 X .idx) := by
  intro value slice pins sh σ0 H x y vx0 uy0 Q I rx ry h hs
  obtain ⟨⟨w, K, H0, G0, A0, l0⟩, G, A, τ, s, σ, v, u, v', fr, hw, hK, r, vx, vy, e, q⟩ := h
  dsimp only at hw hK
  subst hw hK
  cases v with
  | lst vs =>
    cases u <;> try (exact absurd (show (none : Option (Val × Bool)) = some _ from e) nofun)
    obtain ⟨z, e1, e2⟩ := pr_map e
    obtain ⟨rfl, rfl⟩ := Prod.mk.inj e2
    obtain ⟨a, xs, rfl, h1, h2⟩ := vx.lst r
    obtain ⟨x, h3, h4⟩ := atV_get e1 h2
    exact ix_list value slice pins sh σ0 H _ y vx0 uy0 Q I rx ry ⟨a, xs, _, x, rfl, vy.int, sqL h1, h3, out_v r h4 q⟩ hs
  | tup vs =>
    cases u <;> try (exact absurd (show (none : Option (Val × Bool)) = some _ from e) nofun)
    obtain ⟨z, e1, e2⟩ := pr_map e
    obtain ⟨rfl, rfl⟩ := Prod.mk.inj e2
    obtain ⟨a, xs, rfl, h1, h2⟩ := vx.tup r
    obtain ⟨x, h3, h4⟩ := atV_get e1 h2
    exact ix_tup value slice pins sh σ0 H _ y vx0 uy0 Q I rx ry ⟨a, xs, _, x, rfl, vy.int, sqT h1, h3, out_v r h4 q⟩ hs
  | dct t kvs =>
    have e' : ((keyOf t u).bind fun k => (dGet kvs k).map fun x => (x, false)) = some (v', fr) := e
    obtain ⟨k, e1, e2⟩ := Option.bind_eq_some_iff.mp e'
    obtain ⟨z, e3, e4⟩ := pr_map e2
    obtain ⟨rfl, rfl⟩ := Prod.mk.inj e4
    obtain ⟨a, rfl, d⟩ := vx.dat r
    cases (show vx0 = Value.ref a from rx)
    obtain ⟨es, ep, eo, _⟩ := id d
    refine tail_any ⟨_, dict_obj I.hok eo, rfl⟩ PySem.F.slot_dict_getitem.lookup (dd_item (by omega) I r.sub d (keyV e1 vy) ry e3 fun y' z' tk h1 h2 => ⟨y', H, I.tok _, h1, out_v r h2 q⟩) hs
  | _ => cases u <;> exact absurd (show (none : Option (Val × Bool)) = some _ from e) nofun
/-! ### max, min of two -/
theorem bo_max (hc : X.calm = true) : CallR X (.builtin "max") (rC2 X .max) := by
  refine callC (call_max2 hc) fun xs H Q h => ?_
  obtain ⟨x, y, rfl, F, G, A, τ, s, σ, v, u, v', fr, hw, hK, r, vx, vy, e, q⟩ := h
  cases v <;> cases u <;> try (exact absurd (show (none : Option (Val × Bool)) = some _ from e) nofun)
  obtain ⟨rfl, rfl⟩ := pr_inj e
  exact ⟨_, _, by rw [vx.int, vy.int], out_i r q⟩
theorem bo_min (hc : X.calm = true) : CallR X (.builtin "min") (rC2 X .min) := by
  refine callC (call_min2 hc) fun xs H Q h => ?_
  obtain ⟨x, y, rfl, F, G, A, τ, s, σ, v, u, v', fr, hw, hK, r, vx, vy, e, q⟩ := h
  cases v <;> cases u <;> try (exact absurd (show (none : Option (Val × Bool)) = some _ from e) nofun)
  obtain ⟨rfl, rfl⟩ := pr_inj e
  exact ⟨_, _, by rw [vx.int, vy.int], out_i r q⟩
end
end TL

set_option Elab.async false
set_option linter.all false
set_option maxRecDepth 100000
set_option maxHeartbeats 4000000
/-! LTK: order of values. -/
namespace TL
open PySem PySem.Spec PyProof.Rows L2
def eAt (n : Nat) (xs ys : List Val) (j : Nat) : Bool := match xs[j]?, ys[j]? with
  | some x, some y => (vEq n x y).getD true
  | _, _ => true
def rAt (n : Nat) (xs ys : List Val) (j : Nat) : Bool := match xs[j]?, ys[j]? with
  | some x, some y => (vLt n x y).getD false
  | _, _ => false
theorem lexAt_shift {e r : Nat → Bool} {z : Bool} : ∀ (k i : Nat), Ob.lexAt e r z (i + 1) k = Ob.lexAt (fun j => e (j + 1)) (fun j => r (j + 1)) z i k
  | 0, _ => rfl
  | k + 1, i => by rw [Ob.lexAt_succ, Ob.lexAt_succ, lexAt_shift k (i + 1)]
theorem vLts_cons {n : Nat} {x y : Val} {xs ys : List Val} {b : Bool} (h : vLts n (x :: xs) (y :: ys) = some b) : ∃ c d, vEq n x y = some c ∧ vLts n xs ys = some d ∧ (c = true → b = d) ∧ (c = false → vLt n x y = some b) := by
  simp only [vLts] at h
  cases h1 : vEq n x y with
  | none => rw [h1] at h; cases h
  | some c =>
    cases h2 : vLts n xs ys with
    | none => rw [h1, h2] at h; cases c <;> cases h
    | some d =>
      rw [h1, h2] at h
      cases c with
      | true => cases h; exact ⟨true, _, rfl, rfl, fun _ => rfl, nofun⟩
      | false => exact ⟨false, d, rfl, rfl, nofun, fun _ => h⟩
theorem lexAt_vLts {n : Nat} : ∀ {xs ys : List Val} {b : Bool}, vLts n xs ys = some b → Ob.lexAt (eAt n xs ys) (rAt n xs ys) (decide (xs.length < ys.length)) 0 (min xs.length ys.length) = b
  | [], [], b, h => by simp only [vLts, Option.some.injEq] at h; subst h; rfl
  | [], _ :: _, b, h => by
    simp only [vLts, Option.some.injEq] at h; subst h
    rw [List.length_nil, Nat.zero_min, Ob.lexAt_zero]; simp
  | _ :: _, [], b, h => by
    simp only [vLts, Option.some.injEq] at h; subst h
    rw [List.length_nil, Nat.min_zero, Ob.lexAt_zero]; simp
  | x :: xs, y :: ys, b, h => by
    obtain ⟨c, d, h1, h2, h3, h4⟩ := vLts_cons h
    have ih := lexAt_vLts h2
    have em : min (x :: xs).length (y :: ys).length = min xs.length ys.length + 1 := by simp only [List.length_cons]; omega
    have ez : decide ((x :: xs).length < (y :: ys).length) = decide (xs.length < ys.length) := by simp
    rw [em, ez, Ob.lexAt_succ, lexAt_shift]
    have e1 : (fun j => eAt n (x :: xs) (y :: ys) (j + 1)) = eAt n xs ys := by funext j; simp [eAt]
    have e2 : (fun j => rAt n (x :: xs) (y :: ys) (j + 1)) = rAt n xs ys := by funext j; simp [rAt]
    have e3 : eAt n (x :: xs) (y :: ys) 0 = c := by simp [eAt, h1]
    rw [e1, e2, e3]
    cases c with
    | true => rw [if_pos rfl, ih, h3 rfl]
    | false =>
      rw [if_neg Bool.false_ne_true]
      simp [rAt, h4 rfl]
theorem vLts_at {n : Nat} : ∀ {xs ys : List Val} {b : Bool}, vLts n xs ys = some b → ∀ (j : Nat) (x y : Val), xs[j]? = some x → ys[j]? = some y → ∃ c, vEq n x y = some c ∧ (c = false → ∃ d, vLt n x y = some d)
  | [], _, _, _, j, x, y, h1, _ => by simp at h1
  | _ :: _, [], _, _, j, x, y, _, h2 => by simp at h2
  | x' :: xs, y' :: ys, b, h, j, x, y, h1, h2 => by
    obtain ⟨c, d, g1, g2, g3, g4⟩ := vLts_cons h
    cases j with
    | zero =>
      simp at h1 h2
      subst h1 h2
      exact ⟨c, g1, fun e => ⟨_, g4 e⟩⟩
    | succ j => exact vLts_at g2 j x y (by simpa using h1) (by simpa using h2)
section
variable {X : Cx} {pins : List (Addr × Obj)} {σ : St} {H G : Hp} {A : List Addr} {s : Shared}
theorem eq_at (I : Inv X pins σ H s) (sub : ∀ a u, G a = some u → H a = some u) {n : Nat} {v u : Val} {b : Bool} {x y : V} {vx uy : Value} {Ar : Around} (e : vEq n v u = some b) (hu : Ar.units + n < cLine) (h1 : Rep X.w X.K G A v x) (h2 : Rep X.w X.K G A u y) (rx : RelV x vx) (ry : RelV y uy) :
    PySem.SeqAt.EqAt Ar s vx uy b := by
  obtain ⟨d, d2, g1, g2, rfl⟩ := vEq_some e
  obtain ⟨as, r1⟩ := Dp.reads I d x vx (rep_dp sub n v d x g1 h1) rx
  obtain ⟨bs, r2⟩ := Dp.reads I d2 y uy (rep_dp sub n u d2 y g2 h2) ry
  have l1 := pd_lay n v d g1
  have l2 := pd_lay n u d2 g2
  exact PySem.SeqAt.eqAt_reads d d2 Ar s vx uy as bs r1 r2 l1.1 l2.1 (by omega)
theorem lt_at (I : Inv X pins σ H s) (sub : ∀ a u, G a = some u → H a = some u) : ∀ (n : Nat) {v u : Val} {b : Bool} {x y : V} {vx uy : Value} {Ar : Around}, vLt n v u = some b → Ar.units + n < cLine → Rep X.w X.K G A v x → Rep X.w X.K G A u y → RelV x vx → RelV y uy →
    Ob.RcOp .Lt Ar s vx uy b
  | 0, _, _, _, _, _, _, _, _, e, _, _, _, _, _ => by simp [vLt] at e
  | n + 1, v, u, b, x, y, vx, uy, Ar, e, hu, h1, h2, rx, ry => by
    cases v <;> cases u <;> try (exact absurd (show (none : Option Bool) = some _ from e) nofun)
    · have e' : some (decide _) = some b := e
      cases e'
      rw [show x = _ from h1] at rx
      rw [show y = _ from h2] at ry
      obtain ⟨t, rfl⟩ := rx
      obtain ⟨t', rfl⟩ := ry
      exact Ob.RcOp.lt_int _ _ t t'
    · rename_i vs us
      have e' : vLts n vs us = some b := e
      obtain ⟨a, xs, rfl, g1, g2⟩ := h1
      obtain ⟨a', ys, rfl, k1, k2⟩ := h2
      cases rx
      cases ry
      obtain ⟨o, its, m, o1, o2, o3, rv⟩ := tup_at I.hok (sub _ _ g1)
      obtain ⟨o', its', m', p1, p2, p3, rv'⟩ := tup_at I.hok (sub _ _ k1)
      have l1 := rv.length
      have l2 := rv'.length
      have m1 := g2.length
      have m2 := k2.length
      have key : ∀ j (h1 : j < its.size) (h2 : j < its'.size), ∃ v u x y, vs[j]? = some v ∧ us[j]? = some u ∧ Rep X.w X.K G A v x ∧ Rep X.w X.K G A u y ∧ RelV x its[j] ∧ RelV y its'[j] := fun j h1 h2 => by
        have q1 : j < vs.length := by rw [← m1, l1, Array.length_toList]; exact h1
        have q2 : j < us.length := by rw [← m2, l2, Array.length_toList]; exact h2
        obtain ⟨x, f1, f2⟩ := g2.get (List.getElem?_eq_getElem q1)
        obtain ⟨y, f3, f4⟩ := k2.get (List.getElem?_eq_getElem q2)
        obtain ⟨z, f5, f6⟩ := rv.get f1
        obtain ⟨z', f7, f8⟩ := rv'.get f3
        refine ⟨_, _, x, y, List.getElem?_eq_getElem q1, List.getElem?_eq_getElem q2, f2, f4, ?_, ?_⟩
        · rw [Array.getElem?_toList, Array.getElem?_eq_getElem h1] at f5; cases f5; exact f6
        · rw [Array.getElem?_toList, Array.getElem?_eq_getElem h2] at f7; cases f7; exact f8
      have z := Ob.RcOp.tuples_lt (A := Ar) (s := s) (l := a) (b := a') (items := its) (items2 := its') (e := eAt n vs us) (r := rAt n vs us) ⟨o, o1, o2, m, o3⟩ ⟨o', p1, p2, m', p3⟩ (by omega)
        (fun j h1 h2 => by
          obtain ⟨v, u, x, y, q1, q2, r1, r2, rx, ry⟩ := key j h1 h2
          obtain ⟨c, f1, f2⟩ := vLts_at e' j v u q1 q2
          have := eq_at I sub f1 (Ar := Ar.in1) (show Ar.units + 1 + n < cLine by omega) r1 r2 rx ry
          simpa [eAt, q1, q2, f1] using this)
        (fun j h1 h2 he => by
          obtain ⟨v, u, x, y, q1, q2, r1, r2, rx, ry⟩ := key j h1 h2
          obtain ⟨c, f1, f2⟩ := vLts_at e' j v u q1 q2
          have hc : c = false := by simpa [eAt, q1, q2, f1] using he
          obtain ⟨d, f3⟩ := f2 hc
          have := lt_at I sub n f3 (Ar := Ar.in1) (show Ar.units + 1 + n < cLine by omega) r1 r2 rx ry
          simpa [rAt, q1, q2, f3] using this)
      have es : its.size = vs.length := by rw [← m1, l1, Array.length_toList]
      have es' : its'.size = us.length := by rw [← m2, l2, Array.length_toList]
      rw [es, es', lexAt_vLts e'] at z
      exact z
end
section
variable {X : Cx}
theorem bo_lt (hu : X.A.units + 65 < cLine) : OpR X (compareOp .Lt) (rP2 X .lt) := by
  intro pins sh σ0 H x y vx0 uy0 Q I rx ry h
  obtain ⟨⟨w, K, H0, G0, A0, l0⟩, G, A, τ, s, σ, v, u, v', fr, hw, hK, r, vx, vy, e, q⟩ := h
  dsimp only at hw hK
  subst hw hK
  obtain ⟨b, e1, e2⟩ := pr_map e
  obtain ⟨rfl, rfl⟩ := Prod.mk.inj e2
  have h1 : Rep X.w X.K G A v x := by
    cases v with
    | lst _ => cases u <;> exact absurd (show (none : Option Bool) = some _ from e1) nofun
    | dct _ _ => cases u <;> exact absurd (show (none : Option Bool) = some _ from e1) nofun
    | ins _ _ => cases u <;> exact absurd (show (none : Option Bool) = some _ from e1) nofun
    | _ => exact vx.elim id fun ⟨_, _, _, _, b⟩ => b.elim
  have h2 : Rep X.w X.K G A u y := by
    cases u with
    | lst _ => cases v <;> exact absurd (show (none : Option Bool) = some _ from e1) nofun
    | dct _ _ => cases v <;> exact absurd (show (none : Option Bool) = some _ from e1) nofun
    | ins _ _ => cases v <;> exact absurd (show (none : Option Bool) = some _ from e1) nofun
    | _ => exact vy.elim id fun ⟨_, _, _, _, b⟩ => b.elim
  exact lt_at I r.sub DEP e1 (Ar := X.A) (show X.A.units + 8 < cLine by omega) h1 h2 rx ry _ _ _ _ ⟨.bl b, H, I, rfl, out_b r q⟩
theorem bo_gt : OpR X (compareOp .Gt) (rP2 X .gt) := by
  refine opC op_gt fun x y H Q h => ?_
  obtain ⟨F, G, A, τ, s, σ, v, u, v', fr, hw, hK, r, vx, vy, e, q⟩ := h
  cases v <;> cases u <;> try (exact absurd (show (none : Option (Val × Bool)) = some _ from e) nofun)
  obtain ⟨rfl, rfl⟩ := pr_inj e
  exact ⟨_, _, vx.int, vy.int, out_b r q⟩
theorem bo_le : OpR X (compareOp .LtE) (rP2 X .le) := by
  refine opC op_le fun x y H Q h => ?_
  obtain ⟨F, G, A, τ, s, σ, v, u, v', fr, hw, hK, r, vx, vy, e, q⟩ := h
  cases v <;> cases u <;> try (exact absurd (show (none : Option (Val × Bool)) = some _ from e) nofun)
  obtain ⟨rfl, rfl⟩ := pr_inj e
  exact ⟨_, _, vx.int, vy.int, out_b r q⟩
theorem bo_ge : OpR X (compareOp .GtE) (rP2 X .ge) := by
  refine opC op_ge fun x y H Q h => ?_
  obtain ⟨F, G, A, τ, s, σ, v, u, v', fr, hw, hK, r, vx, vy, e, q⟩ := h
  cases v <;> cases u <;> try (exact absurd (show (none : Option (Val × Bool)) = some _ from e) nofun)
  obtain ⟨rfl, rfl⟩ := pr_inj e
  exact ⟨_, _, vx.int, vy.int, out_b r q⟩
end
end TL

set_option Elab.async false
set_option linter.all false
set_option maxRecDepth 100000
set_option maxHeartbeats 4000000
/-! LTL: sets of ints, made from lists. -/
namespace TL
open PySem PySem.Spec PyProof.Rows L2
section
variable {P : Program} {w : World} {A : Around} {E : Value → Shared → Prop} {s : Shared}
abbrev so0 (w : World) : Obj := { cls := .type "set", dict := none, data := .set #[] 0 (.fresh 0 0 (!w.params.followText "set-order")) }
theorem set_of_list {l : Addr} {its : Array Value} (ns : List Int) {Q : Value → Shared → Prop} (ha : A.handled = none) (hl : s.heap.IsList l its) (hi : IntsAre its.toList ns) (hz : ns.length + 1 < scanBound)
    (hQ : ∀ (g : Heap) (tk n : Nat), SetR w g s.heap.objs.size (fun j => decide (j ∈ ns)) n → n ≤ ns.length → (∀ b o, s.heap.get? b = some o → g.get? b = some o) → Q (.ref s.heap.objs.size) { s with heap := g, toks := tk }) :
    wpAny (model P w) A (call (.type "set") [.ref l]) Q E s := by
  have sz : its.size = ns.length := by
    have := IntsAre.length hi
    rwa [Array.length_toList] at this
  obtain ⟨c, tl, mro⟩ := PySem.F.called_set.mro; have made := PySem.F.called_set.made; have sub := PySem.F.called_set.sub
  refine wpAny_call (codeAny_of_tree (show wpAny _ _ (callAny (.type "set") _) _ _ _ from ?_))
  refine wpAny_pure ⟨Code.quiet_builtin _ (by decide +kernel), codeAny_builtin PySem.F.entry_type_call ?_⟩
  rw [Around.under_plain (weight_type_call_type "set" [.ref l] []) rfl]; have f1 := PySem.F.called_set.notType; have f2 := PySem.F.called_set.canCreate
  have f3 := PySem.F.typeCall_set_1 (.ref l); repeat (any_goals (first | assumption | wp_step))

  refine codeAny_mono (code_set_led1 (.ref l) (E := E) (Q₁ := fun ob s1 => ob = .ref s.heap.objs.size ∧ s1 = { s with heap := s.heap.push (so0 w) }) ⟨rfl, rfl⟩) fun r s1 hr => ?_
  cases r with
  | error e => exact hr
  | ok fl =>
    cases fl with
    | ret obj =>
      obtain ⟨rfl, rfl⟩ := hr
      have hS : (s.heap.push (so0 w)).get? s.heap.objs.size = some (so0 w) := Heap.get?_push_size _ rfl
      have hT : Shared.TypeIs { s with heap := s.heap.push (so0 w) } (.ref s.heap.objs.size) "set" := ⟨_, hS, rfl⟩
      have g1 := PySem.F.called_set.init.lookup; have g2 := PySem.F.called_set.init.bind (.ref s.heap.objs.size); repeat (any_goals (first | assumption | wp_step))

      refine codeAny_mono (codeAny_call_builtin (R := wants (fun r s2 => r = .none ∧ ∃ g tk n, s2 = { s with heap := g, toks := tk } ∧ SetR w g s.heap.objs.size (fun j => decide (j ∈ ns)) n ∧ n ≤ ns.length ∧
          (∀ b o, s.heap.get? b = some o → g.get? b = some o)) E) PySem.F.called_set.init.plain PySem.F.entry_set_init (check_set_init_1 hT ?_)) fun r2 s2 hr2 => ?_
      · obtain ⟨⟨oc, od, odt, osl⟩, hol, hcl, nl, hdl⟩ := hl
        simp only at hcl hdl; subst hcl; subst hdl
        have hol' : (s.heap.push (so0 w)).get? l = some { cls := .type "list", dict := od, data := .seq its nl, slots := osl } := Heap.get?_push_of_some _ hol
        have k1 := PySem.F.sub_list_set; have k2 := PySem.F.sub_list_frozenset; have k3 : (Value.type "list" == Value.type "dict") = false := by decide
        have hl1 : (s.heap.push (so0 w)).IsList l its := ⟨_, hol', rfl, nl, rfl⟩
        unfold Builtin.«set.__init__» noKeywords Builtin.Frozenset.updateFrom; generalize hPI : pyIter = PI
        wp_walk; subst hPI

        refine wpAny_pyIter_list hl1 (wpAny_bind (wpAny_runValue ?_))
        have hlt : l < s.heap.objs.size := Heap.lt_size hol; have hh : A.in1.in1.in1.handled = none := by simp [ha]
        have hp : (s.heap.push (so0 w)).objs.size = s.heap.objs.size + 1 := Heap.size_push ..
        have ne : l ≠ (s.heap.push (so0 w)).objs.size := by rw [hp]; exact Nat.ne_of_lt (Nat.lt_succ_of_lt hlt)
        have nf : s.heap.objs.size ∉ [(s.heap.push (so0 w)).objs.size, l] := by
          rw [hp]; simp only [List.mem_cons, List.not_mem_nil, or_false, not_or]; exact ⟨Nat.ne_of_lt (Nat.lt_succ_self _), Nat.ne_of_gt hlt⟩
        have hv : ∀ (i : Nat) (v : Value), its[i]? = some v → ∃ k t, ns[i]? = some k ∧ v = .int k t := fun i v e => by
          have hi' : i < ns.length := by rw [← sz]; exact (Array.getElem?_eq_some_iff.mp e).1
          obtain ⟨t, e'⟩ := PyProof.Rows.IntsAre.int_at hi i v (by rw [Array.getElem?_toList]; exact e)
          exact ⟨ns[i], t, List.getElem?_eq_getElem hi', by rw [e', List.getD_eq_getElem?_getD, List.getElem?_eq_getElem hi'] <;> rfl⟩
        refine set_update_ints ((Walks.list hh _ l ne its).toS) s.heap.objs.size nf ns sz hz hv (its.size - 0) 0 _ (by omega) (Nat.zero_le _) ⟨⟨_, Heap.get?_push_size _ rfl, rfl, rfl⟩, hl1.push _⟩ ?zz1 ?zz2
        case zz1 => exact ⟨0, Nat.le_refl 0, setR_new_at (Heap.get?_push_of_some _ hS)⟩
        case zz2 =>
          intro s' n hm hn hS'; obtain ⟨g, g2, d, tk, os⟩ := s'
          have eg : g2 = s.gens := hm.gens; have ed : d = s.drawn := hm.drawn; have eo : os = s.os := hm.os
          subst eg ed eo
          show wpAny _ _ _ _ _ _; refine wpAny_pure (show wpAny _ _ (ret Value.none) _ _ _ from ?_)
          rw [sz] at hn; refine wpAny_pure ⟨rfl, g, tk, n, rfl, hS', hn, fun b o e => ?_⟩
          have b0 : b < s.heap.objs.size := Heap.lt_size e
          exact hm.heap b o (by rw [hp]; simp only [List.mem_cons, List.not_mem_nil, or_false, not_or]; exact ⟨Nat.ne_of_lt b0, Nat.ne_of_lt (Nat.lt_succ_of_lt b0)⟩) (Heap.get?_push_of_some _ (Heap.get?_push_of_some _ e))

      · cases r2 with
        | error e => exact hr2
        | ok fl2 =>
          cases fl2 with
          | ret r =>
            obtain ⟨rfl, g, tk, n, rfl, hS', hn, hk⟩ := hr2
            repeat (any_goals (first | assumption | wp_step))
            exact hQ _ _ _ hS' hn hk
          | _ => exact hr2.elim
    | _ => exact hr.elim
end
end TL

set_option Elab.async false
set_option linter.all false
set_option maxRecDepth 100000
set_option maxHeartbeats 4000000
/-! LTM: every one-place operation. -/
namespace TL
open PySem PySem.Spec PyProof.Rows L2
section
variable {X : Cx}
theorem co_len : CallR X (.builtin "len") (rC1 X .len) := by
  intro pins sh σ0 H xs us Q I rx h
  obtain ⟨x, rfl, ⟨w, K, H0, G0, A0, l0⟩, G, A, τ, s, σ, v, v', fr, hw, hK, r, vx, e, q⟩ := h
  dsimp only at hw hK
  subst hw hK
  cases v with
  | str z =>
    obtain ⟨hc, rfl, rfl⟩ := pr_ite e
    exact call_len pins sh σ0 H _ us Q I rx ⟨x, _, rfl, by rw [vx.str]; exact ⟨hc, rfl⟩, out_i r q⟩
  | tup vs =>
    obtain ⟨rfl, rfl⟩ := pr_inj e
    obtain ⟨a, xs, rfl, h1, h2⟩ := vx.tup r
    refine call_len_seq pins sh σ0 H _ us Q I rx ⟨a, xs, rfl, .inr (sqT h1), ?_⟩
    rw [h2.length]; exact out_i r q
  | lst vs =>
    obtain ⟨rfl, rfl⟩ := pr_inj e
    obtain ⟨a, xs, rfl, h1, h2⟩ := vx.lst r
    refine call_len_seq pins sh σ0 H _ us Q I rx ⟨a, xs, rfl, .inl (sqL h1), ?_⟩
    rw [h2.length]; exact out_i r q
  | dct t kvs =>
    obtain ⟨rfl, rfl⟩ := pr_inj e
    obtain ⟨a, rfl, d⟩ := vx.dat r
    obtain ⟨u, rfl, ru⟩ := vals1 rx
    cases ru
    exact dd_len I r.sub d fun tk s' I' => ⟨.int _, H, I', ⟨tk, rfl⟩, out_i r q⟩
  | _ => exact absurd (show (none : Option (Val × Bool)) = some _ from e) nofun
section
variable {prog : Program} {w : World} {A : Around} {E : Value → Shared → Prop} {s : Shared} {l : Addr}
theorem sum_tupG {xs : Array (Int × Tok)} {Q : Value → Shared → Prop} (hh : A.handled = none) (hl : s.heap.IsTuple l (intItems xs))
    (h : ∀ h' tk t', (∀ b o, s.heap.get? b = some o → h'.get? b = some o) → Q (.int (preSum (numAt xs) xs.size) t') { s with heap := h', toks := tk }) :
    wpAny (model prog w) A (call (.builtin "sum") [.ref l]) Q E s := by
  have hlt : l < s.heap.objs.size := by obtain ⟨_, e, _⟩ := hl; exact Heap.lt_size e
  refine call_sum_walkG (wpAny_pyIter_tuple hl ?_)
  refine ⟨_, [_, l], [_], _, _, _, numAt xs, rfl, Walks.tuple (A := A.in1) hh _ l (Nat.ne_of_lt hlt) (intItems xs),
    ⟨⟨_, Heap.get?_push_size _ rfl, rfl, rfl⟩, hl.push _⟩, fun c hc => ?_, (fun _ _ => intItems_at), fun h' tk t' hk => ?_⟩
  · show c < (s.heap.push _).objs.size
    rw [Heap.size_push]
    rcases List.mem_cons.mp hc with rfl | hc
    · exact Nat.lt_succ_self _
    · rcases List.mem_cons.mp hc with rfl | hc
      · exact Nat.lt_succ_of_lt hlt
      · cases hc
  · have hold : ∀ c o, s.heap.get? c = some o → h'.get? c = some o := fun c o e => by
      refine hk c o (fun hm => ?_) (Heap.get?_push_of_some _ e)
      rcases List.mem_cons.mp hm with e1 | hm
      · exact absurd (e1 ▸ Heap.lt_size e) (Nat.lt_irrefl _)
      · cases hm
    have := h h' tk t' hold
    simpa [intItems] using this
theorem sumT_raw {its : List Value} {ns : List Int} {Q : Value → Shared → Prop} (hh : A.handled = none) (hl : s.heap.IsTuple l its.toArray) (hi : IntsAre its ns)
    (h : ∀ h' tk t', (∀ b o, s.heap.get? b = some o → h'.get? b = some o) → Q (.int ns.sum t') { s with heap := h', toks := tk }) : wpAny (model prog w) A (call (.builtin "sum") [.ref l]) Q E s := by
  obtain ⟨xs, e⟩ := hi.allInts.items
  have hn : numsOf (intItems xs).toList = ns := by rw [← e]; exact hi.numsOf
  rw [nums_intItems] at hn
  rw [e] at hl
  refine sum_tupG hh hl fun h' tk t' hk => ?_
  have := h h' tk t' hk
  rw [preSum_eq, List.take_of_length_le (by simp), hn]; exact this
end
def rSumLT (K : PySem.W.Frag) : List V → Hp → VK → Prop := fun vs H Q => ∃ (a : Addr) (ns : List Int), vs = [V.ref a] ∧ (SqL K H a (ns.map V.int) ∨ SqT K H a (ns.map V.int)) ∧ Q (.int ns.sum) H
theorem cr_sumLT (hc : X.calm = true) : CallR X (.builtin "sum") (rSumLT X.K) := by
  intro pins s σ H vs us Q I r h
  obtain ⟨a, ns, rfl, hs, q⟩ := h
  rcases hs with hs | hs
  · exact cr_sum hc pins s σ H _ us Q I r ⟨a, ns, rfl, hs, q⟩
  · obtain ⟨its, rv, hl, _⟩ := I.tuple hs
    rw [Vals.ref1 r]
    exact sumT_raw (I.ok.hd hc) hl rv.ints fun h' tk t' hk => ⟨.int _, H, I.kept hk, ⟨_, rfl⟩, q⟩
theorem co_sum (hc : X.calm = true) : CallR X (.builtin "sum") (rC1 X .sum) := by
  refine callC (cr_sumLT hc) fun xs H Q h => ?_
  obtain ⟨x, rfl, F, G, A, τ, s, σ, v, v', fr, hw, hK, r, vx, e, q⟩ := h
  cases v <;> try (exact absurd (show (none : Option (Val × Bool)) = some _ from e) nofun)
  · obtain ⟨ns, e1, e2⟩ := pr_map e
    obtain ⟨rfl, rfl⟩ := Prod.mk.inj e2
    obtain ⟨a, xs, rfl, h1, h2⟩ := vx.tup r
    rw [intsOf_some e1] at h2
    have := reps_ints h2
    subst this
    exact ⟨a, ns, rfl, .inr (sqT h1), out_i r q⟩
  · obtain ⟨ns, e1, e2⟩ := pr_map e
    obtain ⟨rfl, rfl⟩ := Prod.mk.inj e2
    obtain ⟨a, xs, rfl, h1, h2⟩ := vx.lst r
    rw [intsOf_some e1] at h2
    have := reps_ints h2
    subst this
    exact ⟨a, ns, rfl, .inl (sqL h1), out_i r q⟩
theorem co_max1 (hc : X.calm = true) : CallR X (.builtin "max") (rC1 X .max) := by
  refine callC (cr_max hc) fun xs H Q h => ?_
  obtain ⟨x, rfl, F, G, A, τ, s, σ, v, v', fr, hw, hK, r, vx, e, q⟩ := h
  cases v <;> try (exact absurd (show (none : Option (Val × Bool)) = some _ from e) nofun)
  rename_i vs
  have e' : (match intsOf vs with | some (x :: xs) => some (Val.int (maxL x xs), false) | _ => none) = some (v', fr) := e
  cases h3 : intsOf vs with
  | none => rw [h3] at e'; cases e'
  | some ns =>
    rw [h3] at e'
    cases ns with
    | nil => cases e'
    | cons n ns =>
      obtain ⟨rfl, rfl⟩ := pr_inj e'
      obtain ⟨a, xs, rfl, h1, h2⟩ := vx.lst r
      rw [intsOf_some h3] at h2
      have := reps_ints h2
      subst this
      obtain ⟨m1, m2⟩ := maxL_spec ns n
      refine ⟨a, n :: ns, rfl, sqL h1, by simp, fun m hm hb => ?_⟩
      have : m = maxL n ns := Int.le_antisymm (m2 m hm) (hb _ m1)
      subst this
      exact out_i r q
theorem co_min1 (hc : X.calm = true) : CallR X (.builtin "min") (rC1 X .min) := by
  refine callC (cr_min hc) fun xs H Q h => ?_
  obtain ⟨x, rfl, F, G, A, τ, s, σ, v, v', fr, hw, hK, r, vx, e, q⟩ := h
  cases v <;> try (exact absurd (show (none : Option (Val × Bool)) = some _ from e) nofun)
  rename_i vs
  have e' : (match intsOf vs with | some (x :: xs) => some (Val.int (minL x xs), false) | _ => none) = some (v', fr) := e
  cases h3 : intsOf vs with
  | none => rw [h3] at e'; cases e'
  | some ns =>
    rw [h3] at e'
    cases ns with
    | nil => cases e'
    | cons n ns =>
      obtain ⟨rfl, rfl⟩ := pr_inj e'
      obtain ⟨a, xs, rfl, h1, h2⟩ := vx.lst r
      rw [intsOf_some h3] at h2
      have := reps_ints h2
      subst this
      obtain ⟨m1, m2⟩ := minL_spec ns n
      refine ⟨a, n :: ns, rfl, sqL h1, by simp, fun m hm hb => ?_⟩
      have : m = minL n ns := Int.le_antisymm (hb _ m1) (m2 m hm)
      subst this
      exact out_i r q
theorem co_sorted : CallR X (.builtin "sorted") (rC1 X .sorted) := by
  refine callC cr_sortedI fun xs H Q h => ?_
  obtain ⟨x, rfl, F, G, A, τ, s, σ, v, v', fr, hw, hK, r, vx, e, q⟩ := h
  cases v <;> try (exact absurd (show (none : Option (Val × Bool)) = some _ from e) nofun)
  obtain ⟨ns, e1, e2⟩ := pr_map e
  obtain ⟨rfl, rfl⟩ := Prod.mk.inj e2
  obtain ⟨a, xs, rfl, h1, h2⟩ := vx.lst r
  rw [intsOf_some e1] at h2
  have := reps_ints h2
  subst this
  refine ⟨a, ns, rfl, sqL h1, fun ns' p pm ps hp => ?_⟩
  have := sorted_same (pm.trans (isort_perm ns).symm) ps (isort_sorted ns)
  subst this
  exact out_l r (reps_of_ints _) hp q
theorem co_tuple : CallR X (.type "tuple") (rC1 X .tuple) := by
  refine callC call_tuple_of fun xs H Q h => ?_
  obtain ⟨x, rfl, F, G, A, τ, s, σ, v, v', fr, hw, hK, r, vx, e, q⟩ := h
  cases v <;> try (exact absurd (show (none : Option (Val × Bool)) = some _ from e) nofun)
  · obtain ⟨rfl, rfl⟩ := pr_inj e
    have hx := vx.rtup
    obtain ⟨a, xs, rfl, h1, h2⟩ := id hx
    exact ⟨a, xs, rfl, .inr ⟨sqT (r.sub _ _ h1), out_v r hx q⟩⟩
  · obtain ⟨rfl, rfl⟩ := pr_inj e
    obtain ⟨a, xs, rfl, h1, h2⟩ := vx.lst r
    exact ⟨a, xs, rfl, .inl ⟨sqL h1, fun l hl => out_t r h2 hl q⟩⟩
theorem keys_vals : ∀ {t : Bool} {w : World} {K : PySem.W.Frag} {G : Hp} {A : List Addr} {kvs : List (NestedKey × Val)} {es : List DictEntry}, RepD w K G A t kvs es → ∃ xs, Reps w K G A (kvs.map fun p => vk p.1) xs ∧ Vals xs (es.map (·.key))
  | t, w, K, G, A, [], es, h => by rw [show es = [] from h]; exact ⟨[], rfl, .nil⟩
  | t, w, K, G, A, (k, v) :: r, es, h => by
    obtain ⟨u1, u2, y, ds, rfl, hk, h2, h3, h4⟩ := h
    obtain ⟨xs, g1, g2⟩ := keys_vals h4
    cases t with
    | false =>
      obtain ⟨i, tk, rfl, rfl⟩ := hk
      exact ⟨.int i :: xs, ⟨_, _, rfl, rfl, g1⟩, .cons ⟨tk, rfl⟩ g2⟩
    | true =>
      obtain ⟨ks, b, rfl, rfl, hn, hd⟩ := hk
      exact ⟨.ref b :: xs, ⟨_, _, rfl, repN_rep _ _ hn, g1⟩, .cons rfl g2⟩
theorem co_list (hc : X.calm = true) : CallR X (.type "list") (rC1 X .list) := by
  intro pins sh σ0 H xs us Q I rx h
  obtain ⟨x, rfl, ⟨w, K, H0, G0, A0, l0⟩, G, A, τ, s, σ, v, v', fr, hw, hK, r, vx, e, q⟩ := h
  dsimp only at hw hK
  subst hw hK
  cases v with
  | tup vs =>
    obtain ⟨rfl, rfl⟩ := pr_inj e
    obtain ⟨a, xs, rfl, h1, h2⟩ := vx.tup r
    exact call_list_of pins sh σ0 H _ us Q I rx ⟨a, xs, rfl, .inr (sqT h1), fun l hl => out_l r h2 hl q⟩
  | lst vs =>
    obtain ⟨rfl, rfl⟩ := pr_inj e
    obtain ⟨a, xs, rfl, h1, h2⟩ := vx.lst r
    exact call_list_of pins sh σ0 H _ us Q I rx ⟨a, xs, rfl, .inl (sqL h1), fun l hl => out_l r h2 hl q⟩
  | dct t kvs =>
    obtain ⟨rfl, rfl⟩ := pr_inj e
    obtain ⟨a, rfl, d⟩ := vx.dat r
    obtain ⟨u, rfl, ru⟩ := vals1 rx
    cases ru
    obtain ⟨es, ep, eo, rd, nd, ln, lo⟩ := id d
    obtain ⟨ys, g1, g2⟩ := keys_vals rd
    have hl1 := g1.length
    have hl2 := g2.length
    rw [List.length_map] at hl1 hl2
    have hsz : es.size ≤ sizeLine := by rw [← Array.length_toList, ← hl2, hl1]; exact ln
    refine PySem.W.kdl_call (kdl_raw lo dictO_exact rfl) (I.ok.hd hc) (dict_obj I.hok eo) hsz fun h' tk acc c hk hS hacc => ?_
    have el : ys.length = acc.toList.length := by rw [hl2, Array.length_toList, Array.length_toList, hacc.1]
    have rv : Vals ys acc.toList := vals_of_at el fun j y u h1 h2 => by
      obtain ⟨en, h3, h4⟩ := hacc.2 j u (by rw [← Array.getElem?_toList]; exact h2)
      obtain ⟨z, h5, h6⟩ := g2.get h1
      rw [List.getElem?_map, Array.getElem?_toList, h3] at h5
      cases h5
      rw [h4]
      exact h6
    refine ⟨.ref _, upd H sh.heap.objs.size (.lst ys), I.laid hk (Nat.le_refl _) (show ObjOk X.prog X.w _ _ _ (.lst ys) from ⟨by rw [hl1]; exact ln, acc.toList, c, rv, ?_⟩), rfl, out_l r g1 I.fresh q⟩
    rw [Array.toArray_toList]; exact hS
  | _ => exact absurd (show (none : Option (Val × Bool)) = some _ from e) nofun
theorem co_int : CallR X (.type "int") (rC1 X .int) := by
  refine callC call_int1 fun xs H Q h => ?_
  obtain ⟨x, rfl, F, G, A, τ, s, σ, v, v', fr, hw, hK, r, vx, e, q⟩ := h
  cases v <;> try (exact absurd (show (none : Option (Val × Bool)) = some _ from e) nofun)
  · obtain ⟨rfl, rfl⟩ := pr_inj e
    exact .inr ⟨_, by rw [vx.bl], out_i r q⟩
  · obtain ⟨rfl, rfl⟩ := pr_inj e
    exact .inl ⟨_, by rw [vx.int], out_i r q⟩
theorem co_abs : CallR X (.builtin "abs") (rC1 X .abs) := by
  refine callC call_abs fun xs H Q h => ?_
  obtain ⟨x, rfl, F, G, A, τ, s, σ, v, v', fr, hw, hK, r, vx, e, q⟩ := h
  cases v <;> try (exact absurd (show (none : Option (Val × Bool)) = some _ from e) nofun)
  obtain ⟨rfl, rfl⟩ := pr_inj e
  exact ⟨_, by rw [vx.int], out_i r q⟩
theorem co_str : CallR X (.type "str") (rC1 X .str) := by
  refine callC call_str_int fun xs H Q h => ?_
  obtain ⟨x, rfl, F, G, A, τ, s, σ, v, v', fr, hw, hK, r, vx, e, q⟩ := h
  cases v <;> try (exact absurd (show (none : Option (Val × Bool)) = some _ from e) nofun)
  obtain ⟨hc, rfl, rfl⟩ := pr_ite e
  exact ⟨_, by rw [vx.int], hc, out_s r q⟩
theorem uo_neg : UnR X (unaryOp .USub) (rP1 X .neg) := by
  intro pins sh σ0 H x u Q I rx h
  obtain ⟨F, G, A, τ, s, σ, v, v', fr, hw, hK, r, vx, e, q⟩ := h
  cases v <;> try (exact absurd (show (none : Option (Val × Bool)) = some _ from e) nofun)
  obtain ⟨rfl, rfl⟩ := pr_inj e
  exact un_neg pins sh σ0 H x u Q I rx ⟨_, vx.int, out_i r q⟩
/-! ### isinstance of a built-in type -/
def tyP : P1 → Option String
  | .isInt => some "int" | .isBool => some "bool" | .isTuple => some "tuple" | .isList => some "list" | .isStr => some "str"
  | _ => none
theorem kit_all : ∀ T ∈ ["int", "bool", "tuple", "list", "str"], kitB "NoneType" T = some false ∧ kitB "bool" T = some (T == "bool" || T == "int") ∧ kitB "int" T = some (T == "int") ∧ kitB "str" T = some (T == "str") ∧
    kitB "tuple" T = some (T == "tuple") ∧ kitB "list" T = some (T == "list") ∧ kitB "dict" T = some (T == "dict") := by decide +kernel
theorem kit_v {pins : List (Addr × Obj)} {σ0 : St} {H : Hp} {sh : Shared} {F : Fr} {G : Hp} {A : List Addr} {τ : Tmp} {s : Sta} {σ : St} {v : Val} {x : V} {u : Value} {T : String} {b : Bool} (I : Inv X pins σ0 H sh) (r : Rel F G A τ s σ H) (vx : View F G A H v x) (rx : RelV x u)
    (hT : T ∈ ["int", "bool", "tuple", "list", "str"]) (e : prim1.isOf T v = some b) :
    ∃ (t : Value) (P : Heap → Prop), PySem.W.KitX X.K u t P ∧ P sh.heap ∧ u ≠ .builtin "__main__.__loader__#opaque" ∧ PySem.W.kitOne X.K t (.type T) = some b := by
  obtain ⟨k1, k2, k3, k4, k5, k6, k7⟩ := kit_all T hT
  have go : ∀ {t : String}, TyX X.K H x (.type t) → kitB t T = some b → ∃ (t : Value) (P : Heap → Prop), PySem.W.KitX X.K u t P ∧ P sh.heap ∧ u ≠ .builtin "__main__.__loader__#opaque" ∧ PySem.W.kitOne X.K t (.type T) = some b := fun {t} ty k => by
    obtain ⟨P, z1, z2, z3⟩ := kit_of I rx ty
    exact ⟨_, P, z1, z2, z3, kit_ty k⟩
  cases v with
  | non => cases e; rw [vx.non] at go; exact go (.base .non) k1
  | bl c => cases e; rw [vx.bl] at go; exact go (.base (.bl c)) k2
  | int i => cases e; rw [vx.int] at go; exact go (.base (.int i)) k3
  | str z => cases e; rw [vx.str] at go; exact go (.base (.str z)) k4
  | tup vs =>
    cases e
    obtain ⟨a, xs, rfl, h1, h2⟩ := vx.tup r
    exact go (.base (.tup h1)) k5
  | lst vs =>
    cases e
    obtain ⟨a, xs, rfl, h1, h2⟩ := vx.lst r
    rcases h1 with h1 | ⟨o, h1⟩
    · exact go (.base (.lst h1)) k6
    · exact go (.base (.frz h1)) k6
  | dct t kvs =>
    cases e
    obtain ⟨a, rfl, es, ep, eo, _⟩ := vx.dat r
    cases (show u = Value.ref a from rx)
    exact ⟨_, _, PySem.W.kitx_dict, ⟨_, dict_obj I.hok eo, rfl⟩, (fun z => nomatch z), kit_ty k7⟩
  | _ => exact absurd (show (none : Option Bool) = some _ from e) nofun
theorem co_isi {f : P1} {T : String} (hf : tyP f = some T) : CallR X (.builtin "isinstance") (fun xs H Q => ∃ x, xs = [x, .ty T] ∧ rP1 X f x H Q) := by
  intro pins sh σ0 H xs us Q I rx h
  obtain ⟨x, rfl, F, G, A, τ, s, σ, v, v', fr, hw, hK, r, vx, e, q⟩ := h
  obtain ⟨u1, u2, rfl, r1, r2⟩ := vals2 rx
  cases r2
  have key : T ∈ ["int", "bool", "tuple", "list", "str"] ∧ prim1 f v = (prim1.isOf T v).map fun b => (.bl b, false) := by
    cases f <;> simp only [tyP, Option.some.injEq, reduceCtorEq] at hf <;> subst hf <;> exact ⟨by simp, rfl⟩
  rw [key.2] at e
  obtain ⟨b, e1, e2⟩ := pr_map e
  obtain ⟨rfl, rfl⟩ := Prod.mk.inj e2
  obtain ⟨t, P, z1, z2, z3, z4⟩ := kit_v I r vx r1 key.1 e1
  exact PySem.W.kia_one z1 I.kIn z2 z4 z3 fun tk => ⟨.bl b, H, I.tok tk, rfl, out_b r q⟩
/-! ### None -/
theorem dec_non {F : Fr} {G : Hp} {A : List Addr} {τ : Tmp} {s : Sta} {σ : St} {H : Hp} {v : Val} {x : V} (r : Rel F G A τ s σ H) (vx : View F G A H v x) : decide (x = .non) = isNonB v := by
  cases v with
  | non => rw [vx.non]; rfl
  | bl c => rw [vx.bl]; simp [isNonB]
  | int c => rw [vx.int]; simp [isNonB]
  | str c => rw [vx.str]; simp [isNonB]
  | tup vs => obtain ⟨a, xs, rfl, _⟩ := vx.tup r; simp [isNonB]
  | lst vs => obtain ⟨a, xs, rfl, _⟩ := vx.lst r; simp [isNonB]
  | dct t kvs => obtain ⟨a, rfl, _⟩ := vx.dat r; simp [isNonB]
  | ins c fs => obtain ⟨a, dx, gs, rfl, _⟩ := vx.ins r; simp [isNonB]
  | obj n =>
    rcases vx with ⟨a, rfl, _⟩ | ⟨_, _, _, _, b⟩
    · simp [isNonB]
    · exact b.elim
  | fn f =>
    rcases vx with h | ⟨_, _, _, _, b⟩
    · rw [show x = _ from h]; simp [isNonB]
    · exact b.elim
theorem bo_isN : OpR X (compareOp .Is) (fun x y H Q => y = .non ∧ rP1 X .isNone x H Q) := by
  refine opC op_isN fun x y H Q h => ?_
  obtain ⟨rfl, F, G, A, τ, s, σ, v, v', fr, hw, hK, r, vx, e, q⟩ := h
  obtain ⟨rfl, rfl⟩ := pr_inj e
  refine ⟨rfl, ?_⟩
  rw [dec_non r vx]
  exact out_b r q
theorem bo_notN : OpR X (compareOp .IsNot) (fun x y H Q => y = .non ∧ rP1 X .notNone x H Q) := by
  refine opC op_notN fun x y H Q h => ?_
  obtain ⟨rfl, F, G, A, τ, s, σ, v, v', fr, hw, hK, r, vx, e, q⟩ := h
  obtain ⟨rfl, rfl⟩ := pr_inj e
  refine ⟨rfl, ?_⟩
  rw [dec_non r vx]
  exact out_b r q
end
end TL

set_option Elab.async false
set_option linter.all false
set_option maxRecDepth 100000
set_option maxHeartbeats 4000000
/-! LTN: readings of expressions. -/
namespace TL
open PySem PySem.Spec PyProof.Rows L2
/-! ### small facts of texts -/
theorem starP {e : Expr} {es : List Expr} {env : Env} (h : plainA e = true) : starEach (e :: es) env = (false, eval e env) :: starEach es env := by
  cases e <;> first | rfl | exact absurd h Bool.false_ne_true
theorem backP {env : Env} {pos : Pos} : ∀ {es : List Expr}, es.all plainA = true → (backTo pos (starEach es env)).any (·.1) = false
  | [], _ => rfl
  | e :: es, h => by
    rw [List.all_cons, Bool.and_eq_true] at h
    rw [starP h.1]
    show (false || (backTo pos (starEach es env)).any (·.1)) = false
    rw [backP h.2]; rfl
theorem baseP {o : Expr} {a : Str} {env : Env} {w : Sem Value} (h : okBase o = true) : attributeBase o a env w = w := by
  unfold attributeBase
  split
  · exact absurd h (by simp [okBase])
  · rfl
theorem ixP {b : Expr} (h : noSlice b = true) : PlainIx b := by
  intro o i
  cases b <;> first | rfl | exact absurd h Bool.false_ne_true
theorem markP {op : CmpOp} {b : Expr} (h : noSet b = true) : behindInMarks op b = false := by
  cases b <;> first | rfl | exact absurd h Bool.false_ne_true
theorem and2 {a b : Bool} (h : (a && b) = true) : a = true ∧ b = true := by simpa using h
/-! ### from a whole reading to its parts -/
section
variable {Φ : Fns} {X : Cx} {W : WX} {σ : St} {H : Hp}
theorem cv_p1 {f : P1} {a : E} {Q : VK} (h : tV Φ X W (.p1 f a) σ H Q) : tP Φ X W a σ H fun x H1 => rP1 X f x H1 Q := by
  obtain ⟨F, G, A, τ, s, hw, hK, r, h⟩ := h
  refine ⟨F, G, A, τ, s, hw, hK, r, (Sat.bind (show Sat F W σ _ G A ((pkOf a (ev Φ a) s).bind _) Q from h)).imp fun x H1 ⟨pv, s1, G1, A1, _, l, ⟨r1, p1⟩, h2⟩ => ?_⟩
  obtain ⟨v, e1, h3⟩ := Sat.opt h2
  obtain ⟨⟨v', fr⟩, e2, h4⟩ := Sat.opt1 h3
  exact ⟨F, G1, A1, τ, s1, σ, v, v', fr, hw, hK, r1, view_of r1 p1 e1, e2, h4⟩
theorem cv_p2 {f : P2} {a b : E} {Q : VK} (h : tV Φ X W (.p2 f a b) σ H Q) : tOp (rP2 X f) (tP Φ X W a) (tP Φ X W b) σ H Q := by
  obtain ⟨F, G, A, τ, s, hw, hK, r, h⟩ := h
  refine ⟨F, G, A, τ, s, hw, hK, r, (Sat.bind (show Sat F W σ _ G A ((pkOf a (ev Φ a) s).bind _) Q from h)).imp fun x H1 ⟨pv, s1, G1, A1, _, l, ⟨r1, p1⟩, h2⟩ => ?_⟩
  refine ⟨F, G1, A1, τ, s1, hw, hK, r1, (Sat.bind h2).imp fun y H2 ⟨pu, s2, G2, A2, _, l2, ⟨r2, p2⟩, h3⟩ => ?_⟩
  obtain ⟨v, e1, h4⟩ := Sat.opt h3
  obtain ⟨u, e2, h5⟩ := Sat.opt h4
  obtain ⟨⟨v', fr⟩, e3, h6⟩ := Sat.opt1 h5
  exact ⟨F, G2, A2, τ, s2, σ, v, u, v', fr, hw, hK, r2, view_of r2 (p1.mono l2) e1, view_of r2 p2 e2, e3, h6⟩
/-- .. of a test -/
theorem cv_c2 {f : P2} {a b : E} {Q : Bool → Hp → Prop} (h : tB Φ X W (.cmp f a b) σ H Q) : tTest (tOp (rP2 X f) (tP Φ X W a) (tP Φ X W b)) σ H Q := by
  obtain ⟨F, G, A, τ, s, hw, hK, r, h⟩ := h
  refine ⟨F, G, A, τ, s, hw, hK, r, (Sat.bind (show Sat F W σ _ G A ((pkOf a (ev Φ a) s).bind _) Q from h)).imp fun x H1 ⟨pv, s1, G1, A1, _, l, ⟨r1, p1⟩, h2⟩ => ?_⟩
  refine ⟨F, G1, A1, τ, s1, hw, hK, r1, (Sat.bind h2).imp fun y H2 ⟨pu, s2, G2, A2, _, l2, ⟨r2, p2⟩, h3⟩ => ?_⟩
  obtain ⟨v, e1, h4⟩ := Sat.opt h3
  obtain ⟨u, e2, h5⟩ := Sat.opt h4
  cases e3 : prim2 f v u with
  | none => rw [e3] at h5; exact h5.elim
  | some q =>
    obtain ⟨z, fr⟩ := q
    rw [e3] at h5
    cases z with
    | bl k =>
      cases fr with
      | true => exact h5.elim
      | false =>
        refine ⟨F, G2, A2, τ, s2, σ, v, u, .bl k, false, hw, hK, r2, view_of r2 (p1.mono l2) e1, view_of r2 p2 e2, e3, fun z G' A' H' l' g => ⟨k, g.2, h5 k G' A' H' l' ⟨g.1, rfl⟩⟩⟩
    | _ => exact h5.elim
theorem cv_n1 {n : Bool} {a : E} {Q : Bool → Hp → Prop} (h : tB Φ X W (.isN n a) σ H Q) : tP Φ X W a σ H fun x H1 => rP1 X (if n then .isNone else .notNone) x H1 fun y H2 => ∃ k, y = .bl k ∧ Q k H2 := by
  obtain ⟨F, G, A, τ, s, hw, hK, r, h⟩ := h
  refine ⟨F, G, A, τ, s, hw, hK, r, (Sat.bind (show Sat F W σ _ G A ((pkOf a (ev Φ a) s).bind _) Q from h)).imp fun x H1 ⟨pv, s1, G1, A1, _, l, ⟨r1, p1⟩, h2⟩ => ?_⟩
  obtain ⟨v, e1, h3⟩ := Sat.opt h2
  cases e3 : prim1 (if n then .isNone else .notNone) v with
  | none => rw [e3] at h3; exact h3.elim
  | some q =>
    obtain ⟨z, fr⟩ := q
    rw [e3] at h3
    cases z with
    | bl k =>
      cases fr with
      | true => exact h3.elim
      | false => exact ⟨F, G1, A1, τ, s1, σ, v, .bl k, false, hw, hK, r1, view_of r1 p1 e1, e3, fun z G' A' H' l' g => ⟨k, g.2, h3 k G' A' H' l' ⟨g.1, rfl⟩⟩⟩
    | _ => exact h3.elim
/-- a looked-at thing that is no name -/
theorem cv_pk {e : E} (he : ∀ i, e ≠ .var i) {Q : VK} (h : tP Φ X W e σ H Q) : tV Φ X W e σ H Q := by
  obtain ⟨F, G, A, τ, s, hw, hK, r, h⟩ := h
  have e1 : pkOf e (ev Φ e) s = (ev Φ e s).bind fun p s => .ok (.val p.1) s := by
    cases e <;> first | rfl | exact absurd rfl (he _)
  rw [e1] at h
  refine ⟨F, G, A, τ, s, hw, hK, r, (Sat.bind h).imp fun x H1 ⟨p, s1, G1, A1, _, l, g, h2⟩ => ?_⟩
  obtain ⟨G2, l2, r2, q2⟩ := Got.fix g
  exact h2 x G2 A1 H1 l2 ⟨r2, q2⟩
theorem cv_pkvar {i : Nat} {Q : VK} (h : tP Φ X W (.var i) σ H Q) : tVar i σ H Q := by
  obtain ⟨F, G, A, τ, s, hw, hK, r, h⟩ := h
  cases hs : s.ρ[i]? with
  | none => simp only [pkOf, hs] at h; exact h.elim
  | some b =>
    simp only [pkOf, hs] at h
    cases b with
    | e => exact h.elim
    | fz v =>
      obtain ⟨x, hx, q⟩ := r.slot i _ hs
      exact ⟨x, hx, h x G A H Le.refl ⟨r, q⟩⟩
    | own v =>
      obtain ⟨a, ha⟩ := r.slot i _ hs
      exact ⟨_, ha, h _ G A H Le.refl ⟨r, ha⟩⟩
theorem cv_var {i : Nat} {Q : VK} (h : tV Φ X W (.var i) σ H Q) : tVar i σ H Q := by
  obtain ⟨F, G, A, τ, s, hw, hK, r, h⟩ := h
  cases hs : s.ρ[i]? with
  | none => simp only [ev, hs] at h; exact h.elim
  | some b =>
    simp only [ev, hs] at h
    cases b with
    | e => exact h.elim
    | fz v =>
      obtain ⟨x, hx, q⟩ := r.slot i _ hs
      exact ⟨x, hx, h x G A H Le.refl ⟨r, q⟩⟩
    | own v =>
      obtain ⟨a, G', ha, l, r', q⟩ := r.fix hs
      exact ⟨_, ha, h _ G' A H l ⟨r', q⟩⟩
theorem cv_c {e : E} {v : Val} {x : V} {Q : VK} (he : ∀ s, ev Φ e s = .ok (v, false) s) (hv : ∀ w K G A, Rep w K G A v x) (h : tV Φ X W e σ H Q) : tC x σ H Q := by
  obtain ⟨F, G, A, τ, s, hw, hK, r, h⟩ := h
  rw [he] at h
  exact h x G A H Le.refl ⟨r, hv _ _ _ _⟩
/-- arguments -/
theorem cv_cons {e : E} {es : List E} {Q : List V → Hp → Prop} (h : tL Φ X W (e :: es) σ H Q) : tCons (tV Φ X W e) (tL Φ X W es) σ H Q := by
  obtain ⟨F, G, A, τ, s, hw, hK, r, h⟩ := h
  refine ⟨F, G, A, τ, s, hw, hK, r, (Sat.bind (show Sat F W σ _ G A ((ev Φ e s).bind _) Q from h)).imp fun x H1 ⟨p, s1, G1, A1, _, l, g, h2⟩ => ?_⟩
  obtain ⟨G2, l2, r2, q2⟩ := Got.fix g
  refine ⟨F, G2, A1, τ, s1, hw, hK, r2, (Sat.bind (Sat.mono h2 l2)).imp fun ys H2 ⟨vs, s2, G3, A3, _, l3, ⟨r3, q3⟩, h3⟩ => ?_⟩
  exact h3 (x :: ys) G3 A3 H2 Le.refl ⟨r3, x, ys, rfl, Rep.mono l3 _ _ q2, q3⟩
theorem cv_nil {Q : List V → Hp → Prop} (h : tL Φ X W [] σ H Q) : tNil σ H Q := by
  obtain ⟨F, G, A, τ, s, hw, hK, r, h⟩ := h
  exact h [] G A H Le.refl ⟨r, rfl⟩
theorem cv_tup {es : List E} {Q : VK} (h : tV Φ X W (.tup es) σ H Q) : tTup (tL Φ X W es) σ H Q := by
  obtain ⟨F, G, A, τ, s, hw, hK, r, h⟩ := h
  refine ⟨F, G, A, τ, s, hw, hK, r, (Sat.bind (show Sat F W σ _ G A ((evs Φ es s).bind _) Q from h)).imp fun xs H1 ⟨vs, s1, G1, A1, _, l, ⟨r1, q1⟩, h2⟩ => ?_⟩
  by_cases c : vs.length ≤ sizeLine
  · rw [if_pos c] at h2
    exact ⟨by rw [q1.length]; exact c, fun p hp => out_t r1 q1 hp h2⟩
  · rw [if_neg c] at h2; exact h2.elim
theorem cv_lst {es : List E} {Q : VK} (h : tV Φ X W (.lst es) σ H Q) : tLst (tL Φ X W es) σ H Q := by
  obtain ⟨F, G, A, τ, s, hw, hK, r, h⟩ := h
  refine ⟨F, G, A, τ, s, hw, hK, r, (Sat.bind (show Sat F W σ _ G A ((evs Φ es s).bind _) Q from h)).imp fun xs H1 ⟨vs, s1, G1, A1, _, l, ⟨r1, q1⟩, h2⟩ => ?_⟩
  by_cases c : vs.length ≤ sizeLine
  · rw [if_pos c] at h2
    exact ⟨by rw [q1.length]; exact c, fun p hp => out_l r1 q1 hp h2⟩
  · rw [if_neg c] at h2; exact h2.elim
/-- what came as a bool, as an int -/
theorem Got.bl {F : Fr} {τ : Tmp} {s : Sta} {G : Hp} {A : List Addr} {b fr : Bool} {x : V} (g : Got F τ s σ G A H (.bl b) fr x) : x = .bl b ∧ Rel F G A τ s σ H := by
  cases fr with
  | true =>
    obtain ⟨a, _, r⟩ := g
    obtain ⟨_, _, ⟨u, _, hb⟩, _⟩ := r.top
    exact hb.elim
  | false => exact ⟨g.2, g.1⟩
theorem Got.int {F : Fr} {τ : Tmp} {s : Sta} {G : Hp} {A : List Addr} {i : Int} {fr : Bool} {x : V} (g : Got F τ s σ G A H (.int i) fr x) : x = .int i ∧ Rel F G A τ s σ H := by
  cases fr with
  | true =>
    obtain ⟨a, _, r⟩ := g
    obtain ⟨_, _, ⟨u, _, hb⟩, _⟩ := r.top
    exact hb.elim
  | false => exact ⟨g.2, g.1⟩
theorem cv_and {a b : E} {Q : VK} (h : tV Φ X W (.and a b) σ H Q) : tAndV (tV Φ X W a) (tV Φ X W b) σ H Q := by
  obtain ⟨F, G, A, τ, s, hw, hK, r, h⟩ := h
  refine ⟨F, G, A, τ, s, hw, hK, r, (Sat.bind (show Sat F W σ _ G A ((ev Φ a s).bind _) Q from h)).imp fun x H1 ⟨⟨v, fr⟩, s1, G1, A1, _, l, g, h2⟩ => ?_⟩
  cases v with
  | bl k =>
    obtain ⟨rfl, r1⟩ := Got.bl g
    refine ⟨k, rfl, ?_⟩
    cases k with
    | true => rw [if_pos rfl]; exact ⟨F, G1, A1, τ, s1, hw, hK, r1, h2⟩
    | false => rw [if_neg Bool.false_ne_true]; exact h2 _ G1 A1 H1 Le.refl ⟨r1, rfl⟩
  | _ => exact h2.elim
theorem cv_or {a b : E} {Q : VK} (h : tV Φ X W (.or a b) σ H Q) : tOrV (tV Φ X W a) (tV Φ X W b) σ H Q := by
  obtain ⟨F, G, A, τ, s, hw, hK, r, h⟩ := h
  refine ⟨F, G, A, τ, s, hw, hK, r, (Sat.bind (show Sat F W σ _ G A ((ev Φ a s).bind _) Q from h)).imp fun x H1 ⟨⟨v, fr⟩, s1, G1, A1, _, l, g, h2⟩ => ?_⟩
  cases v with
  | bl k =>
    obtain ⟨rfl, r1⟩ := Got.bl g
    refine ⟨k, rfl, ?_⟩
    cases k with
    | false => rw [if_neg Bool.false_ne_true]; exact ⟨F, G1, A1, τ, s1, hw, hK, r1, h2⟩
    | true => rw [if_pos rfl]; exact h2 _ G1 A1 H1 Le.refl ⟨r1, rfl⟩
  | _ => exact h2.elim
theorem cv_ife {c : Ts} {a b : E} {Q : VK} (h : tV Φ X W (.ife c a b) σ H Q) : tIf (tB Φ X W c) (tV Φ X W a) (tV Φ X W b) σ H Q := by
  obtain ⟨F, G, A, τ, s, hw, hK, r, h⟩ := h
  refine ⟨F, G, A, τ, s, hw, hK, r, (Sat.bind (show Sat F W σ _ G A ((evT Φ c s).bind _) Q from h)).imp fun k H1 ⟨k', s1, G1, A1, _, l, ⟨r1, ek⟩, h2⟩ => ?_⟩
  subst ek
  cases k with
  | true => exact ⟨F, G1, A1, τ, s1, hw, hK, r1, h2⟩
  | false => exact ⟨F, G1, A1, τ, s1, hw, hK, r1, h2⟩
theorem cv_tand {a b : Ts} {Q : Bool → Hp → Prop} (h : tB Φ X W (.and a b) σ H Q) : tAnd (tB Φ X W a) (tB Φ X W b) σ H Q := by
  obtain ⟨F, G, A, τ, s, hw, hK, r, h⟩ := h
  refine ⟨F, G, A, τ, s, hw, hK, r, (Sat.bind (show Sat F W σ _ G A ((evT Φ a s).bind _) Q from h)).imp fun k H1 ⟨k', s1, G1, A1, _, l, ⟨r1, ek⟩, h2⟩ => ?_⟩
  subst ek
  cases k with
  | true => exact ⟨F, G1, A1, τ, s1, hw, hK, r1, h2⟩
  | false => exact h2 false G1 A1 H1 Le.refl ⟨r1, rfl⟩
theorem cv_tor {a b : Ts} {Q : Bool → Hp → Prop} (h : tB Φ X W (.or a b) σ H Q) : tOr (tB Φ X W a) (tB Φ X W b) σ H Q := by
  obtain ⟨F, G, A, τ, s, hw, hK, r, h⟩ := h
  refine ⟨F, G, A, τ, s, hw, hK, r, (Sat.bind (show Sat F W σ _ G A ((evT Φ a s).bind _) Q from h)).imp fun k H1 ⟨k', s1, G1, A1, _, l, ⟨r1, ek⟩, h2⟩ => ?_⟩
  subst ek
  cases k with
  | false => exact ⟨F, G1, A1, τ, s1, hw, hK, r1, h2⟩
  | true => exact h2 true G1 A1 H1 Le.refl ⟨r1, rfl⟩
theorem cv_tnot {a : Ts} {Q : Bool → Hp → Prop} (h : tB Φ X W (.not a) σ H Q) : tNot (tB Φ X W a) σ H Q := by
  obtain ⟨F, G, A, τ, s, hw, hK, r, h⟩ := h
  refine ⟨F, G, A, τ, s, hw, hK, r, (Sat.bind (show Sat F W σ _ G A ((evT Φ a s).bind _) Q from h)).imp fun k H1 ⟨k', s1, G1, A1, _, l, ⟨r1, ek⟩, h2⟩ => ?_⟩
  subst ek
  exact h2 _ G1 A1 H1 Le.refl ⟨r1, rfl⟩
/-! ### truth -/
def rTru (X : Cx) : V → Hp → (Bool → Hp → Prop) → Prop := fun x H Q => ∃ (F : Fr) (G : Hp) (A : List Addr) (τ : Tmp) (s : Sta) (σ : St) (v : Val) (k : Bool), F.w = X.w ∧ F.K = X.K ∧ Rel F G A τ s σ H ∧ View F G A H v x ∧ vTruth v = some k ∧ Q k H
theorem emp_of {w : World} {K : PySem.W.Frag} {G : Hp} {A : List Addr} {vs : List Val} {xs : List V} (h : Reps w K G A vs xs) : (!vs.isEmpty) = !xs.isEmpty := by
  have := h.length
  cases vs <;> cases xs <;> simp_all
theorem tru_v : TruR X (rTru X) := by
  intro pins sh σ0 H x u Q I rx h
  obtain ⟨⟨w, K, H0, G0, A0, l0⟩, G, A, τ, s, σ, v, k, hw, hK, r, vx, e, q⟩ := h
  dsimp only at hw hK
  subst hw hK
  cases v with
  | non => cases e; exact tru_ok pins sh σ0 H x u Q I rx ⟨false, by rw [vx.non]; rfl, q⟩
  | bl b => cases e; exact tru_ok pins sh σ0 H x u Q I rx ⟨_, by rw [vx.bl]; rfl, q⟩
  | int i => cases e; exact tru_ok pins sh σ0 H x u Q I rx ⟨_, by rw [vx.int]; rfl, q⟩
  | str z =>
    have e' : (if z.length ≤ sizeLine then some ((z.length : Int) != 0) else none) = some k := e
    by_cases c : z.length ≤ sizeLine
    · rw [if_pos c] at e'; cases e'
      exact tru_ok pins sh σ0 H x u Q I rx ⟨_, by rw [vx.str]; exact ⟨c, rfl⟩, q⟩
    · rw [if_neg c] at e'; cases e'
  | tup vs =>
    cases e
    obtain ⟨a, xs, rfl, h1, h2⟩ := vx.tup r
    exact tru_ok pins sh σ0 H _ u Q I rx ⟨_, .inr (.inl ⟨xs, sqT h1, rfl⟩), by rw [← emp_of h2]; exact q⟩
  | lst vs =>
    cases e
    obtain ⟨a, xs, rfl, h1, h2⟩ := vx.lst r
    exact tru_ok pins sh σ0 H _ u Q I rx ⟨_, .inl ⟨xs, sqL h1, rfl⟩, by rw [← emp_of h2]; exact q⟩
  | dct t kvs =>
    cases e
    obtain ⟨a, rfl, d⟩ := vx.dat r
    cases (show u = Value.ref a from rx)
    exact dd_truth I r.sub d fun tk => ⟨H, I.tok _, q⟩
  | _ => exact absurd (show (none : Option Bool) = some _ from e) nofun
theorem cv_tru {e : E} {Q : Bool → Hp → Prop} (h : tB Φ X W (.val e) σ H Q) : tP Φ X W e σ H fun x H1 => rTru X x H1 Q := by
  obtain ⟨F, G, A, τ, s, hw, hK, r, h⟩ := h
  refine ⟨F, G, A, τ, s, hw, hK, r, (Sat.bind (show Sat F W σ _ G A ((pkOf e (ev Φ e) s).bind _) Q from h)).imp fun x H1 ⟨pv, s1, G1, A1, _, l, ⟨r1, p1⟩, h2⟩ => ?_⟩
  obtain ⟨v, e1, h3⟩ := Sat.opt h2
  obtain ⟨k, e2, h4⟩ := Sat.opt1 h3
  exact ⟨F, G1, A1, τ, s1, σ, v, k, hw, hK, r1, view_of r1 p1 e1, e2, h4 k G1 A1 H1 Le.refl ⟨r1, rfl⟩⟩
theorem cv_not {a : E} {Q : VK} (h : tV Φ X W (.not a) σ H Q) : tP Φ X W a σ H fun x H1 => rTru X x H1 fun k H2 => Q (.bl (!k)) H2 := by
  obtain ⟨F, G, A, τ, s, hw, hK, r, h⟩ := h
  refine ⟨F, G, A, τ, s, hw, hK, r, (Sat.bind (show Sat F W σ _ G A ((pkOf a (ev Φ a) s).bind _) Q from h)).imp fun x H1 ⟨pv, s1, G1, A1, _, l, ⟨r1, p1⟩, h2⟩ => ?_⟩
  obtain ⟨v, e1, h3⟩ := Sat.opt h2
  obtain ⟨k, e2, h4⟩ := Sat.opt h3
  exact ⟨F, G1, A1, τ, s1, σ, v, k, hw, hK, r1, view_of r1 p1 e1, e2, h4 _ G1 A1 H1 Le.refl ⟨r1, rfl⟩⟩
end
end TL

set_option Elab.async false
set_option linter.all false
set_option maxRecDepth 100000
set_option maxHeartbeats 4000000
/-! LTO: readings of calls, methods, fields. -/
namespace TL
open PySem PySem.Spec PyProof.Rows L2
section
variable {Φ : Fns} {X : Cx} {W : WX} {σ : St} {H : Hp}
theorem Rel.popAll {F : Fr} {G : Hp} {A : List Addr} {s : Sta} : ∀ {τ : Tmp}, Rel F G A τ s σ H → Rel F G A [] s σ H
  | [], r => r
  | _ :: _, r => Rel.popAll r.pop
theorem evs_len : ∀ {es : List E} {s s' : Sta} {vs : List Val}, evs Φ es s = .ok vs s' → vs.length = es.length
  | [], s, s', vs, h => by
    have h' : (Res.ok [] s : Res (List Val)) = .ok vs s' := h
    cases h'; rfl
  | e :: es, s, s', vs, h => by
    have h' : ((ev Φ e s).bind fun x s => (evs Φ es s).bind fun xs s => .ok (x.1 :: xs) s) = .ok vs s' := h
    cases h1 : ev Φ e s with
    | ok x s1 =>
      rw [h1] at h'
      have h2 : ((evs Φ es s1).bind fun xs s => .ok (x.1 :: xs) s) = .ok vs s' := h'
      cases h3 : evs Φ es s1 with
      | ok xs s2 =>
        rw [h3] at h2
        have h4 : (Res.ok (x.1 :: xs) s2 : Res (List Val)) = .ok vs s' := h2
        cases h4
        simp [evs_len h3]
      | ex c fs s2 => rw [h3] at h2; cases h2
      | bad => rw [h3] at h2; cases h2
    | ex c fs s1 => rw [h1] at h'; cases h'
    | bad => rw [h1] at h'; cases h'
/-- what came behind a call -/
theorem got_back {F : Fr} {G G' : Hp} {A A' : List Addr} {τ τ' : Tmp} {s s' : Sta} {σ' : St} {H' : Hp} {v : Val} {fr : Bool} {x : V} (r : Rel F G A τ s σ H) (g : Got (F.sub G A s.w H) τ' s' σ' G' A' H' v fr x) : Got F τ ⟨s.ρ, s'.w⟩ σ G' A' H' v fr x := by
  cases fr with
  | true => obtain ⟨a, e, r'⟩ := g; exact ⟨a, e, r.backT r'⟩
  | false => exact ⟨r.back g.1, g.2⟩
/-- the promise, kept -/
theorem spd_of {F : Fr} {G : Hp} {A : List Addr} {τ : Tmp} {s : Sta} {f : Str} {args : List Val} {xs : List V} {Q : VK} (hw : F.w = X.w) (hK : F.K = X.K) (r : Rel F G A τ s σ H) (q : Reps F.w F.K G A args xs)
    (h : Sat F W σ (RV F τ σ) G A (ofFR s.ρ (Φ f args s.w)) Q) : SpD X.w X.K args.length (Φ f) xs H Q (WE W σ) := by
  refine ⟨F, G, A, τ, s, σ, args, hw, hK, r, rfl, by rw [← hw, ← hK]; exact q, ?_⟩
  cases e : Φ f args s.w with
  | ok v fr w' =>
    rw [e] at h
    intro x G' A' H' τ' s' σ' ew l g
    have g2 := got_back r g
    rw [ew] at g2
    exact h x G' A' H' l g2
  | ex c fs w' =>
    rw [e] at h
    intro d G' A' H' τ' s' σ' ew l r' ea
    have r2 := (r.back r').popAll
    rw [ew] at r2
    have := h d G' A' H' l r2 ea
    rw [hK] at this
    exact this
  | bad => rw [e] at h; exact h
theorem cv_call {f : Str} {es : List E} {Q : VK} (h : tV Φ X W (.call f es) σ H Q) : tCallS (SpD X.w X.K es.length (Φ f)) (WE W) (tL Φ X W es) σ H Q := by
  obtain ⟨F, G, A, τ, s, hw, hK, r, h⟩ := h
  refine ⟨F, G, A, τ, s, hw, hK, r, (Sat.bind (show Sat F W σ _ G A ((evs Φ es s).bind _) Q from h)).imp fun xs H1 ⟨vs, s1, G1, A1, e, l, ⟨r1, q1⟩, h2⟩ => ?_⟩
  rw [← evs_len e]
  exact spd_of hw hK r1 q1 h2
/-! ### fields -/
theorem repF_get {w : World} {K : PySem.W.Frag} {G : Hp} {A : List Addr} {f : Str} : ∀ {fs : List (Str × Val)} {gs : List (Str × V)} {v : Val}, RepF w K G A fs gs → fs.lookup f = some v → ∃ y, gs.lookup f = some y ∧ Rep w K G A v y
  | [], _, _, _, e => by simp at e
  | (g, u) :: r, gs, v, h, e => by
    obtain ⟨y, ds, rfl, h1, h2⟩ := h
    rw [List.lookup_cons] at e ⊢
    by_cases c : (f == g) = true
    · rw [c] at e ⊢; cases e; exact ⟨y, rfl, h1⟩
    · rw [Bool.not_eq_true] at c
      rw [c] at e ⊢; exact repF_get h2 e
theorem cv_fld {a : E} {c f : Str} {Q : VK} (hC : Cls X.K (He.ga X.K c)) (hn : NoAttr X.K (He.ga X.K c) f) (h : tV Φ X W (.fld a c f) σ H Q) : tFld X.K (tP Φ X W a) f σ H Q := by
  obtain ⟨F, G, A, τ, s, hw, hK, r, h⟩ := h
  refine ⟨F, G, A, τ, s, hw, hK, r, (Sat.bind (show Sat F W σ _ G A ((pkOf a (ev Φ a) s).bind _) Q from h)).imp fun x H1 ⟨pv, s1, G1, A1, _, l, ⟨r1, p1⟩, h2⟩ => ?_⟩
  obtain ⟨v, e1, h3⟩ := Sat.opt h2
  have vw := view_of r1 p1 e1
  cases v with
  | ins c' fs =>
    have h5 : Sat F W σ (RV F τ σ) G1 A1 (if c' = c then (optR (fs.lookup f) s1).bind fun u s => Res.ok (u, false) s else Res.bad) Q := h3
    by_cases ec : c' = c
    · subst ec
      rw [if_pos rfl] at h5
      obtain ⟨u, e2, h4⟩ := Sat.opt h5
      obtain ⟨b, dx, gs, rfl, hb, hf⟩ := vw.ins r1
      obtain ⟨y, hy, hr⟩ := repF_get hf e2
      exact ⟨b, _, dx, gs, y, rfl, by rw [hb, hK], hC, hn, hy, out_v r1 hr h4⟩
    · rw [if_neg ec] at h5
      exact h5.elim
  | _ => exact h3.elim
/-! ### methods of lists -/
theorem chk_lst {s : Sta} {p : PV} {u : Unit} (h : chk s p 0 = some u) : ∃ vs, rdv s p = some (.lst vs) := by
  unfold chk at h
  cases e : rdv s p with
  | none => rw [e] at h; cases h
  | some v => cases v <;> rw [e] at h <;> first | exact ⟨_, rfl⟩ | cases h
theorem chk_dct {s : Sta} {p : PV} {u : Unit} (h : chk s p 1 = some u) : ∃ t kvs, rdv s p = some (.dct t kvs) := by
  unfold chk at h
  cases e : rdv s p with
  | none => rw [e] at h; cases h
  | some v => cases v <;> rw [e] at h <;> first | exact ⟨_, _, rfl⟩ | cases h
/-- what is put into a thing that may change -/
theorem put_of {F : Fr} {G : Hp} {A : List Addr} {τ : Tmp} {s : Sta} {o : PV} {g : List Val → Option (List Val × Val)} {Q : VK} {x : V} (r : Rel F G A τ s σ H) (p : PvAt F σ G A x o) (h : Sat F W σ (RV F τ σ) G A (putL o g s) Q) :
    ∃ a vs us res xs, x = .ref a ∧ H a = some (.lst xs) ∧ Reps F.w F.K G A vs xs ∧ g vs = some (us, res) ∧
      ∀ ys y, Reps F.w F.K G A us ys → Rep F.w F.K G A res y → Q y (upd H a (.lst ys)) := by
  cases o with
  | bor i =>
    cases hs : s.ρ[i]? with
    | none => simp only [putL, hs] at h; exact h.elim
    | some b =>
      cases b with
      | own v =>
        cases v with
        | lst vs =>
          simp only [putL, hs] at h
          cases eg : g vs with
          | none => rw [eg] at h; exact h.elim
          | some p' =>
            obtain ⟨us, res⟩ := p'
            rw [eg] at h
            obtain ⟨a, ha⟩ := r.slot i _ hs
            have hx : σ[i]? = some (some x) := p
            rw [ha] at hx
            cases hx
            obtain ⟨_, u, hu, xs, rfl, hr⟩ := r.cell (.slot i) a (.lst vs) (by show slotC s.ρ σ i = _; unfold slotC; rw [hs, ha])
            exact ⟨a, vs, us, res, xs, rfl, hu, hr, eg, fun ys y h1 h2 => h y G A _ Le.refl ⟨r.writeSlot hs ha ⟨ys, rfl, h1⟩, h2⟩⟩
        | _ => simp only [putL, hs] at h; exact h.elim
      | _ => simp only [putL, hs] at h; exact h.elim
  | val v =>
    cases v with
    | obj n =>
      cases hs : s.w[n]? with
      | none => simp only [putL, hs] at h; exact h.elim
      | some b =>
        cases b with
        | none => simp only [putL, hs] at h; exact h.elim
        | some v =>
          cases v with
          | lst vs =>
            simp only [putL, hs] at h
            cases eg : g vs with
            | none => rw [eg] at h; exact h.elim
            | some p' =>
              obtain ⟨us, res⟩ := p'
              rw [eg] at h
              obtain ⟨a, rfl, ha⟩ := (show Rep F.w F.K G A (.obj n) x from p)
              obtain ⟨_, u, hu, xs, rfl, hr⟩ := r.cell (.obj n) a (.lst vs) (objC_some hs ha)
              exact ⟨a, vs, us, res, xs, rfl, hu, hr, eg, fun ys y h1 h2 => h y G A _ Le.refl ⟨r.writeObj hs ha ⟨ys, rfl, h1⟩, h2⟩⟩
          | _ => simp only [putL, hs] at h; exact h.elim
    | _ => exact h.elim
theorem lst_ty {F : Fr} {G : Hp} {A : List Addr} {τ : Tmp} {s : Sta} {K : PySem.W.Frag} {vs : List Val} {x : V} (r : Rel F G A τ s σ H) (v : View F G A H (.lst vs) x) : tyV K "list" x H := by
  obtain ⟨a, xs, rfl, h1, _⟩ := v.lst r
  exact .inl ⟨rfl, xs, sqL h1⟩
/-- l.extend(b) -/
def rExtL : V → List V → Hp → VK → Prop := fun x vs H Q => ∃ l b xs zs, x = .ref l ∧ vs = [.ref b] ∧ H l = some (.lst xs) ∧ Rd H b (.lst zs) ∧ xs.length + zs.length ≤ sizeLine ∧ Q .non (upd H l (.lst (xs ++ zs)))
theorem mt_extL : MtR X "list.extend" rExtL := by
  intro pins s σ H x vs v us Q I rx rv h
  obtain ⟨l, b, xs, zs, rfl, rfl, hH, hB, hz, q⟩ := h
  rcases hB with hB | ⟨o, hB⟩
  · exact mt_extend pins s σ H _ _ v us Q I rx rv ⟨l, b, xs, zs, rfl, rfl, hH, hB, hz, q⟩
  · cases rx
    obtain ⟨u, rfl, ru⟩ := rv.one
    cases ru
    obtain ⟨_, its, n, r, hl, e⟩ := I.lstM hH
    obtain ⟨_, ws, m, r2, e2⟩ := (show Rd H b (.lst zs) from .inr ⟨o, hB⟩).ok I.hok
    have l2 := r2.length
    have sz : its.toArray.size + ws.toArray.size ≤ sizeLine := by
      rw [List.size_toArray, List.size_toArray, ← hl, ← l2]; exact hz
    have ng : ¬ (!its.toArray.isEmpty && Builtin.List.listTooLong (its.toArray.size + ws.toArray.size)) = true := by
      rw [notLongL sz, Bool.and_false]; exact nofun
    refine call_meets PySem.F.slot_list_extend ⟨_, e, rfl⟩ PySem.F.entry_list_extend (PySem.F.args_list_extend_2 _ _) (AutoSeq1.list_extend_list_list_0 l its.toArray n b ws.toArray m ng (by omega) (by omega)) ⟨e, e2, ?_⟩
    exact ⟨.non, _, I.lset (its' := its ++ ws) hH e (by simp) (r.append r2) (by rw [List.length_append]; exact hz), rfl, q⟩
theorem cv_app {o e : E} {Q : VK} (h : tV Φ X W (.app o e) σ H Q) : tBM X.K "list" rAppend (tP Φ X W o) (tCons (tV Φ X W e) tNil) σ H Q := by
  obtain ⟨F, G, A, τ, s, hw, hK, r, h⟩ := h
  refine ⟨F, G, A, τ, s, hw, hK, r, (Sat.bind (show Sat F W σ _ G A ((pkOf o (ev Φ o) s).bind _) Q from h)).imp fun x H1 ⟨pv, s1, G1, A1, _, l, ⟨r1, p1⟩, h2⟩ => ?_⟩
  obtain ⟨_, e1, h3⟩ := Sat.opt h2
  obtain ⟨vs, e2⟩ := chk_lst e1
  refine ⟨lst_ty r1 (view_of r1 p1 e2), F, G1, A1, τ, s1, hw, hK, r1, (Sat.bind h3).imp fun y H2 ⟨p, s2, G2, A2, _, l2, g, h4⟩ => ?_⟩
  obtain ⟨G3, l3, r3, q3⟩ := Got.fix g
  obtain ⟨a, us, ws, res, xs, rfl, ha, hr, eg, k⟩ := put_of r3 ((p1.mono l2).mono l3) (Sat.mono h4 l3)
  have eg' : (if us.length < sizeLine then some (us ++ [p.1], Val.non) else none) = some (ws, res) := eg
  by_cases c : us.length < sizeLine
  · rw [if_pos c] at eg'
    cases eg'
    exact ⟨a, xs, y, rfl, rfl, ha, by rw [hr.length]; exact c, k _ _ (hr.snoc q3) rfl⟩
  · rw [if_neg c] at eg'; cases eg'
theorem cv_ext {o e : E} {Q : VK} (h : tV Φ X W (.ext o e) σ H Q) : tBM X.K "list" rExtL (tP Φ X W o) (tCons (tV Φ X W e) tNil) σ H Q := by
  obtain ⟨F, G, A, τ, s, hw, hK, r, h⟩ := h
  refine ⟨F, G, A, τ, s, hw, hK, r, (Sat.bind (show Sat F W σ _ G A ((pkOf o (ev Φ o) s).bind _) Q from h)).imp fun x H1 ⟨pv, s1, G1, A1, _, l, ⟨r1, p1⟩, h2⟩ => ?_⟩
  obtain ⟨_, e1, h3⟩ := Sat.opt h2
  obtain ⟨vs, e2⟩ := chk_lst e1
  refine ⟨lst_ty r1 (view_of r1 p1 e2), F, G1, A1, τ, s1, hw, hK, r1, (Sat.bind h3).imp fun y H2 ⟨p, s2, G2, A2, _, l2, g, h4⟩ => ?_⟩
  obtain ⟨v, fr⟩ := p
  cases v with
  | lst zs =>
    obtain ⟨G3, l3, r3, q3⟩ := Got.fix g
    obtain ⟨a, us, ws, res, xs, rfl, ha, hr, eg, k⟩ := put_of r3 ((p1.mono l2).mono l3) (Sat.mono h4 l3)
    obtain ⟨b, u, rfl, hb, ys, rfl, hy⟩ := q3
    have eg' : (if us.length + zs.length ≤ sizeLine then some (us ++ zs, Val.non) else none) = some (ws, res) := eg
    by_cases c : us.length + zs.length ≤ sizeLine
    · rw [if_pos c] at eg'
      cases eg'
      exact ⟨a, b, xs, ys, rfl, rfl, ha, rd_up r3.sub hb, by rw [hr.length, hy.length]; exact c, k _ _ (hr.append hy) rfl⟩
    · rw [if_neg c] at eg'; cases eg'
  | _ => exact h4.elim
theorem cv_pop {o : E} {Q : VK} (h : tV Φ X W (.pop o) σ H Q) : tBM0 X.K "list" rPop (tP Φ X W o) σ H Q := by
  obtain ⟨F, G, A, τ, s, hw, hK, r, h⟩ := h
  refine ⟨F, G, A, τ, s, hw, hK, r, (Sat.bind (show Sat F W σ _ G A ((pkOf o (ev Φ o) s).bind _) Q from h)).imp fun x H1 ⟨pv, s1, G1, A1, _, l, ⟨r1, p1⟩, h2⟩ => ?_⟩
  obtain ⟨a, us, ws, res, xs, rfl, ha, hr, eg, k⟩ := put_of r1 p1 h2
  refine ⟨.inl ⟨rfl, xs, sqL (.inl ha)⟩, ?_⟩
  have eg' : (match us.getLast? with | some v => some (us.dropLast, v) | none => none) = some (ws, res) := eg
  cases e : us.getLast? with
  | none => rw [e] at eg'; cases eg'
  | some v =>
    rw [e] at eg'
    cases eg'
    rw [List.getLast?_eq_getElem?] at e
    obtain ⟨y, hy, hq⟩ := hr.get e
    refine ⟨a, xs, y, rfl, rfl, ha, by rw [hr.length]; exact hy, k _ _ ?_ hq⟩
    rw [List.dropLast_eq_take, List.dropLast_eq_take, hr.length]
    exact hr.take _
end
end TL

set_option Elab.async false
set_option linter.all false
set_option maxRecDepth 100000
set_option maxHeartbeats 4000000
/-! LTP: readings of more expressions. -/
namespace TL
open PySem PySem.Spec PyProof.Rows L2
section
variable {F : Fr} {G : Hp} {A : List Addr} {τ : Tmp} {s : Sta} {σ : St} {H : Hp}
/-- what nobody holds is written -/
theorem Rel.wr (r : Rel F G A τ s σ H) {p : Addr} {u : HO} (hG : G p = none) (h0 : F.H0 p = none) (hc : ∀ c v, cellAt s τ σ A c ≠ some (p, v)) : Rel F G A τ s σ (upd H p u) where
  ext := ⟨r.ext.le, r.ext.new, fun a v h1 h2 h3 => by
    have e : a ≠ p := fun e => by rw [e, h0] at h1; cases h1
    rw [upd_ne e]; exact r.ext.keep a v h1 h2 h3, fun a h => by
    by_cases e : a = p
    · subst e; rw [upd_same]; simp
    · rw [upd_ne e]; exact r.ext.dom a h, r.ext.fresh⟩
  sub := fun a v e => by
    have q : a ≠ p := fun q => by rw [q, hG] at e; cases e
    rw [upd_ne q]; exact r.sub a v e
  len := r.len
  wlen := r.wlen
  slot := r.slot
  cell := fun c a v e => by
    obtain ⟨h1, w, h2, h3⟩ := r.cell c a v e
    have q : a ≠ p := fun q => by subst q; exact hc c v e
    exact ⟨h1, w, by rw [upd_ne q]; exact h2, h3⟩
  inj := r.inj
  new := r.new
  old := r.old
/-- the uppermost temporary is written -/
theorem Rel.wrT {p : Addr} {v v' : Val} {u : HO} (r : Rel F G A ((p, v) :: τ) s σ H) (hb : Body F.w F.K G A v' u p) : Rel F G A ((p, v') :: τ) s σ (upd H p u) := by
  obtain ⟨h1, h2, ⟨_, h3, _⟩, h5⟩ := r.top
  exact (r.pop.wr h1 h2 h5).push h1 h2 upd_same hb h5
end
section
variable {Φ : Fns} {X : Cx} {W : WX} {σ : St} {H : Hp}
/-! ### slices -/
def rCut (X : Cx) : V → Option Int → Option Int → Hp → VK → Prop := fun x lo hi H Q => ∃ (F : Fr) (G : Hp) (A : List Addr) (τ : Tmp) (s : Sta) (σ : St) (v v' : Val) (fr : Bool), F.w = X.w ∧ F.K = X.K ∧ Rel F G A τ s σ H ∧ View F G A H v x ∧
  primCut v lo hi = some (v', fr) ∧ ∀ y G' A' H', Le G A G' A' → Got F τ s σ G' A' H' v' fr y → Q y H'
theorem reps_cut {w : World} {K : PySem.W.Frag} {G : Hp} {A : List Addr} {vs : List Val} {xs : List V} (h : Reps w K G A vs xs) (lo hi : Option Int) : Reps w K G A (vCut vs lo hi) (cutV xs lo hi) := by
  unfold vCut cutV
  rw [h.length]
  exact (h.drop _).take _
theorem sl_cut : SlR X (rCut X) := by
  intro pins sh σ0 H x u vl vu lo hi sl Q I rx hs pl pu h
  obtain ⟨⟨w, K, H0, G0, A0, l0⟩, G, A, τ, s, σ, v, v', fr, hw, hK, r, vx, e, q⟩ := h
  dsimp only at hw hK
  subst hw hK
  cases v <;> try (exact absurd (show (none : Option (Val × Bool)) = some _ from e) nofun)
  · obtain ⟨rfl, rfl⟩ := pr_inj e
    rename_i vs
    have hx := vx.rtup
    obtain ⟨a, xs, rfl, h1, h2⟩ := id hx
    refine sl_tupA pins sh σ0 H _ u vl vu lo hi sl Q I rx hs pl pu ⟨a, xs, rfl, sqT (r.sub _ _ h1), fun hw => ?_, fun _ p hp => out_t r (reps_cut h2 lo hi) hp q⟩
    have e : vCut vs lo hi = vs := by
      unfold vCut
      rw [h2.length] at hw
      rw [hw.1, hw.2]
      simp
    rw [e] at q
    exact out_v r hx q
  · obtain ⟨rfl, rfl⟩ := pr_inj e
    obtain ⟨a, xs, rfl, h1, h2⟩ := vx.lst r
    exact sl_list pins sh σ0 H _ u vl vu lo hi sl Q I rx hs pl pu ⟨a, xs, rfl, sqL h1, fun p hp => out_l r (reps_cut h2 lo hi) hp q⟩
theorem cv_cut {a : E} {lo hi : Option E} {Q : VK} (h : tV Φ X W (.cut a lo hi) σ H Q) : tSl (rCut X) (tP Φ X W a) (tO Φ X W lo) (tO Φ X W hi) σ H Q := by
  obtain ⟨F, G, A, τ, s, hw, hK, r, h⟩ := h
  refine ⟨F, G, A, τ, s, hw, hK, r, (Sat.bind (show Sat F W σ _ G A ((pkOf a (ev Φ a) s).bind _) Q from h)).imp fun x H1 ⟨pv, s1, G1, A1, _, l, ⟨r1, p1⟩, h2⟩ => ?_⟩
  refine ⟨F, G1, A1, τ, s1, hw, hK, r1, (Sat.bind h2).imp fun o H2 ⟨o', s2, G2, A2, _, l2, ⟨r2, e2⟩, h3⟩ => ?_⟩
  subst e2
  refine ⟨F, G2, A2, τ, s2, hw, hK, r2, (Sat.bind h3).imp fun o3 H3 ⟨o3', s3, G3, A3, _, l3, ⟨r3, e3⟩, h4⟩ => ?_⟩
  subst e3
  obtain ⟨v, e4, h5⟩ := Sat.opt h4
  obtain ⟨⟨v', fr⟩, e5, h6⟩ := Sat.opt1 h5
  exact ⟨F, G3, A3, τ, s3, σ, v, v', fr, hw, hK, r3, view_of r3 ((p1.mono l2).mono l3) e4, e5, h6⟩
theorem cv_o {e : E} {Q : Option Int → Hp → Prop} (h : tO Φ X W (some e) σ H Q) : tPart (tV Φ X W e) σ H Q := by
  obtain ⟨F, G, A, τ, s, hw, hK, r, h⟩ := h
  refine ⟨F, G, A, τ, s, hw, hK, r, (Sat.bind (show Sat F W σ _ G A ((ev Φ e s).bind _) Q from h)).imp fun x H1 ⟨⟨v, fr⟩, s1, G1, A1, _, l, g, h2⟩ => ?_⟩
  cases v with
  | int i =>
    obtain ⟨rfl, r1⟩ := Got.int g
    exact ⟨i, rfl, h2 _ G1 A1 H1 Le.refl ⟨r1, rfl⟩⟩
  | _ => exact h2.elim
theorem cv_on {Q : Option Int → Hp → Prop} (h : tO Φ X W none σ H Q) : tNoPart σ H Q := by
  obtain ⟨F, G, A, τ, s, hw, hK, r, h⟩ := h
  exact h none G A H Le.refl ⟨r, rfl⟩
/-! ### l.index(x) -/
def rIdx (X : Cx) : V → List V → Hp → VK → Prop := fun x xs H Q => ∃ (y : V) (F : Fr) (G : Hp) (A : List Addr) (τ : Tmp) (s : Sta) (σ : St) (vs : List Val) (u : Val) (n : Nat), xs = [y] ∧ F.w = X.w ∧ F.K = X.K ∧ Rel F G A τ s σ H ∧ View F G A H (.lst vs) x ∧ Rep F.w F.K G A u y ∧
  vIndex u vs = some n ∧ Q (.int n) H
theorem mt_idx (hu : X.A.units + 65 < cLine) : MtR X "list.index" (rIdx X) := by
  intro pins sh σ0 H x xs v us Q I rx rxs h
  obtain ⟨y, F, G, A, τ, s, σ, vs, u, n, rfl, hw, hK, r, vx, hy, e, q⟩ := h
  unfold vIndex at e
  cases h1 : pd DEP u with
  | none => rw [h1] at e; cases e
  | some d =>
    cases h2 : pds DEP vs with
    | none => rw [h1, h2] at e; cases e
    | some ds =>
      rw [h1, h2] at e
      have e' : (ds.findIdx? fun z => PyData.eqv z d) = some n := e
      obtain ⟨hn, h4, h5⟩ := List.findIdx?_eq_some_iff_getElem.mp e'
      have h3 : pd (DEP + 1) (.lst vs) = some (.list ds) := by simp only [pd, h2, Option.map_some]
      obtain ⟨a, _, rfl, _⟩ := vx.lst r
      refine mt_indexD hu pins sh σ0 H _ _ v us Q I rx rxs ⟨a, y, d, ds, n, ds[n], rfl, rfl, hK ▸ vx.dp r h3, hK ▸ rep_dp r.sub _ _ _ _ h1 hy, shaped_of (pd_lay _ _ _ h3) (by decide), shaped_of (pd_lay _ _ _ h1) (by decide), List.getElem?_eq_getElem hn, h4, fun m z hm hz => ?_, q⟩
      have hml : m < ds.length := by omega
      rw [List.getElem?_eq_getElem hml] at hz
      cases hz
      have := h5 m hm
      simpa using this
theorem cv_idx {l x : E} {Q : VK} (h : tV Φ X W (.index l x) σ H Q) : tBM X.K "list" (rIdx X) (tP Φ X W l) (tCons (tV Φ X W x) tNil) σ H Q := by
  obtain ⟨F, G, A, τ, s, hw, hK, r, h⟩ := h
  refine ⟨F, G, A, τ, s, hw, hK, r, (Sat.bind (show Sat F W σ _ G A ((pkOf l (ev Φ l) s).bind _) Q from h)).imp fun x1 H1 ⟨pv, s1, G1, A1, _, l1, ⟨r1, p1⟩, h2⟩ => ?_⟩
  obtain ⟨_, e1, h3⟩ := Sat.opt h2
  obtain ⟨vs, e2⟩ := chk_lst e1
  refine ⟨lst_ty r1 (view_of r1 p1 e2), F, G1, A1, τ, s1, hw, hK, r1, (Sat.bind h3).imp fun y H2 ⟨p, s2, G2, A2, _, l2, g, h4⟩ => ?_⟩
  obtain ⟨G3, l3, r3, q3⟩ := Got.fix g
  obtain ⟨lv, e4, h5⟩ := Sat.opt h4
  cases lv with
  | lst ws =>
    obtain ⟨n, e5, h6⟩ := Sat.opt h5
    exact ⟨y, F, G3, A2, τ, s2, σ, ws, p.1, n, rfl, hw, hK, r3, view_of r3 ((p1.mono l2).mono l3) e4, q3, e5, h6 _ G3 A2 H2 l3 ⟨r3, rfl⟩⟩
  | _ => exact h5.elim
/-! ### d.get(k, v) -/
def isDct (x : V) (H : Hp) : Prop := ∃ a es ep, x = .ref a ∧ H a = some (dictHO a es ep)
def rGetD (X : Cx) : V → List V → Hp → VK → Prop := fun x xs H Q => ∃ (k y : V) (F : Fr) (G : Hp) (A : List Addr) (τ : Tmp) (s : Sta) (σ : St) (t : Bool) (kvs : List (NestedKey × Val)) (kk : NestedKey) (v0 : Val), xs = [k, y] ∧ F.w = X.w ∧ F.K = X.K ∧ Rel F G A τ s σ H ∧
  View F G A H (.dct t kvs) x ∧ KeyV G t kk k ∧ Rep F.w F.K G A v0 y ∧ ∀ z, Rep F.w F.K G A ((dGet kvs kk).getD v0) z → Q z H
theorem mt_getD (hu : X.A.units + 65 < cLine) : MtR X "dict.get" (rGetD X) := by
  intro pins sh σ0 H x xs v us Q I rx rxs h
  obtain ⟨k, y, ⟨w, K, H0, G0, A0, l0⟩, G, A, τ, s, σ, t, kvs, kk, v0, rfl, hw, hK, r, vx, hk, hy, q⟩ := h
  dsimp only at hw hK
  subst hw hK
  obtain ⟨u1, u2, rfl, r1, r2⟩ := vals2 rxs
  obtain ⟨a, rfl, d⟩ := vx.dat r
  cases (show v = Value.ref a from rx)
  exact dd_getd (by omega) I r.sub d hk r1 r2 hy fun z u tk h1 h2 => ⟨z, H, I.tok _, h1, q z h2⟩
theorem pe_dget {o k v : Expr} {to : TE} {t : TA} {apos cpos : Pos} (hu : X.A.units + 65 < cLine) (ho : PE X o to) (ha : PA X [k, v] t) (hb : okBase o = true) (hp : [k, v].all plainA = true) (hl : (apos.endLine == cpos.line) = true) :
    PE X (.Call (.Attribute o "get" apos) [k, v] [] cpos) (fun σ H Q => to σ H fun x H1 => isDct x H1 ∧ t σ H1 fun xs H2 => rGetD X x xs H2 Q) := by
  have hp1 : plainA k = true := by simp at hp; exact hp.1
  have hp2 : plainA v = true := by simp at hp; exact hp.2
  refine ⟨fun pins s σ H Q I h => ?_⟩
  have es : starEach [k, v] X.env = [(false, eval k X.env), (false, eval v X.env)] := by rw [starP hp1, starP hp2]; rfl
  refine wpAny_Call_method_late (baseP hb) (by rw [es]; rfl) hl rfl (thn (ho.run pins s σ H _ I h) fun u s1 ⟨x, H1, I1, r1, ⟨a, ees, ep, ex, ea⟩, q1⟩ => ?_)
  subst ex
  cases (show u = Value.ref a from r1)
  have eo := dict_obj I1.hok ea
  refine ⟨"dict", "dict.get", PySem.F.plainAttrs_dict, PySem.F.slot_dict_get, PySem.F.type_dict_get, ⟨_, eo, rfl⟩, fun b e => by cases e; exact ⟨_, eo, rfl⟩, ?_⟩
  have hA := ha.run cpos pins s1 σ H1 _ I1 q1
  rw [es] at hA ⊢
  exact Calls.callWith_builtin rfl (Calls.evalArgs_plain (thn hA fun us s2 ⟨vs, H2, I2, r2, q2⟩ => mt_getD hu pins s2 σ H2 _ vs _ us Q I2 r1 r2 q2))
theorem cv_get {d k x : E} {Q : VK} (h : tV Φ X W (.get d k x) σ H Q) : tP Φ X W d σ H fun x1 H1 => isDct x1 H1 ∧ tCons (tV Φ X W k) (tCons (tV Φ X W x) tNil) σ H1 fun xs H2 => rGetD X x1 xs H2 Q := by
  obtain ⟨F, G, A, τ, s, hw, hK, r, h⟩ := h
  refine ⟨F, G, A, τ, s, hw, hK, r, (Sat.bind (show Sat F W σ _ G A ((pkOf d (ev Φ d) s).bind _) Q from h)).imp fun x1 H1 ⟨pv, s1, G1, A1, _, l1, ⟨r1, p1⟩, h2⟩ => ?_⟩
  obtain ⟨_, e1, h3⟩ := Sat.opt h2
  obtain ⟨t, kvs, e2⟩ := chk_dct e1
  obtain ⟨a, es, ep, ea, eb, _⟩ := (view_of r1 p1 e2).dct r1
  refine ⟨⟨a, es, ep, ea, eb⟩, F, G1, A1, τ, s1, hw, hK, r1, (Sat.bind h3).imp fun y H2 ⟨p, s2, G2, A2, _, l2, g, h4⟩ => ?_⟩
  obtain ⟨G3, l3, r3, q3⟩ := Got.fix g
  refine ⟨F, G3, A2, τ, s2, hw, hK, r3, (Sat.bind (Sat.mono h4 l3)).imp fun z H3 ⟨p', s3, G4, A4, _, l4, g4, h5⟩ => ?_⟩
  obtain ⟨G5, l5, r5, q5⟩ := Got.fix g4
  obtain ⟨dv, e6, h6⟩ := Sat.opt h5
  cases dv with
  | dct t' kvs' =>
    obtain ⟨kk, e7, h7⟩ := Sat.opt h6
    have hx := view_of r5 ((((p1.mono l2).mono l3).mono l4).mono l5) e6
    refine ⟨y, z, F, G5, A4, τ, s3, σ, t', kvs', kk, p'.1, rfl, hw, hK, r5, hx, keyV (H := H3) e7 (.inl (Rep.mono l5 _ _ (Rep.mono l4 _ _ q3))), q5, fun zz hz => h7 zz G5 A4 H3 l5 ⟨r5, hz⟩⟩
  | _ => exact h6.elim
end
end TL

set_option Elab.async false
set_option linter.all false
set_option maxRecDepth 100000
set_option maxHeartbeats 4000000
/-! LTLb: sets of rows, made from lists: few different rows, the list as long as it is. -/
namespace TL
open PySem PySem.Spec PyProof.Rows L2
/-- few different rows -/
def FewRows (ks : List (Addr × List Int)) : Prop := ∀ M : List (Addr × List Int), (∀ p ∈ M, p ∈ ks) → (M.map (·.2)).Nodup → M.length < 63
section
variable {P : Program} {w : World} {A : Around} {E : Value → Shared → Prop} {s : Shared}
/-- the loop that adds -/
theorem rows_loop {I : Addr} {fp wr : List Addr} {G : Array GenState → Array GenState → Prop} {n : Nat} {Pv : Nat → Value → Prop} {St : Nat → Shared → Prop} {S : Addr} {ks : List (Addr × List Int)} {b0 : Heap}
    (W : WalksS P w A.in1 I fp wr G n Pv St) (nf : S ∉ fp) (hn : n = ks.length) (few : FewRows ks) (hv : ∀ i v, Pv i v → ∃ p, ks[i]? = some p ∧ v = .ref p.1)
    (ok0 : ∀ p ∈ ks, IsT P w b0 p.2 p.1) (no0 : b0.get? S = none) (no1 : ∀ b ∈ wr, b0.get? b = none) (un : A.in1.units < cLine) :
    ∀ (m i : Nat) (s : Shared) (R : Result → Shared → Prop), n - i = m → i ≤ n → St i s → (∀ b o, b0.get? b = some o → s.heap.get? b = some o) → (∃ L es ep t, SetTR P w s.heap S L es ep t ∧ L2.Got ks i L) →
      (∀ s1 L es ep t, Moved (S :: wr) G s s1 → SetTR P w s1.heap S L es ep t → L2.Got ks n L → (∀ b o, b0.get? b = some o → s1.heap.get? b = some o) → R (.ok (.ret .none)) s1) →
      codeAny (model P w) A (.builtin "set.update.loop" ⟨[.ref S, .ref I], []⟩) R s := by
  have nw : S ∉ wr := fun h => nf (W.sub _ h)
  have up : ∀ b ∈ wr, b ∈ S :: wr := fun b h => List.mem_cons_of_mem _ h
  have stay : ∀ {x y : Shared}, Moved wr G x y → (∀ b o, b0.get? b = some o → x.heap.get? b = some o) → ∀ b o, b0.get? b = some o → y.heap.get? b = some o := fun mv q b o e =>
    mv.heap b o (fun h => by have := no1 b h; rw [this] at e; cases e) (q b o e)
  intro m; induction m with
  | zero =>
    rintro i s R hm hi st kp ⟨L, es, ep, t, T, got⟩ k
    have ei : i = n := by omega
    subst ei
    refine codeAny_builtin F.entry_set_update_loop ?_
    rw [Around.under_plainId F.plain_set_update_loop _]; show wpAny _ A.in1 (pyNext (.ref I) >>= _) _ _ s
    refine wpAny_bind (W.done s _ _ st fun s1 mv => ?_)
    show wpAny _ A.in1 (ret Value.none) _ _ s1; have kp1 := stay mv kp
    have T1 : SetTR P w s1.heap S L es ep t := T.keep (fun o e => mv.heap S o nw e) fun p hp => isT_keep (ok0 p (List.mem_of_mem_take (got.sub p hp))) kp1
    exact wpAny_pure (k s1 L es ep t (mv.mono up) T1 got kp1)
  | succ m ih =>
    rintro i s R hm hi st kp ⟨L, es, ep, t, T, got⟩ k
    have hin : i < n := by omega
    refine codeAny_builtin F.entry_set_update_loop ?_
    rw [Around.under_plainId F.plain_set_update_loop _]; show wpAny _ A.in1 (pyNext (.ref I) >>= _) _ _ s
    refine wpAny_bind (W.item i s _ _ hin st fun v s1 hPv st1 mv => ?_)
    obtain ⟨x, hx, rfl⟩ := hv i v hPv; have kp1 := stay mv kp
    have inks : ∀ p ∈ L, p ∈ ks := fun p hp => List.mem_of_mem_take (got.sub p hp)
    have T1 : SetTR P w s1.heap S L es ep t := T.keep (fun o e => mv.heap S o nw e) fun p hp => isT_keep (ok0 p (inks p hp)) kp1
    have isx : IsT P w s1.heap x.2 x.1 := isT_keep (ok0 x (List.mem_of_getElem? hx)) kp1
    have fw := few L inks T.nd
    show wpAny _ A.in1 (holding [Value.ref x.1] (setAdd S (.ref x.1)) >>= _) _ _ s1; refine wpAny_bind (wpAny_holding ?_)
    unfold setAdd; refine wpAny_holding (wpAny_bind (wpAny_pyHash_tuple un isx ?_))
    refine add_at (s := { s1 with toks := s1.toks + (x.2.length + 1) }) T1 isx un (by omega) fun bb h2 Lb es2 ep2 t2 same T2 c1 c2 => ?_
    have got2 : L2.Got ks (i + 1) Lb := by
      by_cases c : x.2 ∈ L.map (·.2)
      · exact (c1 c) ▸ got.same hx c
      · exact got.more hx (c2 c)
    have kp2 : ∀ b o, b0.get? b = some o → h2.get? b = some o := fun b o e => (same.2 b (by rintro rfl; rw [no0] at e; cases e)).trans (kp1 b o e)
    refine wpAny_pure ⟨plainId_quiet F.plain_set_update_loop _, ih (i + 1) _ _ (by omega) hin (W.frame _ s1 _ _ st1 (Nat.le_add_right _ _) fun b hb o e => ?_) kp2 ⟨Lb, es2, ep2, t2, T2, got2⟩ fun s3 L3 es3 ep3 t3 mv3 T3 got3 kp3 => ?_⟩
    · rw [same.2 b (by rintro rfl; exact nf hb)]; exact e
    · refine k s3 L3 es3 ep3 t3 (Moved.trans W.gtrans ((mv.mono up).then_heap (Nat.le_add_right _ _) fun b o hb e => ?_) mv3) T3 got3 kp3
      rw [same.2 b (by rintro rfl; exact hb List.mem_cons_self)]; exact e
theorem set_of_rows {l : Addr} {its : Array Value} (ks : List (Addr × List Int)) {Q : Value → Shared → Prop} (ha : A.handled = none) (hl : s.heap.IsList l its) (hi : its.toList = ks.map fun p => Value.ref p.1) (ok0 : ∀ p ∈ ks, IsT P w s.heap p.2 p.1) (few : FewRows ks) (un : A.units + 3 < cLine)
    (hQ : ∀ (g : Heap) (tk : Nat) L es ep t, SetTR P w g s.heap.objs.size L es ep t → L2.Got ks ks.length L → (∀ b o, s.heap.get? b = some o → g.get? b = some o) → Q (.ref s.heap.objs.size) { s with heap := g, toks := tk }) :
    wpAny (model P w) A (call (.type "set") [.ref l]) Q E s := by
  have sz : its.size = ks.length := by
    have := congrArg List.length hi
    rwa [Array.length_toList, List.length_map] at this
  obtain ⟨c, tl, mro⟩ := PySem.F.called_set.mro; have made := PySem.F.called_set.made; have sub := PySem.F.called_set.sub
  refine wpAny_call (codeAny_of_tree (show wpAny _ _ (callAny (.type "set") _) _ _ _ from ?_))
  refine wpAny_pure ⟨Code.quiet_builtin _ (by decide +kernel), codeAny_builtin PySem.F.entry_type_call ?_⟩
  rw [Around.under_plain (weight_type_call_type "set" [.ref l] []) rfl]; have f1 := PySem.F.called_set.notType; have f2 := PySem.F.called_set.canCreate
  have f3 := PySem.F.typeCall_set_1 (.ref l); repeat (any_goals (first | assumption | wp_step))

  refine codeAny_mono (code_set_led1 (.ref l) (E := E) (Q₁ := fun ob s1 => ob = .ref s.heap.objs.size ∧ s1 = { s with heap := s.heap.push (so0 w) }) ⟨rfl, rfl⟩) fun r s1 hr => ?_
  cases r with
  | error e => exact hr
  | ok fl =>
    cases fl with
    | ret obj =>
      obtain ⟨rfl, rfl⟩ := hr
      have hS : (s.heap.push (so0 w)).get? s.heap.objs.size = some (so0 w) := Heap.get?_push_size _ rfl
      have hT : Shared.TypeIs { s with heap := s.heap.push (so0 w) } (.ref s.heap.objs.size) "set" := ⟨_, hS, rfl⟩
      have g1 := PySem.F.called_set.init.lookup; have g2 := PySem.F.called_set.init.bind (.ref s.heap.objs.size); repeat (any_goals (first | assumption | wp_step))

      refine codeAny_mono (codeAny_call_builtin (R := wants (fun r s2 => r = .none ∧ ∃ g tk L es ep t, s2 = { s with heap := g, toks := tk } ∧ SetTR P w g s.heap.objs.size L es ep t ∧ L2.Got ks ks.length L ∧
          (∀ b o, s.heap.get? b = some o → g.get? b = some o)) E) PySem.F.called_set.init.plain PySem.F.entry_set_init (check_set_init_1 hT ?_)) fun r2 s2 hr2 => ?_
      · obtain ⟨⟨oc, od, odt, osl⟩, hol, hcl, nl, hdl⟩ := hl
        simp only at hcl hdl; subst hcl; subst hdl
        have hol' : (s.heap.push (so0 w)).get? l = some { cls := .type "list", dict := od, data := .seq its nl, slots := osl } := Heap.get?_push_of_some _ hol
        have k1 := PySem.F.sub_list_set; have k2 := PySem.F.sub_list_frozenset; have k3 : (Value.type "list" == Value.type "dict") = false := by decide
        have hl1 : (s.heap.push (so0 w)).IsList l its := ⟨_, hol', rfl, nl, rfl⟩
        unfold Builtin.«set.__init__» noKeywords Builtin.Frozenset.updateFrom; generalize hPI : pyIter = PI
        wp_walk; subst hPI

        refine wpAny_pyIter_list hl1 (wpAny_bind (wpAny_runValue ?_))
        have hlt : l < s.heap.objs.size := Heap.lt_size hol; have hh : A.in1.in1.in1.handled = none := by simp [ha]
        have hp : (s.heap.push (so0 w)).objs.size = s.heap.objs.size + 1 := Heap.size_push ..
        have ne : l ≠ (s.heap.push (so0 w)).objs.size := by rw [hp]; exact Nat.ne_of_lt (Nat.lt_succ_of_lt hlt)
        have nf : s.heap.objs.size ∉ [(s.heap.push (so0 w)).objs.size, l] := by
          rw [hp]; simp only [List.mem_cons, List.not_mem_nil, or_false, not_or]; exact ⟨Nat.ne_of_lt (Nat.lt_succ_self _), Nat.ne_of_gt hlt⟩
        have hv : ∀ (i : Nat) (v : Value), its[i]? = some v → ∃ p, ks[i]? = some p ∧ v = .ref p.1 := fun i v e => by
          have q : its.toList[i]? = some v := by rw [Array.getElem?_toList]; exact e
          rw [hi, List.getElem?_map] at q
          match hq : ks[i]?, q with
          | some p, q => exact ⟨p, rfl, (Option.some.inj q).symm⟩
          | none, q => cases q
        have no : ∀ b, s.heap.objs.size ≤ b → s.heap.get? b = none := fun b h => by
          match q : s.heap.get? b with
          | none => rfl
          | some o => exact absurd (Nat.lt_of_lt_of_le (Heap.lt_size q) h) (Nat.lt_irrefl _)
        refine rows_loop ((Walks.list hh _ l ne its).toS) nf sz few hv ok0 (no _ (Nat.le_refl _)) (fun b hb => no b (by
          rw [List.mem_singleton.mp hb, Heap.size_push]; exact Nat.le_succ _)) un (its.size - 0) 0 _ _ (by omega) (Nat.zero_le _) ⟨⟨_, Heap.get?_push_size _ rfl, rfl, rfl⟩, hl1.push _⟩ (fun b o e => Heap.get?_push_of_some _ (Heap.get?_push_of_some _ e)) ?zz1 ?zz2
        case zz1 => exact ⟨[], #[], 0, _, setTR_fresh (Heap.get?_push_of_some _ hS), L2.Got.zero ks⟩
        case zz2 =>
          intro s' L es ep t hm hS' got kp; obtain ⟨g, g2, d, tk, os⟩ := s'
          have eg : g2 = s.gens := hm.gens; have ed : d = s.drawn := hm.drawn; have eo : os = s.os := hm.os
          subst eg ed eo
          show wpAny _ _ _ _ _ _; refine wpAny_pure (show wpAny _ _ (ret Value.none) _ _ _ from ?_)
          rw [sz] at got; exact wpAny_pure ⟨rfl, g, tk, L, es, ep, t, rfl, hS', got, kp⟩

      · cases r2 with
        | error e => exact hr2
        | ok fl2 =>
          cases fl2 with
          | ret r =>
            obtain ⟨rfl, g, tk, L, es, ep, t, rfl, hS', got, hk⟩ := hr2
            repeat (any_goals (first | assumption | wp_step))
            exact hQ _ _ _ _ _ _ hS' got hk
          | _ => exact hr2.elim
    | _ => exact hr.elim
end
/-- set(xs) of a list of rows -/
def rSetRows (X : Cx) : List V → Hp → VK → Prop := fun xs H Q => ∃ (l : Addr) (ks : List (Addr × List Int)), xs = [V.ref l] ∧ SqL X.K H l (ks.map fun p => V.ref p.1) ∧ (∀ p ∈ ks, SqT X.K H p.1 (p.2.map V.int)) ∧ FewRows ks ∧
  ∀ a L, H a = none → (∀ p ∈ L, p ∈ ks) → (∀ p ∈ ks, p.2 ∈ L.map (·.2)) → Q (.ref a) (upd H a (SetTO X.prog X.w a L))
theorem cr_setRows {X : Cx} (hc : X.calm = true) (hu : X.A.units + 64 < cLine) : CallR X (.type "set") (rSetRows X) := by
  intro pins s σ H xs us Q I r h
  obtain ⟨l, ks, rfl, hl, hk, few, q⟩ := h
  obtain ⟨its, rv, pl, _⟩ := I.list hl
  rw [Vals.ref1 r]
  refine set_of_rows (P := X.prog) (w := X.w) ks (I.ok.hd hc) pl.isList (by simpa using refs_of_vals rv) (fun p hp => I.isT (hk p hp)) few (by omega) fun g tk L es ep t R got k => ⟨.ref s.heap.objs.size, _, I.laid (t' := tk) k (Nat.le_refl _) (setTO_new R.t0), rfl, ?_⟩
  exact q _ L (I.hok.fresh (Nat.le_refl _)) (fun p hp => List.mem_of_mem_take (got.sub p hp)) fun p hp => got.all p (by rw [List.take_length]; exact hp)
end TL

set_option Elab.async false
set_option linter.all false
set_option maxRecDepth 100000
set_option maxHeartbeats 4000000
/-! LTQ: rows in order, sets, new dicts. -/
namespace TL
open PySem PySem.Spec PyProof.Rows L2
/-! ### rows of ints -/
theorem cd_code : ∀ r : List Int, cd r = TS.code 64 r
  | [] => rfl
  | d :: r => by show d * 64 ^ r.length + cd r = d * 64 ^ r.length + TS.code 64 r; rw [cd_code r]
def RowOk (d : Nat) (r : List Int) : Prop := r.length = d ∧ TS.Bd 64 r
theorem rowsB_ok {rs : List (List Int)} (h : rowsB rs = true) : rs.length < 64 ∧ ∃ d, 1 ≤ d ∧ ∀ r ∈ rs, RowOk d r := by
  simp only [rowsB, Bool.and_eq_true, decide_eq_true_eq, List.all_eq_true] at h
  obtain ⟨h1, h2, h3⟩ := h
  exact ⟨h1, _, h2, fun r hr => ⟨(h3 r hr).1, fun m hm => (h3 r hr).2 m hm⟩⟩
theorem rowsS_ok {rs : List (List Int)} (h : rowsS rs = true) : (tusort rs).length < 63 ∧ ∃ d, 1 ≤ d ∧ ∀ r ∈ rs, RowOk d r := by
  simp only [rowsS, Bool.and_eq_true, decide_eq_true_eq, List.all_eq_true] at h
  obtain ⟨h1, h2, h3⟩ := h
  exact ⟨h1, _, h2, fun r hr => ⟨(h3 r hr).1, fun m hm => (h3 r hr).2 m hm⟩⟩
theorem nds_len {α : Type} [DecidableEq α] : ∀ {l M : List α}, l.Nodup → (∀ x ∈ l, x ∈ M) → l.length ≤ M.length
  | [], _, _, _ => Nat.zero_le _
  | x :: l, M, nd, h => by
    rw [List.nodup_cons] at nd
    have hx := h x List.mem_cons_self
    have := nds_len (l := l) (M := M.erase x) nd.2 fun y hy => by
      rw [List.mem_erase_of_ne (by rintro rfl; exact nd.1 hy)]
      exact h y (List.mem_cons_of_mem _ hy)
    rw [List.length_erase_of_mem hx] at this
    have : 0 < M.length := List.length_pos_of_mem hx
    simp only [List.length_cons]
    omega
theorem cd_inj : ∀ {x y : List Int}, x.length = y.length → TS.Bd 64 x → TS.Bd 64 y → cd x = cd y → x = y
  | [], [], _, _, _, _ => rfl
  | [], _ :: _, h, _, _, _ => by simp at h
  | _ :: _, [], h, _, _, _ => by simp at h
  | a :: x, b :: y, h, hx, hy, e => by
    have hl : x.length = y.length := by simpa using h
    rw [cd_code, cd_code] at e
    rcases Int.lt_trichotomy a b with c | c | c
    · have := TS.code_lt hl hx.tail hy.tail c
      omega
    · subst c
      have e2 : cd x = cd y := by
        have e' : a * 64 ^ x.length + TS.code 64 x = a * 64 ^ y.length + TS.code 64 y := e
        rw [hl] at e'
        rw [cd_code, cd_code]; omega
      rw [cd_inj hl hx.tail hy.tail e2]
    · have := TS.code_lt hl.symm hy.tail hx.tail c
      omega
theorem insT_perm (x : List Int) : ∀ l, (insT x l).Perm (x :: l)
  | [] => .refl _
  | y :: ys => by
    unfold insT
    split
    · exact .refl _
    · exact ((insT_perm x ys).cons y).trans (.swap x y ys)
theorem tsort_perm : ∀ l, (tsort l).Perm l
  | [] => .refl _
  | x :: xs => (insT_perm x _).trans ((tsort_perm xs).cons x)
theorem insT_sorted {x : List Int} : ∀ {l}, l.Pairwise (fun a b => cd a ≤ cd b) → (insT x l).Pairwise (fun a b => cd a ≤ cd b)
  | [], _ => by simp [insT]
  | y :: ys, h => by
    unfold insT
    rw [List.pairwise_cons] at h
    split
    · rename_i q
      rw [List.pairwise_cons]
      refine ⟨fun z hz => ?_, List.pairwise_cons.mpr h⟩
      rcases List.mem_cons.mp hz with rfl | hz
      · exact q
      · exact Int.le_trans q (h.1 z hz)
    · rename_i q
      rw [List.pairwise_cons]
      refine ⟨fun z hz => ?_, insT_sorted h.2⟩
      rcases List.mem_cons.mp ((insT_perm x ys).mem_iff.mp hz) with rfl | hz
      · omega
      · exact h.1 z hz
theorem tsort_sorted : ∀ l, (tsort l).Pairwise (fun a b => cd a ≤ cd b)
  | [] => .nil
  | x :: xs => insT_sorted (tsort_sorted xs)
theorem rows_same {d : Nat} : ∀ {l m : List (List Int)}, (∀ r ∈ l, RowOk d r) → l.Perm m → l.Pairwise (fun a b => cd a ≤ cd b) → m.Pairwise (fun a b => cd a ≤ cd b) → l = m
  | [], m, _, p, _, _ => (List.nil_perm.mp p).symm
  | x :: l, m, ok, p, h1, h2 => by
    cases m with
    | nil => exact absurd p (by simp)
    | cons y m =>
      rw [List.pairwise_cons] at h1 h2
      have oy : RowOk d y := ok y (p.mem_iff.mpr List.mem_cons_self)
      have ox : RowOk d x := ok x List.mem_cons_self
      have e : x = y := by
        rcases List.mem_cons.mp (p.mem_iff.mp List.mem_cons_self) with e | e
        · exact e
        · rcases List.mem_cons.mp (p.mem_iff.mpr List.mem_cons_self) with e' | e'
          · exact e'.symm
          · have a1 := h1.1 y e'
            have a2 := h2.1 x e
            exact cd_inj (ox.1.trans oy.1.symm) ox.2 oy.2 (by omega)
      subst e
      rw [rows_same (fun r hr => ok r (List.mem_cons_of_mem _ hr)) ((List.perm_cons x).mp p) h1.2 h2.2]
theorem insTU_mem {x z : List Int} {d : Nat} : ∀ {l}, (∀ r ∈ x :: l, RowOk d r) → (z ∈ insTU x l ↔ z = x ∨ z ∈ l)
  | [], _ => by simp [insTU]
  | y :: ys, ok => by
    unfold insTU
    split
    · simp
    · split
      · rename_i q
        have ox := ok x List.mem_cons_self
        have oy := ok y (List.mem_cons_of_mem _ List.mem_cons_self)
        have e := cd_inj (ox.1.trans oy.1.symm) ox.2 oy.2 q
        subst e; simp
      · rw [List.mem_cons, insTU_mem (fun r hr => ok r (by
          rcases List.mem_cons.mp hr with rfl | h
          · exact List.mem_cons_self
          · exact List.mem_cons_of_mem _ (List.mem_cons_of_mem _ h))), List.mem_cons]
        constructor
        · rintro (h | h | h) <;> simp [h]
        · rintro (h | h | h) <;> simp [h]
theorem insTU_sorted {x : List Int} {d : Nat} : ∀ {l}, (∀ r ∈ x :: l, RowOk d r) → l.Pairwise (fun a b => cd a < cd b) → (insTU x l).Pairwise (fun a b => cd a < cd b)
  | [], _, _ => by simp [insTU]
  | y :: ys, ok, h => by
    have h' := List.pairwise_cons.mp h
    unfold insTU
    split
    · rename_i q
      rw [List.pairwise_cons]
      refine ⟨fun z hz => ?_, h⟩
      rcases List.mem_cons.mp hz with rfl | hz
      · exact q
      · exact Int.lt_trans q (h'.1 z hz)
    · split
      · exact h
      · rename_i q1 q2
        have ok' : ∀ r ∈ x :: ys, RowOk d r := fun r hr => ok r (by
          rcases List.mem_cons.mp hr with rfl | h
          · exact List.mem_cons_self
          · exact List.mem_cons_of_mem _ (List.mem_cons_of_mem _ h))
        rw [List.pairwise_cons]
        refine ⟨fun z hz => ?_, insTU_sorted ok' h'.2⟩
        rcases (insTU_mem ok').mp hz with rfl | hz
        · omega
        · exact h'.1 z hz
theorem tusort_mem {d : Nat} {z : List Int} : ∀ {l}, (∀ r ∈ l, RowOk d r) → (z ∈ tusort l ↔ z ∈ l)
  | [], _ => by simp [tusort]
  | x :: xs, ok => by
    have ih : ∀ z, z ∈ tusort xs ↔ z ∈ xs := fun z => tusort_mem fun r hr => ok r (List.mem_cons_of_mem _ hr)
    rw [tusort, insTU_mem (d := d) (fun r hr => by
      rcases List.mem_cons.mp hr with rfl | h
      · exact ok _ List.mem_cons_self
      · exact ok r (List.mem_cons_of_mem _ ((ih r).mp h))), ih, List.mem_cons]
theorem tusort_sorted {d : Nat} : ∀ {l : List (List Int)}, (∀ r ∈ l, RowOk d r) → (tusort l).Pairwise (fun a b => cd a < cd b)
  | [], _ => .nil
  | x :: xs, ok => by
    have ok' : ∀ r ∈ xs, RowOk d r := fun r hr => ok r (List.mem_cons_of_mem _ hr)
    refine insTU_sorted (d := d) (fun r hr => ?_) (tusort_sorted ok')
    rcases List.mem_cons.mp hr with rfl | h
    · exact ok _ List.mem_cons_self
    · exact ok' r ((tusort_mem ok').mp h)
/-- rows of values -/
theorem rowsOf_some : ∀ {vs : List Val} {rs : List (List Int)}, rowsOf vs = some rs → vs = rs.map tupI
  | [], rs, h => by simp only [rowsOf, Option.some.injEq] at h; subst h; rfl
  | v :: vs, rs, h => by
    cases v with
    | tup us =>
      simp only [rowsOf] at h
      cases h1 : intsOf us with
      | none => rw [h1] at h; cases h
      | some ns =>
        cases h2 : rowsOf vs with
        | none => rw [h1, h2] at h; cases h
        | some rs' =>
          rw [h1, h2] at h
          cases h
          rw [intsOf_some h1, rowsOf_some h2]; rfl
    | _ => simp [rowsOf] at h
theorem reps_rows {w : World} {K : PySem.W.Frag} {G : Hp} {A : List Addr} : ∀ {rs : List (List Int)} {xs : List V}, Reps w K G A (rs.map tupI) xs → ∃ ks : List (Addr × List Int), xs = ks.map (fun p => V.ref p.1) ∧ ks.map (·.2) = rs ∧ ∀ p ∈ ks, G p.1 = some (.tup (p.2.map V.int))
  | [], xs, h => ⟨[], h, rfl, fun p hp => by cases hp⟩
  | r :: rs, xs, h => by
    obtain ⟨y, ys, rfl, ⟨a, zs, rfl, g1, g2⟩, h2⟩ := h
    obtain ⟨ks, e1, e2, e3⟩ := reps_rows h2
    have := reps_ints g2
    subst this
    exact ⟨(a, r) :: ks, by rw [e1]; rfl, by rw [List.map_cons, e2], fun p hp => by
      rcases List.mem_cons.mp hp with rfl | hp
      · exact g1
      · exact e3 p hp⟩
theorem rows_reps {w : World} {K : PySem.W.Frag} {G : Hp} {A : List Addr} : ∀ {ks : List (Addr × List Int)}, (∀ p ∈ ks, G p.1 = some (.tup (p.2.map V.int))) → Reps w K G A ((ks.map (·.2)).map tupI) (ks.map fun p => V.ref p.1)
  | [], _ => rfl
  | p :: ks, h => ⟨_, _, rfl, ⟨p.1, _, rfl, h p List.mem_cons_self, reps_of_ints _⟩, rows_reps fun q hq => h q (List.mem_cons_of_mem _ hq)⟩
theorem perm_map {α β : Type} {f : α → β} : ∀ {l : List β} {m : List α}, l.Perm (m.map f) → ∃ k : List α, l = k.map f ∧ k.Perm m
  | [], m, h => by
    have e := (List.nil_perm.mp h)
    rw [List.map_eq_nil_iff] at e
    subst e
    exact ⟨[], rfl, .refl _⟩
  | b :: l, m, h => by
    obtain ⟨a, ha, rfl⟩ := List.mem_map.mp (h.mem_iff.mp List.mem_cons_self)
    obtain ⟨s, t, rfl⟩ := List.append_of_mem ha
    have h2 : (f a :: l).Perm (f a :: (s ++ t).map f) := h.trans (by
      rw [← List.map_cons]
      exact (List.perm_middle).map f)
    obtain ⟨k, rfl, hk⟩ := perm_map ((List.perm_cons _).mp h2)
    exact ⟨a :: k, rfl, (hk.cons a).trans List.perm_middle.symm⟩
section
variable {X : Cx}
theorem co_sortedT : CallR X (.builtin "sorted") (rC1 X .sortedT) := by
  intro pins sh σ0 H xs us Q I rx h
  obtain ⟨x, rfl, ⟨w, K, H0, G0, A0, l0⟩, G, A, τ, s, σ, v, v', fr, hw, hK, r, vx, e, q⟩ := h
  dsimp only at hw hK
  subst hw hK
  cases v <;> try (exact absurd (show (none : Option (Val × Bool)) = some _ from e) nofun)
  rename_i vs
  have e' : ((rowsOf vs).bind fun rs => if rowsB rs = true then some (Val.lst ((tsort rs).map tupI), true) else none) = some (v', fr) := e
  obtain ⟨rs, e1, e2⟩ := Option.bind_eq_some_iff.mp e'
  obtain ⟨hc, rfl, rfl⟩ := pr_ite e2
  obtain ⟨h64, d, hd, ok⟩ := rowsB_ok hc
  obtain ⟨a, xs, rfl, h1, h2⟩ := vx.lst r
  rw [rowsOf_some e1] at h2
  obtain ⟨ks, rfl, ek, hk⟩ := reps_rows h2
  have tup : ∀ p ∈ ks, SqT X.K H p.1 (p.2.map V.int) := fun p hp => sqT (r.sub _ _ (hk p hp))
  refine cr_sortT (d := d) (B := 64) hd pins sh σ0 H _ us Q I rx ⟨a, _, rfl, sqL h1, by rw [List.length_map, ← List.length_map (f := fun p : Addr × List Int => p.2), ek]; exact h64, fun x hx => ?_, fun ys p pm pw hp => ?_⟩
  · obtain ⟨p, hp, rfl⟩ := List.mem_map.mp hx
    have := ok p.2 (by rw [← ek]; exact List.mem_map.mpr ⟨p, hp, rfl⟩)
    exact ⟨p.2, ⟨p.1, rfl, tup p hp⟩, this.1, this.2⟩
  · obtain ⟨ks', rfl, pm'⟩ := perm_map pm
    have hk' : ∀ p ∈ ks', G p.1 = some (.tup (p.2.map V.int)) := fun p hp => hk p (pm'.mem_iff.mp hp)
    have pr : (ks'.map (·.2)).Perm rs := by rw [← ek]; exact pm'.map _
    have ok' : ∀ r ∈ ks'.map (·.2), RowOk d r := fun r hr => ok r (pr.mem_iff.mp hr)
    have srt : (ks'.map (·.2)).Pairwise (fun a b => cd a ≤ cd b) := by
      rw [List.pairwise_map]
      rw [List.pairwise_map] at pw
      refine List.Pairwise.imp_of_mem (fun {p q} hp hq z => ?_) pw
      rw [cd_code, cd_code]
      exact z _ _ ⟨p.1, rfl, sqT (r.sub _ _ (hk' p hp))⟩ ⟨q.1, rfl, sqT (r.sub _ _ (hk' q hq))⟩
    have := rows_same ok' (pr.trans (tsort_perm rs).symm) srt (tsort_sorted rs)
    have z := rows_reps (w := X.w) (K := X.K) (A := A) hk'
    rw [this] at z
    exact out_l r z hp q
/-! ### sets -/
/-- set(xs) of ints -/
def rSetI (X : Cx) : List V → Hp → VK → Prop := fun xs H Q => ∃ (l : Addr) (ns : List Int), xs = [V.ref l] ∧ SqL X.K H l (ns.map V.int) ∧ ns.length < 4000 ∧ ∀ p n, H p = none → n = (usort ns).length → Q (.ref p) (upd H p (SetO X.w p (fun j => decide (j ∈ ns)) n))
theorem cr_setI (hc : X.calm = true) : CallR X (.type "set") (rSetI X) := by
  intro pins s σ H xs us Q I r h
  obtain ⟨l, ns, rfl, hs, hz, q⟩ := h
  obtain ⟨its, rv, hl, _⟩ := I.list hs
  rw [Vals.ref1 r]
  refine set_of_list ns (I.ok.hd hc) hl.isList (by simpa using rv.ints) (by unfold scanBound; omega) fun g tk n R hn hk => ?_
  have en : n = (usort ns).length := by
    obtain ⟨o, es, ep, t, _, _, _, _, nd, hm, _, _, sz, _⟩ := R
    rw [← sz, ← Array.length_toList, ← List.length_map (f := L2.keyOf) (as := es.toList)]
    refine ((List.perm_ext_iff_of_nodup nd (List.Pairwise.imp (fun {a b} h => Int.ne_of_lt h) (usort_sorted ns))).mpr fun k => ?_).length_eq
    rw [usort_mem, ← hm]; simp
  refine ⟨.ref s.heap.objs.size, _, I.laid (t' := tk) hk (Nat.le_refl _) (setO_new R), rfl, q _ _ I.fresh en⟩
theorem int_sset {F : Fr} {G : Hp} {A : List Addr} {τ : Tmp} {s : Sta} {σ : St} {H : Hp} {vs : List Val} {ns : List Int} {x : V} (r : Rel F G A τ s σ H) (e : intsOf vs = some ns) (v : View F G A H (.lst vs) x) : ∃ a, x = .ref a ∧ Rd H a (.lst (ns.map V.int)) := by
  obtain ⟨a, xs, rfl, h1, h2⟩ := v.lst r
  rw [intsOf_some e] at h2
  rw [reps_ints h2] at h1
  exact ⟨a, rfl, h1⟩
theorem sset_rd {x : V} {H : Hp} {Q : VK} (h : rP1 X .sset x H Q) : rSetI X [x] H fun y H1 => rSortedSet X.w [y] H1 Q := by
  obtain ⟨F, G, A, τ, s, σ, v, v', fr, hw, hK, r, vx, e, q⟩ := h
  cases v <;> try (exact absurd (show (none : Option (Val × Bool)) = some _ from e) nofun)
  rename_i vs
  have e' : ((intsOf vs).bind fun ns => if vs.length < 4000 ∧ (usort ns).length < 64 then some (Val.lst ((usort ns).map .int), true) else none) = some (v', fr) := e
  obtain ⟨ns, e1, e2⟩ := Option.bind_eq_some_iff.mp e'
  obtain ⟨⟨hz, h64⟩, rfl, rfl⟩ := pr_ite e2
  obtain ⟨a, rfl, ha⟩ := int_sset r e1 vx
  have hl : vs.length = ns.length := by rw [intsOf_some e1, List.length_map]
  refine ⟨a, ns, rfl, sqL ha, by omega, fun p n hp hn => ⟨p, _, n, rfl, upd_same, by omega, fun ms p2 ps hm _ hp2 => ?_⟩⟩
  have : ms = usort ns := strict_same (fun z => by rw [hm, usort_mem]; simp) ps (usort_sorted ns)
  subst this
  exact out_l (r.lay hp) (reps_of_ints _) hp2 q
/-- len of a set of ints -/
theorem cr_lenSet : CallR X (.builtin "len") (fun xs H Q => ∃ a S n, xs = [V.ref a] ∧ H a = some (SetO X.w a S n) ∧ n < 5000 ∧ Q (.int n) H) := by
  intro pins s σ H xs us Q I r h
  obtain ⟨a, S, n, rfl, ha, hz, q⟩ := h
  obtain ⟨o, es, ep, t, ho, hex, hd, _, _, _, _, hf, hn, _⟩ := setO_get I ha
  rw [Vals.ref1 r]
  exact call_len_set ho hex hd hf (by rw [hn]; omega) ⟨.int n, H, I.tok _, ⟨_, by rw [hn]⟩, q⟩
theorem lset_rd {x : V} {H : Hp} {Q : VK} (h : rP1 X .lset x H Q) : rSetI X [x] H fun y H1 => ∃ a S n, [y] = [V.ref a] ∧ H1 a = some (SetO X.w a S n) ∧ n < 5000 ∧ Q (.int n) H1 := by
  obtain ⟨F, G, A, τ, s, σ, v, v', fr, hw, hK, r, vx, e, q⟩ := h
  cases v <;> try (exact absurd (show (none : Option (Val × Bool)) = some _ from e) nofun)
  rename_i vs
  have e' : ((intsOf vs).bind fun ns => if vs.length < 4000 then some (Val.int (usort ns).length, false) else none) = some (v', fr) := e
  obtain ⟨ns, e1, e2⟩ := Option.bind_eq_some_iff.mp e'
  obtain ⟨hz, rfl, rfl⟩ := pr_ite e2
  obtain ⟨a, rfl, ha⟩ := int_sset r e1 vx
  have hl : vs.length = ns.length := by rw [intsOf_some e1, List.length_map]
  have ul : (usort ns).length ≤ ns.length := by
    clear e e' e1 e2 ha vx hl q
    induction ns with
    | nil => exact Nat.le_refl _
    | cons x xs ih =>
      have : ∀ l : List Int, (insU x l).length ≤ l.length + 1 := fun l => by
        induction l with
        | nil => exact Nat.le_refl _
        | cons y ys ih2 => unfold insU; split <;> (try split) <;> simp_all <;> omega
      have := this (usort xs)
      simp only [usort, List.length_cons]; omega
  refine ⟨a, ns, rfl, sqL ha, by omega, fun p n hp hn => ⟨p, _, n, rfl, upd_same, by omega, ?_⟩⟩
  rw [hn]
  exact out_i (r.lay hp) q
/-- sets of rows -/
theorem ssetT_rd {x : V} {H : Hp} {Q : VK} (h : rP1 X .ssetT x H Q) : rSetRows X [x] H fun y H1 => rSortedT X.K X.prog X.w [y] H1 Q := by
  obtain ⟨⟨w, K, H0, G0, A0, l0⟩, G, A, τ, s, σ, v, v', fr, hw, hK, r, vx, e, q⟩ := h
  dsimp only at hw hK
  subst hw hK
  cases v <;> try (exact absurd (show (none : Option (Val × Bool)) = some _ from e) nofun)
  rename_i vs
  have e' : ((rowsOf vs).bind fun rs => if rowsS rs = true then some (Val.lst ((tusort rs).map tupI), true) else none) = some (v', fr) := e
  obtain ⟨rs, e1, e2⟩ := Option.bind_eq_some_iff.mp e'
  obtain ⟨hc, rfl, rfl⟩ := pr_ite e2
  obtain ⟨h63, d, hd, ok⟩ := rowsS_ok hc
  obtain ⟨a, xs, rfl, h1, h2⟩ := vx.lst r
  rw [rowsOf_some e1] at h2
  obtain ⟨ks, rfl, ek, hk⟩ := reps_rows h2
  refine ⟨a, ks, rfl, sqL h1, fun p hp => sqT (r.sub _ _ (hk p hp)), fun M hM nd => ?_, fun p L hp hL1 hL2 => ?_⟩
  · have := nds_len nd (M := tusort rs) fun z hz => by
      obtain ⟨y, hy, rfl⟩ := List.mem_map.mp hz
      rw [tusort_mem ok, ← ek]
      exact List.mem_map_of_mem (hM y hy)
    rw [List.length_map] at this
    omega
  have rp := r.lay (o := SetTO X.prog X.w p L) hp
  have hkL : ∀ z ∈ L, G z.1 = some (.tup (z.2.map V.int)) := fun z hz => hk z (hL1 z hz)
  have okL : ∀ z ∈ L, RowOk d z.2 := fun z hz => ok _ (by rw [← ek]; exact List.mem_map.mpr ⟨z, hL1 z hz, rfl⟩)
  refine ⟨p, L, d, 64, rfl, upd_same, fun z hz => sqT (rp.sub _ _ (hkL z hz)), hd, fun z hz => okL z hz, fun L' p2 pm nd _ pw hp2 => ?_⟩
  have hk' : ∀ z ∈ L', G z.1 = some (.tup (z.2.map V.int)) := fun z hz => hkL z (pm.mem_iff.mp hz)
  have ok' : ∀ z ∈ L'.map (·.2), RowOk d z := fun z hz => by
    obtain ⟨y, hy, rfl⟩ := List.mem_map.mp hz
    exact okL y (pm.mem_iff.mp hy)
  have mem : ∀ z, z ∈ L'.map (·.2) ↔ z ∈ tusort rs := fun z => by
    rw [tusort_mem ok, ← ek]
    constructor
    · intro hz
      obtain ⟨y, hy, rfl⟩ := List.mem_map.mp hz
      exact List.mem_map.mpr ⟨y, hL1 y (pm.mem_iff.mp hy), rfl⟩
    · intro hz
      obtain ⟨y, hy, rfl⟩ := List.mem_map.mp hz
      exact (pm.map (·.2)).mem_iff.mpr (hL2 y hy)
  have nd2 : (tusort rs).Nodup := List.Pairwise.imp (fun {a b} h e => by subst e; exact absurd h (Int.lt_irrefl _)) (tusort_sorted ok)
  have srt : (L'.map (·.2)).Pairwise (fun a b => cd a ≤ cd b) := by
    rw [List.pairwise_map]
    exact List.Pairwise.imp (fun {a b} z => by rw [cd_code, cd_code]; exact z) pw
  have := rows_same ok' ((List.perm_ext_iff_of_nodup nd nd2).mpr mem) srt (List.Pairwise.imp (fun {a b} h => Int.le_of_lt h) (tusort_sorted ok))
  have z := rows_reps (w := X.w) (K := X.K) (A := A) hk'
  rw [this] at z
  exact out_l rp z hp2 q
end
end TL

set_option Elab.async false
set_option linter.all false
set_option maxRecDepth 100000
set_option maxHeartbeats 4000000
/-! LTR: new dicts, isinstance of an own class, new instances. -/
namespace TL
open PySem PySem.Spec PyProof.Rows L2
section
variable {Φ : Fns} {X : Cx} {W : WX} {σ : St} {H : Hp}
/-! ### {} and {k: v} -/
def tDN : TE := fun _ H Q => ∀ p, H p = none → (p == sysModules) = false → Q (.ref p) (upd H p (dictHO p #[] 0))
theorem dict_laid {pins : List (Addr × Obj)} {s : Shared} (I : Inv X pins σ H s) : Inv X pins σ (upd H s.heap.objs.size (dictHO s.heap.objs.size #[] 0)) { s with heap := s.heap.push { cls := .type "dict", data := .dict #[] } } := by
  have e : (s.heap.push { cls := .type "dict", data := .dict #[] }).get? s.heap.objs.size = some (dictO #[] 0) := Heap.get?_push_size _ rfl
  exact I.laid (t' := s.toks) (fun _ _ q => Heap.get?_push_of_some _ q) (Nat.le_refl _) ⟨e, ⟨_, e⟩, fun h1 h2 p k => k _ p⟩
theorem dict_lo {pins : List (Addr × Obj)} {s : Shared} (I : Inv X pins σ H s) : (s.heap.objs.size == sysModules) = false := beq_eq_false_iff_ne.mpr (Ne.symm (Nat.ne_of_lt I.big))
theorem pe_dn {pos : Pos} : PE X (.Dict [] [] pos) tDN := ⟨fun pins s σ H Q I h => wpAny_Dict_empty ⟨.ref s.heap.objs.size, _, dict_laid I, rfl, h _ I.fresh (dict_lo I)⟩⟩
theorem cv_dn {t : Bool} {Q : VK} (h : tV Φ X W (.dnew t) σ H Q) : tDN σ H Q := by
  obtain ⟨F, G, A, τ, s, hw, hK, r, h⟩ := h
  exact fun p hp lo => h (.ref p) G A _ Le.refl ⟨p, rfl, r.layT hp ⟨#[], 0, rfl, rfl, List.nodup_nil, Nat.zero_le _, lo⟩⟩
def tD1 (X : Cx) (tk tv : TE) : TE := fun σ H Q => ∀ p, H p = none → (p == sysModules) = false → tk σ (upd H p (dictHO p #[] 0)) fun x H1 => tv σ H1 fun y H2 =>
  ∃ (G : Hp) (A : List Addr) (t : Bool) (k : NestedKey) (v : Val), DAt X.w X.K G A H2 p t [] ∧ (∀ a u, G a = some u → H2 a = some u) ∧ KeyV G t k x ∧ Rep X.w X.K G A v y ∧
    ∀ es ep, RepD X.w X.K G A t [(k, v)] es.toList → Q (.ref p) (upd H2 p (dictHO p es ep))
theorem dd_dset {pins : List (Addr × Obj)} {G : Hp} {A : List Addr} {s : Shared} {a : Addr} {E : Value → Shared → Prop} {Ar : Around} {kvs : List (NestedKey × Val)} {t : Bool} {k : NestedKey} {x : V} {u : Value}
    {Q : Unit → Shared → Prop} {v : Val} {y : V} {z : Value} (hu : Ar.units + 16 < cLine) (I : Inv X pins σ H s) (sub : ∀ a u, G a = some u → H a = some u) (d : DAt X.w X.K G A H a t kvs) (hk : KeyV G t k x) (rx : RelV x u)
    (ry : RelV y z) (hv : Rep X.w X.K G A v y) (hl : kvs.length < sizeLine)
    (h : ∀ es' ep' s', Inv X pins σ (upd H a (dictHO a es' ep')) s' → RepD X.w X.K G A t (dPut kvs k v) es'.toList → Q () s') : wpAny (model X.prog X.w) Ar (dictSet a u z) Q E s := by
  obtain ⟨es, ep, e, r, nd, ln, lo⟩ := id d
  cases t with
  | false =>
    obtain ⟨i, rfl, rfl⟩ := hk
    obtain ⟨tk, rfl⟩ := rx
    obtain ⟨vs, p, dd, hl2⟩ := d.int I.hok
    refine wpAny_dictSet_pairs (knd := mixKind X.prog X.w) (k := Sum.inl i) (keyIs_int i tk) dd (fun h' dd' sb => ?_) hl2
    obtain ⟨es', ep', e', r'⟩ := DAt.ofInt (p.put ry hv) dd'
    exact h es' ep' _ (dd_write I d sb e') r'
  | true =>
    obtain ⟨ks, b, rfl, rfl, hn, hd⟩ := hk
    cases rx
    obtain ⟨xs, p, dd, hl2⟩ := d.tup I.hok sub
    refine wpAny_dictSet_heap (knd := nestedKind X.prog X.w) (k := .tup ks) (show Ar.units + 8 < cLine by omega) ⟨repN_is I.hok sub _ _ _ hn rfl, hd⟩ dd (fun h' dd' sb => ?_) hl2
    obtain ⟨es', ep', e', r'⟩ := DAt.ofTup (p.put hn hd ry hv) dd'
    exact h es' ep' _ (dd_write I d sb e') r'
theorem pe_d1 {k v : Expr} {tk tv : TE} {pos : Pos} (hu : X.A.units + 65 < cLine) (hk : PE X k tk) (hv : PE X v tv) : PE X (.Dict [some k] [v] pos) (tD1 X tk tv) := by
  refine ⟨fun pins s σ H Q I h => ?_⟩
  refine wpAny_Dict_any rfl rfl nofun (by show 1 ≤ 15; decide) (pairTrees_cons_walk (thn (hk.run pins _ σ _ _ (dict_laid I) (h _ I.fresh (dict_lo I))) fun u s1 ⟨x, H1, I1, rx, q1⟩ => thn (hv.run pins s1 σ H1 _ I1 q1) fun z s2 ⟨y, H2, I2, ry, q2⟩ => pairTrees_nil_walk ?_))
  obtain ⟨G, A, t, kk, vv, d, sub, hkk, hvv, q⟩ := q2
  show wpAny _ _ (forIn [(u, z)] PUnit.unit _) _ _ s2
  rw [List.forIn_cons]
  refine wpAny_bind (wpAny_bind (dd_dset (by omega) I2 sub d hkk rx ry hvv (by rw [sizeLine_eq]; decide) fun es ep s3 I3 rd => wpAny_pure ?_))
  show wpAny _ _ (forIn ([] : List (Value × Value)) PUnit.unit _) _ _ _
  rw [List.forIn_nil]
  exact wpAny_pure ⟨.ref _, _, I3, rfl, q es ep rd⟩
theorem cv_d1 {t : Bool} {k v : E} {Q : VK} (h : tV Φ X W (.d1 t k v) σ H Q) : tD1 X (tV Φ X W k) (tV Φ X W v) σ H Q := by
  obtain ⟨F, G, A, τ, s, hw, hK, r, h⟩ := h
  intro p hp lo
  have r0 : Rel F G A ((p, .dct t []) :: τ) s σ (upd H p (dictHO p #[] 0)) := r.layT hp ⟨#[], 0, rfl, rfl, List.nodup_nil, Nat.zero_le _, lo⟩
  refine ⟨F, G, A, (p, .dct t []) :: τ, s, hw, hK, r0, (Sat.bind (show Sat F W σ _ G A ((ev Φ k s).bind _) Q from h)).imp fun x H1 ⟨a, s1, G1, A1, _, l, g, h2⟩ => ?_⟩
  obtain ⟨G2, l2, r2, q2⟩ := Got.fix g
  refine ⟨F, G2, A1, (p, .dct t []) :: τ, s1, hw, hK, r2, (Sat.bind (Sat.mono h2 l2)).imp fun y H2 ⟨b, s2, G3, A3, _, l3, g3, h3⟩ => ?_⟩
  obtain ⟨G4, l4, r4, q4⟩ := Got.fix g3
  obtain ⟨kk, e5, h5⟩ := Sat.opt h3
  obtain ⟨w, K, H0, G0, A0, l0⟩ := F
  dsimp only at hw hK
  subst hw hK
  obtain ⟨_, _, ⟨u, hu, es, ep, rfl, hb⟩, _⟩ := r4.top
  refine ⟨G4, A3, t, kk, b.1, ⟨es, ep, hu, hb⟩, r4.sub, keyV (H := H2) e5 (.inl (Rep.mono l4 _ _ (Rep.mono l3 _ _ q2))), q4, fun es' ep' rd => ?_⟩
  exact h5 (.ref p) G4 A3 _ l4 ⟨p, rfl, r4.wrT ⟨es', ep', rfl, rd, List.pairwise_singleton _ _, by show 1 ≤ sizeLine; rw [sizeLine_eq]; decide, hb.2.2.2⟩⟩
/-! ### isinstance of an own class -/
def TYS : List String := ["NoneType", "bool", "int", "str", "tuple", "list", "dict"]
def rIsC (X : Cx) (C : Addr) (c : Str) : List V → Hp → VK → Prop := fun xs H Q => ∃ (x : V) (F : Fr) (G : Hp) (A : List Addr) (τ : Tmp) (s : Sta) (σ : St) (v : Val) (b : Bool), xs = [x, .ref C] ∧ F.w = X.w ∧ F.K = X.K ∧ Rel F G A τ s σ H ∧ View F G A H v x ∧
  (match v with
    | .ins c' _ => c' = c ∧ b = true
    | .obj _ => False
    | .fn _ => False
    | _ => b = false) ∧ Q (.bl b) H
theorem co_isC {c : Str} (ic : C8.InsC X.K (He.ga X.K c)) (hf : ∀ t ∈ TYS, PySem.W.kitOne X.K (.type t) (.ref (He.ga X.K c)) = some false) : CallR X (.builtin "isinstance") (rIsC X (He.ga X.K c) c) := by
  intro pins sh σ0 H xs us Q I rx h
  obtain ⟨x, F, G, A, τ, s, σ, v, b, rfl, hw, hK, r, vx, e, q⟩ := h
  have go : ∀ {t : String}, b = false → TyX X.K H x (.type t) → t ∈ TYS → wpAny (model X.prog X.w) X.A (call (.builtin "isinstance") us) (EP X pins σ0 Q) X.xe sh := fun {t} eb ty ht =>
    call_isi pins sh σ0 H _ us Q I rx ⟨x, _, _, _, b, rfl, .own _, ty, by rw [eb]; exact hf t ht, q⟩
  cases v with
  | non => rw [vx.non] at go; exact go e (.base .non) (by simp [TYS])
  | bl c => rw [vx.bl] at go; exact go e (.base (.bl c)) (by simp [TYS])
  | int i => rw [vx.int] at go; exact go e (.base (.int i)) (by simp [TYS])
  | str z => rw [vx.str] at go; exact go e (.base (.str z)) (by simp [TYS])
  | tup vs =>
    obtain ⟨a, xs, rfl, h1, h2⟩ := vx.tup r
    exact go e (.base (.tup h1)) (by simp [TYS])
  | lst vs =>
    obtain ⟨a, xs, rfl, h1, h2⟩ := vx.lst r
    rcases h1 with h1 | ⟨o, h1⟩
    · exact go e (.base (.lst h1)) (by simp [TYS])
    · exact go e (.base (.frz h1)) (by simp [TYS])
  | dct t kvs =>
    have eb : b = false := e
    subst eb
    obtain ⟨a, rfl, es, ep, eo, _⟩ := vx.dat r
    obtain ⟨u1, u2, rfl, r1, r2⟩ := vals2 rx
    cases (show u1 = Value.ref a from r1)
    cases (show u2 = Value.ref (He.ga X.K c) from r2)
    exact PySem.W.kia_one PySem.W.kitx_dict I.kIn ⟨_, dict_obj I.hok eo, rfl⟩ (hf "dict" (by simp [TYS])) (fun z => nomatch z) fun tk => ⟨.bl false, H, I.tok tk, rfl, q⟩
  | ins c' fs =>
    obtain ⟨rfl, rfl⟩ := e
    obtain ⟨a, dx, gs, rfl, ha, _⟩ := vx.ins r
    exact C8.call_isC ic pins sh σ0 H _ us Q I rx ⟨a, dx, gs, rfl, by rw [ha, hK], q⟩
  | obj n => exact e.elim
  | fn f => exact e.elim
theorem cv_isC {a : E} {c : Str} {Q : VK} (h : tV Φ X W (.isC a c) σ H Q) : tP Φ X W a σ H fun x H1 => rIsC X (He.ga X.K c) c [x, .ref (He.ga X.K c)] H1 Q := by
  obtain ⟨F, G, A, τ, s, hw, hK, r, h⟩ := h
  refine ⟨F, G, A, τ, s, hw, hK, r, (Sat.bind (show Sat F W σ _ G A ((pkOf a (ev Φ a) s).bind _) Q from h)).imp fun x H1 ⟨pv, s1, G1, A1, _, l, ⟨r1, p1⟩, h2⟩ => ?_⟩
  obtain ⟨v, e1, h3⟩ := Sat.opt h2
  have vw := view_of r1 p1 e1
  have fin : ∀ b : Bool, Sat F W σ (RV F τ σ) G1 A1 (.ok (.bl b, false) s1) Q → Q (.bl b) H1 := fun b h => h _ G1 A1 H1 Le.refl ⟨r1, rfl⟩
  cases v with
  | ins c' fs =>
    have h4 : Sat F W σ (RV F τ σ) G1 A1 (if c' = c then .ok (.bl true, false) s1 else .bad) Q := h3
    by_cases ec : c' = c
    · rw [if_pos ec] at h4
      exact ⟨x, F, G1, A1, τ, s1, σ, _, true, rfl, hw, hK, r1, vw, ⟨ec, rfl⟩, fin true h4⟩
    · rw [if_neg ec] at h4; exact h4.elim
  | obj n => exact h3.elim
  | fn f => exact h3.elim
  | non => exact ⟨x, F, G1, A1, τ, s1, σ, _, false, rfl, hw, hK, r1, vw, rfl, fin false h3⟩
  | bl c => exact ⟨x, F, G1, A1, τ, s1, σ, _, false, rfl, hw, hK, r1, vw, rfl, fin false h3⟩
  | int c => exact ⟨x, F, G1, A1, τ, s1, σ, _, false, rfl, hw, hK, r1, vw, rfl, fin false h3⟩
  | str c => exact ⟨x, F, G1, A1, τ, s1, σ, _, false, rfl, hw, hK, r1, vw, rfl, fin false h3⟩
  | tup c => exact ⟨x, F, G1, A1, τ, s1, σ, _, false, rfl, hw, hK, r1, vw, rfl, fin false h3⟩
  | lst c => exact ⟨x, F, G1, A1, τ, s1, σ, _, false, rfl, hw, hK, r1, vw, rfl, fin false h3⟩
  | dct c d => exact ⟨x, F, G1, A1, τ, s1, σ, _, false, rfl, hw, hK, r1, vw, rfl, fin false h3⟩
/-! ### a new instance -/
theorem wle_back {F : Fr} {G G' : Hp} {A A' : List Addr} (l : Le G A G' A') {i : Nat} {a : Addr} (h : A[i]? = some a) : A'[i]? = some a := l.a _ _ h
theorem ext_len {F : Fr} {G : Hp} {A : List Addr} (e : Ext F G A H) : F.A0.length ≤ A.length := by
  rcases Nat.eq_zero_or_pos F.A0.length with h | h
  · omega
  · have h1 : F.A0[F.A0.length - 1]? = some (F.A0[F.A0.length - 1]'(by omega)) := List.getElem?_eq_getElem (by omega)
    have h2 := e.le.a _ _ h1
    have := (List.getElem?_eq_some_iff.mp h2).1
    omega
theorem cv_make {c : Str} {imm : Bool} {es : List E} {Q : VK} (h : tV Φ X W (.make c imm es) σ H Q) : tMake (He.ga X.K c) (SpD X.w X.K (es.length + 1) (Φ c)) [] E0 (tL Φ X W es) σ H Q := by
  obtain ⟨F, G, A, τ, s, hw, hK, r, h⟩ := h
  refine ⟨F, G, A, τ, s, hw, hK, r, (Sat.bind (show Sat F W σ _ G A ((evs Φ es s).bind _) Q from h)).imp fun xs H1 ⟨vs, s1, G1, A1, e, l, ⟨r1, q1⟩, h2⟩ => ?_⟩
  intro x dx hx hdx hne
  have h0 : upd H1 dx (.own x) x = none := by rw [upd_ne (Ne.symm hne)]; exact hx
  have r2 : Rel F G1 A1 ((x, .ins c []) :: τ) s1 σ (upd (upd H1 dx (.own x)) x (.ins (He.ga X.K c) dx [])) := by
    rw [← hK]
    exact (r1.lay (o := .own x) hdx).layT h0 ⟨dx, [], rfl, rfl⟩
  have r3 := r2.toObj
  have rp := r2.toObjRep
  have ra : Reps F.w F.K G1 (A1 ++ [x]) (.obj s1.w.length :: vs) (.ref x :: (xs ++ [])) := by
    rw [List.append_nil]
    exact ⟨_, _, rfl, rp, Reps.mono ⟨fun _ _ h => h, fun n b h => by rw [List.getElem?_append_left (List.getElem?_eq_some_iff.mp h).1]; exact h⟩ _ _ q1⟩
  have hl : (Val.obj s1.w.length :: vs).length = es.length + 1 := by rw [List.length_cons, evs_len e]
  have hlA : s1.w.length = A1.length := r1.wlen
  have lA : Le G1 A1 G1 (A1 ++ [x]) := ⟨fun _ _ h => h, fun n b h => by rw [List.getElem?_append_left (List.getElem?_eq_some_iff.mp h).1]; exact h⟩
  refine ⟨F, G1, A1 ++ [x], τ, ⟨s1.ρ, s1.w ++ [some (.ins c [])]⟩, σ, _, hw, hK, r3, hl, by rw [← hw, ← hK]; exact ra, ?_⟩
  dsimp only
  cases eΦ : Φ c (.obj s1.w.length :: vs) (s1.w ++ [some (.ins c [])]) with
  | bad => rw [eΦ] at h2; exact h2.elim
  | ex c' fs w' => rw [eΦ] at h2; exact h2.elim
  | ok v fr w' =>
    rw [eΦ] at h2
    cases v with
    | non =>
      intro y G' A' H' τ' s' σ' ew l' g
      have g2 := got_back r3 g
      rw [ew] at g2
      have hy : y = .non ∧ Rel F G' A' τ ⟨s1.ρ, w'⟩ σ H' := by
        cases fr with
        | true =>
          obtain ⟨a, _, rr⟩ := g2
          obtain ⟨_, _, ⟨u, _, hb⟩, _⟩ := rr.top
          exact hb.elim
        | false => exact ⟨g2.2, g2.1⟩
      refine ⟨hy.1, ?_⟩
      have hx' : A'[s1.w.length]? = some x := l'.a _ _ (by rw [hlA]; simp)
      cases imm with
      | true =>
        have h3 : Sat F W σ (RV F τ σ) G1 A1 (match w'[s1.w.length]? with | some (some v) => .ok (v, false) ⟨s1.ρ, w'.set s1.w.length none⟩ | _ => .bad) Q := h2
        cases ei : w'[s1.w.length]? with
        | none => rw [ei] at h3; exact h3.elim
        | some o =>
          cases o with
          | none => rw [ei] at h3; exact h3.elim
          | some v =>
            rw [ei] at h3
            obtain ⟨a, ha, rr⟩ := hy.2.fromObj (i := s1.w.length) ei (by rw [hlA]; exact ext_len r1.ext)
            rw [hx'] at ha
            cases ha
            obtain ⟨G5, l5, r5, q5⟩ := rr.fixT
            exact h3 _ G5 A' H' ((lA.trans l').trans l5) ⟨r5, q5⟩
      | false =>
        have h3 : Sat F W σ (RV F τ σ) G1 A1 (.ok (.obj s1.w.length, false) ⟨s1.ρ, w'⟩) Q := h2
        exact h3 _ G' A' H' (lA.trans l') ⟨hy.2, x, rfl, hx'⟩
    | _ => exact h2.elim
end
end TL

set_option Elab.async false
set_option linter.all false
set_option maxRecDepth 100000
set_option maxHeartbeats 4000000
/-! LTS: enumerate of a tuple. -/
namespace TL
open PySem PySem.Spec PyProof.Rows L2
theorem mk_enum {v : Value} {o : Obj} {T : Heap → Prop} (B : Begins v o T) :
    Meets (Builtin.«enumerate.__new__» ⟨[.type "enumerate", v], []⟩) (fun _ R s => T s.heap ∧
      R (.ok (.ret (.ref (s.heap.push o).objs.size))) { s with heap := (s.heap.push o).push { cls := .type "enumerate", data := .fields #[.none, .bool false, .ref s.heap.objs.size, rawInt 0, .none, .none] } }) :=
  .of_wp fun prog w A R s h => by
    obtain ⟨hp, g, d, tk, os⟩ := s; obtain ⟨ht, h⟩ := h; have hs := sub_enumerate
    have go : ∀ {A' : Around} {E : Value → Shared → Prop} {Q : Value → Shared → Prop}, Q (.ref hp.objs.size) ⟨hp.push o, g, d, tk, os⟩ → wpAny (model prog w) A' (pyIter v) Q E ⟨hp, g, d, tk, os⟩ := fun q => B.iter prog w _ _ ⟨hp, g, d, tk, os⟩ _ ht q
    wp_walk using go
    refine wpAny_stack_any fun z => wpAny_pure ?_
    split
    · rename_i c _ _ _ _ _
      cases (c == Value.type "enumerate") <;> (wp_walk using go; exact ⟨_, rfl, h⟩)
    · wp_walk using go; exact ⟨_, rfl, h⟩
section
variable {prog : Program} {w : World} {A : Around} {E : Value → Shared → Prop} {s : Shared}
theorem call_enum_tup {l : Addr} {its : Array Value} {Q : Value → Shared → Prop} (ht : s.heap.IsTuple l its)
    (h : ∀ g, IsEnum g (s.heap.objs.size + 1) s.heap.objs.size 0 .none → g.IsTupleIter s.heap.objs.size l 0 → (∀ b o, s.heap.get? b = some o → g.get? b = some o) → Q (.ref (s.heap.objs.size + 1)) { s with heap := g }) :
    wpAny (model prog w) A (call (.type "enumerate") [.ref l]) Q E s := by
  refine callType_new PySem.F.called_enumerate (by decide) (PySem.F.typeCall_enumerate_1 _) (PySem.F.newCall_enumerate_1 _) (fun obj => PySem.F.args_object_init_2 obj _) PySem.F.entry_enumerate_new (mk_enum (begins_tuple l its)) ⟨ht, ?_⟩
  have hz : (s.heap.push { cls := .type "tuple_iterator", data := .fields #[.ref l, .int 0 0] }).objs.size = s.heap.objs.size + 1 := Heap.size_push ..
  have he := Heap.get?_push_size (s.heap.push { cls := .type "tuple_iterator", data := .fields #[.ref l, .int 0 0] }) (o := { cls := .type "enumerate", data := .fields #[.none, .bool false, .ref s.heap.objs.size, rawInt 0, .none, .none] }) rfl
  rw [hz] at he
  show _ ∧ _
  rw [hz]
  exact ⟨⟨_, he, rfl⟩, h _ he ⟨_, Heap.get?_push_of_some _ (Heap.get?_push_size _ rfl), rfl, rfl⟩ fun b o x => Heap.get?_push_of_some _ (Heap.get?_push_of_some _ x)⟩
end
/-- the items of the tuple at a, each in a new pair -/
def ItEt (K : PySem.W.Frag) (a : Addr) : It :=
  ⟨fun i H => ∃ (xs : List V) (x : V), SqT K H a xs ∧ xs[i]? = some x, fun i H v H' => ∃ T x, v = .ref T ∧ H T = none ∧ H' = upd H T (.tup [.int (i : Nat), x]) ∧ ∀ xs, SqT K H a xs → xs[i]? = some x, fun i H => ∃ xs : List V, SqT K H a xs ∧ xs.length = i⟩
theorem turn_et {P : Program} {w : World} {K : PySem.W.Frag} {elts : List Expr} {kk : Nat} {tpos : Pos} (a e it : Addr) :
    Turn P w K (.Tuple elts kk tpos) (ItEt K a) [e, it] e (fun i h => (∃ old, IsEnum h e it (0 + ((i : Nat) : Int)) old) ∧ h.IsTupleIter it a i ∧ e ≠ it ∧ a ≠ e ∧ a ≠ it) where
  mem := by simp
  obj := fun i h st b hb => by
    obtain ⟨⟨old, he⟩, ⟨o, ho, hc, hd⟩, _⟩ := st
    rcases (by simpa using hb : b = e ∨ b = it) with rfl | rfl
    · exact ⟨_, he, fun v q => nomatch q⟩
    · exact ⟨o, ho, fun v q => by rw [hd] at q; cases q⟩
  keep := fun i h h' st k => let ⟨⟨old, he⟩, hi, hne⟩ := st; ⟨⟨old, k e (by simp) _ he⟩, hi.at fun o q => k it (by simp) o q, hne⟩
  item := by
    intro X hP hw hK hc i pins s σ H E I hf st hg
    subst hP hw hK
    obtain ⟨⟨old, he⟩, hit, hne, ha1, ha2⟩ := st
    obtain ⟨xs, x, hq, hx⟩ := hg
    obtain ⟨its, rv, p, hz⟩ := I.tuple hq
    obtain ⟨u, hu, ru⟩ := rv.get hx
    have hel : e < s.heap.objs.size := Heap.lt_size he
    have hil : it < s.heap.objs.size := by obtain ⟨_, q, _⟩ := hit; exact Heap.lt_size q
    have hin : i < its.toArray.size := by
      have := (List.getElem?_eq_some_iff.mp hu).1
      simpa using this
    have D := Draws.tuple (prog := X.prog) (w := X.w) (A := X.A.in1) (show X.A.in1.handled = none from I.ok.hd hc) it a ha2 its.toArray
    refine (GoesN.enumFrom (elts := elts) (x1 := kk) (pos := tpos) 0 D e hne (by simp; exact ⟨hne, Ne.symm ha1⟩) (by simp)).goes i s _ _ hin ⟨⟨old, he⟩, hit, p⟩ fun v h' tk ⟨T, t, z, ev, hT, hz2, hTT⟩ st' hk htk => ?_
    subst ev
    have ez : z = u := by
      rw [← Array.getElem?_toList] at hz2
      have := hz2.symm.trans hu
      exact Option.some.inj this
    subst ez
    have new : ObjOk X.prog X.w (upd H T (.tup [.int (i : Nat), x])) h' T (.tup [.int (i : Nat), x]) := by
      refine ⟨by show 2 ≤ sizeLine; rw [sizeLine_eq]; decide, [.int (0 + (i : Int)) t, z], .cons ⟨t, by rw [Int.zero_add]⟩ (.cons ru .nil), hTT⟩
    have I1 : Inv X pins σ (upd H T (.tup [.int (i : Nat), x])) { s with heap := h', toks := tk } := I.turnedNew (ch := [e, it]) (fun b ob hb q => hk b ob hb q) hf hT new
    refine ⟨.ref T, _, I1, rfl, ⟨T, x, rfl, I.hok.fresh hT, rfl, fun ys hy => by rw [I.tuple_inj hy hq]; exact hx⟩, ⟨st'.1, st'.2.1, hne, ha1, ha2⟩, fun b hb => ?_⟩
    have hb' : b < s.heap.objs.size := by
      rcases (by simpa using hb : b = e ∨ b = it) with rfl | rfl
      · exact hel
      · exact hil
    rw [upd_ne (Nat.ne_of_lt (Nat.lt_of_lt_of_le hb' hT))]
    exact (hf b hb).1
  done := by
    intro X hP hw hK hc i pins s σ H E I hf st hg
    subst hP hw hK
    obtain ⟨⟨old, he⟩, hit, hne, ha1, ha2⟩ := st
    obtain ⟨xs, hq, hx⟩ := hg
    obtain ⟨its, rv, p, hz⟩ := I.tuple hq
    have hl := rv.length
    have D := Draws.tuple (prog := X.prog) (w := X.w) (A := X.A.in1) (show X.A.in1.handled = none from I.ok.hd hc) it a ha2 its.toArray
    have hsz : its.toArray.size = i := by rw [List.size_toArray, ← hl, hx]
    have st : (∃ old, IsEnum s.heap e it (0 + ((its.toArray.size : Nat) : Int)) old) ∧ s.heap.IsTupleIter it a its.toArray.size ∧ s.heap.IsTuple a its.toArray := by
      rw [hsz]; exact ⟨⟨old, he⟩, hit, p⟩
    exact (GoesN.enumFrom (elts := elts) (x1 := kk) (pos := tpos) 0 D e hne (by simp; exact ⟨hne, Ne.symm ha1⟩) (by simp)).stops s (fun s1 => Inv X pins σ H s1) E st fun h' tk hk _ => I.turnedL (ch := [e, it]) (fun b o hb q => hk b o hb q) hf
  self := fun A i s Q E st h => let ⟨⟨_, he⟩, _⟩ := st; wpAny_pyIter_enum he h
/-- enumerate(x), x a list or a tuple -/
theorem pi_enT {X : Cx} {e : Expr} {te : TE} {p pos tpos : Pos} {elts : List Expr} {kk : Nat} (hg : Gl X "enumerate") (hm : X.mg "enumerate" = none) (he : PE X e te) (hs : starEach [e] X.env = (false, eval e X.env) :: starEach [] X.env) :
    PI X (.Tuple elts kk tpos) (.Call (.Name "enumerate" p) [e] [] pos) (fun σ H R => te σ H fun x H1 => ∃ a xs, x = .ref a ∧ ((SqL X.K H1 a xs ∧ R (Ite X.K a) H1) ∨ (SqT X.K H1 a xs ∧ R (ItEt X.K a) H1))) := by
  refine ⟨fun pins s σ H R I h => ?_⟩
  refine Call_ (ld_blt I hg hm boot_enumerate (PyProof.Rows.callWith_type1 (args_cons (thn (he.run pins s σ H _ I h) fun u s1 ⟨x, H1, I1, r1, a, xs, ex, q⟩ => args_nil ?_) hs) hs rfl))
  subst ex
  cases (show u = Value.ref a from r1)
  have two : ∀ b : Addr, b ∈ [s1.heap.objs.size + 1, s1.heap.objs.size] → s1.heap.objs.size ≤ b := fun b hb => by
    rcases (by simpa using hb : b = s1.heap.objs.size + 1 ∨ b = s1.heap.objs.size) with rfl | rfl
    · exact Nat.le_succ _
    · exact Nat.le_refl _
  rcases q with ⟨hq, q⟩ | ⟨hq, q⟩
  · obtain ⟨its, rv, p', hz⟩ := I1.list hq
    refine call_enumerate_list p'.isList fun g he hit _ hk => wpAny_pyIter_enum he ?_
    exact ⟨_, [s1.heap.objs.size + 1, s1.heap.objs.size], _, _, H1, rfl, I1.kept (t' := s1.toks) hk, turn_enum a (s1.heap.objs.size + 1) s1.heap.objs.size, ⟨⟨.none, he⟩, hit, Nat.succ_ne_self _⟩, fun b hb => I1.fpOk (two b hb) (I1.hok.fresh (two b hb)), q⟩
  · obtain ⟨its, rv, p', hz⟩ := I1.tuple hq
    have hlt : a < s1.heap.objs.size := p'.lt
    refine call_enum_tup (show s1.heap.IsTuple a its.toArray from p') fun g he hit hk => wpAny_pyIter_enum he ?_
    exact ⟨_, [s1.heap.objs.size + 1, s1.heap.objs.size], _, _, H1, rfl, I1.kept (t' := s1.toks) hk, turn_et a (s1.heap.objs.size + 1) s1.heap.objs.size, ⟨⟨.none, he⟩, hit, Nat.succ_ne_self _, Nat.ne_of_lt (Nat.lt_succ_of_lt hlt), Nat.ne_of_lt hlt⟩, fun b hb => I1.fpOk (two b hb) (I1.hok.fresh (two b hb)), q⟩
end TL

set_option Elab.async false
set_option linter.all false
set_option maxRecDepth 100000
set_option maxHeartbeats 4000000
/-! LTT: what is walked. -/
namespace TL
open PySem PySem.Spec PyProof.Rows L2
/-! ### a dict's keys -/
def kx : Value → V
  | .int i _ => .int i
  | .ref b => .ref b
  | _ => .non
def okKey : Value → Prop
  | .int _ _ => True
  | .ref _ => True
  | _ => False
theorem kx_rel {u : Value} (h : okKey u) : RelV (kx u) u := by
  cases u with
  | int i t => exact ⟨t, rfl⟩
  | ref b => rfl
  | _ => exact h.elim
def Itdk (d : Addr) (es : Array DictEntry) (ep : Nat) : It :=
  ⟨fun i H => i < es.size ∧ H d = some (dictHO d es ep) ∧ ∀ e ∈ es.toList, okKey e.key, fun i H x H' => H' = H ∧ ∃ en, es[i]? = some en ∧ x = kx en.key, fun i H => es.size = i ∧ H d = some (dictHO d es ep)⟩
theorem turn_dk {P : Program} {w : World} {K : PySem.W.Frag} {tg : Expr} {d : Addr} {es : Array DictEntry} {ep : Nat} (it : Addr) : Turn P w K tg (Itdk d es ep) [it] it (fun i h => h.IsKeyIter it d i es.size ep) where
  mem := by simp
  obj := fun i h st b hb => by
    have e : b = it := by simpa using hb
    subst e
    obtain ⟨o, e, c, q⟩ := st
    exact ⟨o, e, fun v z => by rw [q] at z; cases z⟩
  keep := fun i h h' st k => st.at fun o e => k it (by simp) o e
  item := by
    intro X hP hw hK hc i pins s σ H E I hf st hg
    subst hP hw hK
    obtain ⟨hi, hd, hk⟩ := hg
    obtain ⟨f0, f1, f2, f3, f4, f5⟩ := hf it (by simp)
    have hx : es[i]? = some es[i] := Array.getElem?_eq_getElem hi
    refine next_key_item st (dict_obj I.hok hd) rfl rfl hx fun h' st' sb => ?_
    have I1 : Inv X pins σ H { s with heap := h' } := I.turned (t' := s.toks) (fun b o hb e => (sb.2 b hb).trans e) f0 f1 f3 f4 f5
    obtain ⟨o, e, c, q⟩ := id st'
    exact ⟨_, rfl, go_of (s := { s with heap := h' }) e c q (by decide) ⟨kx es[i].key, H, I1, kx_rel (hk _ (by simp)), ⟨rfl, _, hx, rfl⟩, st', fun b hb => (hf b hb).1⟩⟩
  done := by
    intro X hP hw hK hc i pins s σ H E I hf st hg
    subst hP hw hK
    obtain ⟨hi, hd⟩ := hg
    obtain ⟨f0, f1, f2, f3, f4, f5⟩ := hf it (by simp)
    exact next_key_end (I.ok.hd hc) st (dict_obj I.hok hd) rfl rfl (Nat.le_of_eq hi) fun h' eb => ⟨rfl, I.turned (t' := s.toks) (fun b o hb e => eb b o hb e) f0 f1 f3 f4 f5⟩
  self := fun A i s Q E st h => wpAny_pyIter_keyiter st h
/-- a list, a tuple, a dict -/
def rSeq (K : PySem.W.Frag) : V → Hp → (It → Hp → Prop) → Prop := fun x H R => ∃ a, x = .ref a ∧ ((∃ xs, SqL K H a xs ∧ R (Itl K a) H) ∨ (∃ xs, SqT K H a xs ∧ R (Itt K a) H) ∨ ∃ es ep, H a = some (dictHO a es ep) ∧ (a == sysModules) = false ∧ R (Itdk a es ep) H)
section
variable {X : Cx} {tg l : Expr} {tl : TE}
theorem pi_seq (hl : PE X l tl) : PI X tg l (fun σ H R => tl σ H fun x H1 => rSeq X.K x H1 R) := by
  refine ⟨fun pins s σ H R I h => thn (hl.run pins s σ H _ I h) fun v s1 ⟨x, H1, I1, r1, a, ex, q⟩ => ?_⟩
  subst ex
  cases (show v = Value.ref a from r1)
  have new : ∀ b ∈ [s1.heap.objs.size], FpOk X pins H1 b := fun b hb => by
    cases (by simpa using hb : b = s1.heap.objs.size)
    exact I1.fpOk (Nat.le_refl _) I1.fresh
  have kept : ∀ o, Inv X pins σ H1 { s1 with heap := s1.heap.push o } := fun o => I1.kept (t' := s1.toks) fun b u e => Heap.get?_push_of_some _ e
  rcases q with ⟨xs, hq, q⟩ | ⟨xs, hq, q⟩ | ⟨es, ep, hq, lo, q⟩
  · obtain ⟨its, rv, p, hz⟩ := I1.list hq
    exact wpAny_pyIter_list p.isList ⟨_, _, _, _, H1, rfl, kept _, turn_list a _, ⟨_, Heap.get?_push_size _ rfl, rfl, rfl⟩, new, q⟩
  · obtain ⟨its, rv, p, hz⟩ := I1.tuple hq
    exact wpAny_pyIter_tuple (show s1.heap.IsTuple a its.toArray from p) ⟨_, _, _, _, H1, rfl, kept _, turn_tuple a _, ⟨_, Heap.get?_push_size _ rfl, rfl, rfl⟩, new, q⟩
  · exact iter_keys lo (dict_obj I1.hok hq) dictO_exact rfl ⟨_, _, _, _, H1, rfl, kept _, turn_dk _, ⟨_, Heap.get?_push_size _ rfl, rfl, rfl⟩, new, q⟩
end
/-! ### the steps -/
def Steps (F : Fr) (G0 : Hp) (A0 : List Addr) (J : It) (its : List Val) : Prop :=
  ∀ (i : Nat) (H G : Hp) (A : List Addr) (τ : Tmp) (s : Sta) (σ : St), Le G0 A0 G A → Rel F G A τ s σ H →
    (∀ v, its[i]? = some v → J.go i H ∧ ∀ x H', J.yld i H x H' → ∃ G', Le G A G' A ∧ Rel F G' A τ s σ H' ∧ Rep F.w F.K G' A v x) ∧ (its.length = i → J.stop i H)
def RWk (F : Fr) (τ : Tmp) (σ : St) : List Val → Sta → Hp → List Addr → Hp → It → Prop := fun its s G A H J => Rel F G A τ s σ H ∧ Steps F G A J its
section
variable {F : Fr} {G0 : Hp} {A0 : List Addr}
theorem steps_list {K : PySem.W.Frag} {vs : List Val} {xs : List V} {a : Addr} (h : Rd G0 a (.lst xs)) (q : Reps F.w F.K G0 A0 vs xs) : Steps F G0 A0 (Itl K a) vs := by
  intro i H G A τ s σ l r
  have hs : SqL K H a xs := sqL (rd_up r.sub (l.rd h))
  refine ⟨fun v hv => ?_, fun e => ⟨xs, hs, by rw [q.length, e]; exact Nat.le_refl _⟩⟩
  obtain ⟨x, h1, h2⟩ := q.get hv
  refine ⟨⟨xs, x, hs, h1⟩, fun y H' ⟨e, hy⟩ => ?_⟩
  subst e
  have := hy xs hs
  rw [h1] at this
  cases this
  exact ⟨G, Le.refl, r, Rep.mono l _ _ h2⟩
theorem steps_tup {K : PySem.W.Frag} {vs : List Val} {xs : List V} {a : Addr} (h : G0 a = some (.tup xs)) (q : Reps F.w F.K G0 A0 vs xs) : Steps F G0 A0 (Itt K a) vs := by
  intro i H G A τ s σ l r
  have hs : SqT K H a xs := sqT (r.sub _ _ (l.g _ _ h))
  refine ⟨fun v hv => ?_, fun e => ⟨xs, hs, by rw [q.length, e]; exact Nat.le_refl _⟩⟩
  obtain ⟨x, h1, h2⟩ := q.get hv
  refine ⟨⟨xs, x, hs, h1⟩, fun y H' ⟨e, hy⟩ => ?_⟩
  subst e
  have := hy xs hs
  rw [h1] at this
  cases this
  exact ⟨G, Le.refl, r, Rep.mono l _ _ h2⟩
theorem range_get : ∀ (n : Nat) (lo : Int) (i : Nat), (intRange lo n)[i]? = if i < n then some (.int (lo + i)) else none
  | 0, lo, i => by simp [intRange]
  | n + 1, lo, i => by
    cases i with
    | zero => simp [intRange]
    | succ i =>
      rw [show intRange lo (n + 1) = .int lo :: intRange (lo + 1) n from rfl, List.getElem?_cons_succ, range_get n (lo + 1) i]
      by_cases c : i < n
      · rw [if_pos c, if_pos (by omega)]
        congr 2; omega
      · rw [if_neg c, if_neg (by omega)]
theorem range_len : ∀ (n : Nat) (lo : Int), (intRange lo n).length = n
  | 0, _ => rfl
  | n + 1, lo => by rw [show intRange lo (n + 1) = .int lo :: intRange (lo + 1) n from rfl, List.length_cons, range_len]
theorem steps_range {lo : Int} {n : Nat} : Steps F G0 A0 (Itr lo n) (intRange lo n) := by
  intro i H G A τ s σ l r
  refine ⟨fun v hv => ?_, fun e => by rw [range_len] at e; exact Nat.le_of_eq e⟩
  rw [range_get] at hv
  by_cases c : i < n
  · rw [if_pos c] at hv
    cases hv
    exact ⟨c, fun x H' ⟨e1, e2⟩ => by subst e1; exact ⟨G, Le.refl, r, e2⟩⟩
  · rw [if_neg c] at hv; cases hv
theorem enum_get : ∀ (vs : List Val) (k : Int) (i : Nat), (enumV k vs)[i]? = (vs[i]?).map fun v => .tup [.int (k + i), v]
  | [], k, i => by simp [enumV]
  | v :: vs, k, i => by
    cases i with
    | zero => simp [enumV]
    | succ i =>
      rw [show enumV k (v :: vs) = .tup [.int k, v] :: enumV (k + 1) vs from rfl, List.getElem?_cons_succ, enum_get vs (k + 1) i, List.getElem?_cons_succ]
      congr 1
      funext v
      congr 3
      omega
theorem enum_len : ∀ (vs : List Val) (k : Int), (enumV k vs).length = vs.length
  | [], _ => rfl
  | v :: vs, k => by rw [show enumV k (v :: vs) = .tup [.int k, v] :: enumV (k + 1) vs from rfl, List.length_cons, enum_len, List.length_cons]
theorem pair_new {G : Hp} {A : List Addr} {τ : Tmp} {s : Sta} {σ : St} {H : Hp} {T : Addr} {x y : V} {u v : Val} (r : Rel F G A τ s σ H) (hT : H T = none) (h1 : Rep F.w F.K G A u x) (h2 : Rep F.w F.K G A v y) :
    ∃ G', Le G A G' A ∧ Rel F G' A τ s σ (upd H T (.tup [x, y])) ∧ Rep F.w F.K G' A (.tup [u, v]) (.ref T) := by
  have l : Le G A (upd G T (.tup [x, y])) A := Le.upd (r.free hT)
  exact ⟨_, l, r.layG hT, T, _, rfl, upd_same, _, _, rfl, Rep.mono l _ _ h1, _, _, rfl, Rep.mono l _ _ h2, rfl⟩
theorem steps_enl {K : PySem.W.Frag} {vs : List Val} {xs : List V} {a : Addr} (h : Rd G0 a (.lst xs)) (q : Reps F.w F.K G0 A0 vs xs) : Steps F G0 A0 (Ite K a) (enumV 0 vs) := by
  intro i H G A τ s σ l r
  have hs : SqL K H a xs := sqL (rd_up r.sub (l.rd h))
  refine ⟨fun v hv => ?_, fun e => ⟨xs, hs, by rw [enum_len] at e; rw [q.length, e]; exact Nat.le_refl _⟩⟩
  rw [enum_get, Option.map_eq_some_iff] at hv
  obtain ⟨u, hu, rfl⟩ := hv
  obtain ⟨x, h1, h2⟩ := q.get hu
  refine ⟨⟨xs, x, hs, h1⟩, fun y H' ⟨T, z, e1, e2, e3, e4⟩ => ?_⟩
  subst e1 e3
  have := e4 xs hs
  rw [h1] at this
  cases this
  exact pair_new r e2 (by rw [Int.zero_add]; rfl) (Rep.mono l _ _ h2)
theorem steps_ent {K : PySem.W.Frag} {vs : List Val} {xs : List V} {a : Addr} (h : G0 a = some (.tup xs)) (q : Reps F.w F.K G0 A0 vs xs) : Steps F G0 A0 (ItEt K a) (enumV 0 vs) := by
  intro i H G A τ s σ l r
  have hs : SqT K H a xs := sqT (r.sub _ _ (l.g _ _ h))
  refine ⟨fun v hv => ?_, fun e => ⟨xs, hs, by rw [enum_len] at e; rw [q.length, e]⟩⟩
  rw [enum_get, Option.map_eq_some_iff] at hv
  obtain ⟨u, hu, rfl⟩ := hv
  obtain ⟨x, h1, h2⟩ := q.get hu
  refine ⟨⟨xs, x, hs, h1⟩, fun y H' ⟨T, z, e1, e2, e3, e4⟩ => ?_⟩
  subst e1 e3
  have := e4 xs hs
  rw [h1] at this
  cases this
  exact pair_new r e2 (by rw [Int.zero_add]; rfl) (Rep.mono l _ _ h2)
theorem zip_get : ∀ (vs us : List Val) (i : Nat), vs.length = us.length → (zipV vs us)[i]? = (vs[i]?).bind fun v => (us[i]?).map fun u => .tup [v, u]
  | [], [], i, _ => by simp [zipV]
  | [], _ :: _, _, h => by simp at h
  | _ :: _, [], _, h => by simp at h
  | v :: vs, u :: us, i, h => by
    cases i with
    | zero => simp [zipV]
    | succ i => rw [show zipV (v :: vs) (u :: us) = .tup [v, u] :: zipV vs us from rfl, List.getElem?_cons_succ, zip_get vs us i (by simpa using h), List.getElem?_cons_succ, List.getElem?_cons_succ]
theorem zip_len : ∀ (vs us : List Val), vs.length = us.length → (zipV vs us).length = vs.length
  | [], [], _ => rfl
  | [], _ :: _, h => by simp at h
  | _ :: _, [], h => by simp at h
  | v :: vs, u :: us, h => by rw [show zipV (v :: vs) (u :: us) = .tup [v, u] :: zipV vs us from rfl, List.length_cons, zip_len vs us (by simpa using h), List.length_cons]
theorem steps_zip {K : PySem.W.Frag} {vs us : List Val} {xs ys : List V} {a b : Addr} (h : Rd G0 a (.lst xs)) (q : Reps F.w F.K G0 A0 vs xs) (h' : Rd G0 b (.lst ys)) (q' : Reps F.w F.K G0 A0 us ys) (hl : vs.length = us.length) : Steps F G0 A0 (Itz K a b) (zipV vs us) := by
  intro i H G A τ s σ l r
  have hs : SqL K H a xs := sqL (rd_up r.sub (l.rd h))
  have ht : SqL K H b ys := sqL (rd_up r.sub (l.rd h'))
  refine ⟨fun v hv => ?_, fun e => ⟨xs, ys, hs, ht, .inl (by rw [zip_len _ _ hl] at e; rw [q.length, e]; exact Nat.le_refl _)⟩⟩
  rw [zip_get _ _ _ hl] at hv
  obtain ⟨v1, hv1, hv2⟩ := Option.bind_eq_some_iff.mp hv
  obtain ⟨u1, hu1, rfl⟩ := Option.map_eq_some_iff.mp hv2
  obtain ⟨x, h1, h2⟩ := q.get hv1
  obtain ⟨y, h3, h4⟩ := q'.get hu1
  refine ⟨⟨xs, ys, x, y, hs, ht, h1, h3⟩, fun z H' ⟨T, z1, z2, e1, e2, e3, e4, e5⟩ => ?_⟩
  subst e1 e3
  have a1 := e4 xs hs
  rw [h1] at a1
  cases a1
  have a2 := e5 ys ht
  rw [h3] at a2
  cases a2
  exact pair_new r e2 (Rep.mono l _ _ h2) (Rep.mono l _ _ h4)
theorem keys_at : ∀ {t : Bool} {w : World} {K : PySem.W.Frag} {G : Hp} {A : List Addr} {kvs : List (NestedKey × Val)} {es : List DictEntry}, RepD w K G A t kvs es → (∀ e ∈ es, okKey e.key) ∧ es.length = kvs.length ∧ ∀ (i : Nat) (p : NestedKey × Val), kvs[i]? = some p → ∃ e, es[i]? = some e ∧ Rep w K G A (vk p.1) (kx e.key)
  | t, w, K, G, A, [], es, h => by rw [show es = [] from h]; exact ⟨(fun e he => by cases he), rfl, (fun i p hp => by simp at hp)⟩
  | t, w, K, G, A, (k, v) :: r, es, h => by
    obtain ⟨u1, u2, y, ds, rfl, hk, h2, h3, h4⟩ := h
    obtain ⟨g1, g2, g3⟩ := keys_at h4
    have key : okKey u1 ∧ Rep w K G A (vk k) (kx u1) := by
      cases t with
      | false => obtain ⟨i, tk, rfl, rfl⟩ := hk; exact ⟨trivial, rfl⟩
      | true => obtain ⟨ks, b, rfl, rfl, hn, hd⟩ := hk; exact ⟨trivial, repN_rep _ _ hn⟩
    refine ⟨fun e he => ?_, by simp [g2], fun i p hp => ?_⟩
    · rcases List.mem_cons.mp he with rfl | he
      · exact key.1
      · exact g1 e he
    · cases i with
      | zero => simp at hp; subst hp; exact ⟨_, rfl, key.2⟩
      | succ i => exact g3 i p (by simpa using hp)
theorem steps_dk {t : Bool} {kvs : List (NestedKey × Val)} {es : Array DictEntry} {ep : Nat} {a : Addr} (h : G0 a = some (dictHO a es ep)) (q : RepD F.w F.K G0 A0 t kvs es.toList) : Steps F G0 A0 (Itdk a es ep) (kvs.map fun p => vk p.1) := by
  intro i H G A τ s σ l r
  have hs := r.sub _ _ (l.g _ _ h)
  obtain ⟨g1, g2, g3⟩ := keys_at q
  rw [Array.length_toList] at g2
  refine ⟨fun v hv => ?_, fun e => ⟨by rw [g2]; simpa using e, hs⟩⟩
  rw [List.getElem?_map, Option.map_eq_some_iff] at hv
  obtain ⟨p, hp, rfl⟩ := hv
  obtain ⟨e, h1, h2⟩ := g3 i p hp
  rw [Array.getElem?_toList] at h1
  refine ⟨⟨(Array.getElem?_eq_some_iff.mp h1).1, hs, g1⟩, fun x H' ⟨e1, en, e2, e3⟩ => ?_⟩
  subst e1 e3
  rw [h1] at e2
  cases e2
  exact ⟨G, Le.refl, r, Rep.mono l _ _ h2⟩
theorem rev_get {vs : List Val} {xs : List V} {w : World} {K : PySem.W.Frag} {G : Hp} {A : List Addr} (q : Reps w K G A vs xs) {i : Nat} {v : Val} (hv : vs.reverse[i]? = some v) : i < xs.length ∧ ∃ x, xs[xs.length - 1 - i]? = some x ∧ Rep w K G A v x := by
  have hi : i < vs.length := by
    have := (List.getElem?_eq_some_iff.mp hv).1
    rw [List.length_reverse] at this
    exact this
  rw [List.getElem?_reverse hi] at hv
  obtain ⟨x, h1, h2⟩ := q.get hv
  exact ⟨by rw [q.length]; exact hi, x, by rw [q.length]; exact h1, h2⟩
theorem steps_revl {K : PySem.W.Frag} {vs : List Val} {xs : List V} {a : Addr} (h : Rd G0 a (.lst xs)) (q : Reps F.w F.K G0 A0 vs xs) : Steps F G0 A0 (Itv K a xs.length) vs.reverse := by
  intro i H G A τ s σ l r
  have hs : SqL K H a xs := sqL (rd_up r.sub (l.rd h))
  refine ⟨fun v hv => ?_, fun e => by rw [List.length_reverse] at e; show xs.length ≤ i; rw [q.length, e]; exact Nat.le_refl _⟩
  obtain ⟨h0, x, h1, h2⟩ := rev_get q hv
  refine ⟨⟨h0, xs, x, hs, h1⟩, fun y H' ⟨e, hy⟩ => ?_⟩
  subst e
  have := hy xs hs
  rw [h1] at this
  cases this
  exact ⟨G, Le.refl, r, Rep.mono l _ _ h2⟩
theorem steps_revt {K : PySem.W.Frag} {vs : List Val} {xs : List V} {a : Addr} (h : G0 a = some (.tup xs)) (q : Reps F.w F.K G0 A0 vs xs) : Steps F G0 A0 (RT.ItvT K a xs.length) vs.reverse := by
  intro i H G A τ s σ l r
  have hs : SqT K H a xs := sqT (r.sub _ _ (l.g _ _ h))
  refine ⟨fun v hv => ?_, fun e => by rw [List.length_reverse] at e; show xs.length ≤ i; rw [q.length, e]; exact Nat.le_refl _⟩
  obtain ⟨h0, x, h1, h2⟩ := rev_get q hv
  refine ⟨⟨h0, xs, x, hs, h1⟩, fun y H' ⟨e, hy⟩ => ?_⟩
  subst e
  have := hy xs hs
  rw [h1] at this
  cases this
  exact ⟨G, Le.refl, r, Rep.mono l _ _ h2⟩
end
end TL

set_option Elab.async false
set_option linter.all false
set_option maxRecDepth 100000
set_option maxHeartbeats 4000000
/-! LTU: readings of walks, targets, comprehensions. -/
namespace TL
open PySem PySem.Spec PyProof.Rows L2
theorem bind_assoc {α β γ : Type} {r : Res α} {f : α → Sta → Res β} {g : β → Sta → Res γ} : (r.bind f).bind g = r.bind fun a s => (f a s).bind g := by cases r <;> rfl
section
variable {Φ : Fns} {X : Cx} {W : WX} {σ : St} {H : Hp}
abbrev tW (Φ : Fns) (X : Cx) (W : WX) (wk : Wk) (src : List E) : TI := tAny X W RWk fun s => (evs Φ src s).bind fun vs s => optR (walk wk vs) s
/-- one source -/
theorem w_one {wk : Wk} {e : E} {R : It → Hp → Prop} (h : tW Φ X W wk [e] σ H R) :
    tV Φ X W e σ H fun x H1 => ∃ (F : Fr) (G : Hp) (A : List Addr) (τ : Tmp) (s : Sta) (v : Val) (its : List Val), F.w = X.w ∧ F.K = X.K ∧ Rel F G A τ s σ H1 ∧ Rep F.w F.K G A v x ∧ walk wk [v] = some its ∧ ∀ J, Steps F G A J its → R J H1 := by
  obtain ⟨F, G, A, τ, s, hw, hK, r, h⟩ := h
  have h' : Sat F W σ (RWk F τ σ) G A ((ev Φ e s).bind fun x s => optR (walk wk [x.1]) s) R := by
    have : (fun s => (evs Φ [e] s).bind fun vs s => optR (walk wk vs) s) s = (ev Φ e s).bind fun x s => optR (walk wk [x.1]) s := by
      show (((ev Φ e s).bind fun x s => (evs Φ [] s).bind fun xs s => .ok (x.1 :: xs) s).bind fun vs s => optR (walk wk vs) s) = _
      rw [bind_assoc]; rfl
    rw [← this]; exact h
  refine ⟨F, G, A, τ, s, hw, hK, r, (Sat.bind h').imp fun x H1 ⟨p, s1, G1, A1, _, l, g, h2⟩ => ?_⟩
  obtain ⟨G2, l2, r2, q2⟩ := Got.fix g
  obtain ⟨its, e1, h3⟩ := Sat.opt1 h2
  exact ⟨F, G2, A1, τ, s1, p.1, its, hw, hK, r2, q2, e1, fun J st => h3 J G2 A1 H1 l2 ⟨r2, st⟩⟩
theorem w_two {wk : Wk} {a b : E} {R : It → Hp → Prop} (h : tW Φ X W wk [a, b] σ H R) :
    tV Φ X W a σ H fun x H1 => tV Φ X W b σ H1 fun y H2 => ∃ (F : Fr) (G : Hp) (A : List Addr) (τ : Tmp) (s : Sta) (v u : Val) (its : List Val), F.w = X.w ∧ F.K = X.K ∧ Rel F G A τ s σ H2 ∧ Rep F.w F.K G A v x ∧ Rep F.w F.K G A u y ∧ walk wk [v, u] = some its ∧ ∀ J, Steps F G A J its → R J H2 := by
  obtain ⟨F, G, A, τ, s, hw, hK, r, h⟩ := h
  have h' : Sat F W σ (RWk F τ σ) G A ((ev Φ a s).bind fun x s => (ev Φ b s).bind fun y s => optR (walk wk [x.1, y.1]) s) R := by
    have : (fun s => (evs Φ [a, b] s).bind fun vs s => optR (walk wk vs) s) s = (ev Φ a s).bind fun x s => (ev Φ b s).bind fun y s => optR (walk wk [x.1, y.1]) s := by
      show (((ev Φ a s).bind fun x s => (evs Φ [b] s).bind fun xs s => .ok (x.1 :: xs) s).bind fun vs s => optR (walk wk vs) s) = _
      rw [bind_assoc]
      congr 1
      funext x s
      rw [bind_assoc]
      show (((ev Φ b s).bind fun y s => (evs Φ [] s).bind fun xs s => .ok (y.1 :: xs) s).bind fun xs s => (Res.ok (x.1 :: xs) s).bind fun vs s => optR (walk wk vs) s) = _
      rw [bind_assoc]; rfl
    rw [← this]; exact h
  refine ⟨F, G, A, τ, s, hw, hK, r, (Sat.bind h').imp fun x H1 ⟨p, s1, G1, A1, _, l, g, h2⟩ => ?_⟩
  obtain ⟨G2, l2, r2, q2⟩ := Got.fix g
  refine ⟨F, G2, A1, τ, s1, hw, hK, r2, (Sat.bind (Sat.mono h2 l2)).imp fun y H2 ⟨p2, s2, G3, A3, _, l3, g3, h3⟩ => ?_⟩
  obtain ⟨G4, l4, r4, q4⟩ := Got.fix g3
  obtain ⟨its, e1, h5⟩ := Sat.opt1 h3
  exact ⟨F, G4, A3, τ, s2, p.1, p2.1, its, hw, hK, r4, Rep.mono l4 _ _ (Rep.mono l3 _ _ q2), q4, e1, fun J st => h5 J G4 A3 H2 l4 ⟨r4, st⟩⟩
theorem cw_val {e : E} {R : It → Hp → Prop} (h : tW Φ X W .val [e] σ H R) : tV Φ X W e σ H fun x H1 => rSeq X.K x H1 R := by
  obtain ⟨F, G, A, τ, s, hw, hK, r, h⟩ := w_one h
  refine ⟨F, G, A, τ, s, hw, hK, r, Sat.imp h fun x H1 ⟨F, G, A, τ, s, v, its, hw, hK, r, q, e, k⟩ => ?_⟩
  have e' : itemsOf v = some its := e
  cases v with
  | lst vs =>
    cases e'
    obtain ⟨a, u, rfl, h1, xs, rfl, h2⟩ := q
    exact ⟨a, rfl, .inl ⟨xs, sqL (rd_up r.sub h1), k _ (steps_list h1 h2)⟩⟩
  | tup vs =>
    cases e'
    obtain ⟨a, xs, rfl, h1, h2⟩ := q
    exact ⟨a, rfl, .inr (.inl ⟨xs, sqT (r.sub _ _ h1), k _ (steps_tup h1 h2)⟩)⟩
  | dct t kvs =>
    cases e'
    obtain ⟨a, es, ep, rfl, h1, h2, _, _, lo⟩ := q
    exact ⟨a, rfl, .inr (.inr ⟨es, ep, r.sub _ _ h1, lo, k _ (steps_dk h1 h2)⟩)⟩
  | _ => exact absurd (show (none : Option (List Val)) = some _ from e') nofun
theorem rep_int {F : Fr} {G : Hp} {A : List Addr} {i : Int} {x : V} (h : Rep F.w F.K G A (.int i) x) : x = .int i := h
theorem cw_r1 {e : E} {R : It → Hp → Prop} (h : tW Φ X W .range1 [e] σ H R) : iRng1 (tCons (tV Φ X W e) tNil) σ H R := by
  obtain ⟨F, G, A, τ, s, hw, hK, r, h⟩ := w_one h
  refine ⟨F, G, A, τ, s, hw, hK, r, Sat.imp h fun x H1 ⟨F, G, A, τ, s, v, its, hw, hK, r, q, e, k⟩ => ?_⟩
  cases v <;> try (exact absurd (show (none : Option (List Val)) = some _ from e) nofun)
  rename_i n
  have e' : (if smallI n = true then some (intRange 0 n.toNat) else none) = some its := e
  by_cases c : smallI n = true
  · rw [if_pos c] at e'
    have c := smallI_iff.mp c
    cases e'
    exact ⟨n, by rw [rep_int q], by omega, by omega, k _ steps_range⟩
  · rw [if_neg c] at e'; cases e'
theorem cw_r2 {a b : E} {R : It → Hp → Prop} (h : tW Φ X W .range2 [a, b] σ H R) : iRng2 (tCons (tV Φ X W a) (tCons (tV Φ X W b) tNil)) σ H R := by
  obtain ⟨F, G, A, τ, s, hw, hK, r, h⟩ := w_two h
  refine ⟨F, G, A, τ, s, hw, hK, r, Sat.imp h fun x H1 ⟨F, G, A, τ, s, hw, hK, r, h⟩ => ?_⟩
  refine ⟨F, G, A, τ, s, hw, hK, r, Sat.imp h fun y H2 ⟨F, G, A, τ, s, v, u, its, hw, hK, r, q, q', e, k⟩ => ?_⟩
  cases v <;> cases u <;> try (exact absurd (show (none : Option (List Val)) = some _ from e) nofun)
  rename_i n m
  have e' : (if smallI n = true ∧ smallI m = true then some (intRange n (m - n).toNat) else none) = some its := e
  by_cases c : smallI n = true ∧ smallI m = true
  · rw [if_pos c] at e'
    have c1 := smallI_iff.mp c.1
    have c2 := smallI_iff.mp c.2
    cases e'
    exact ⟨n, m, by rw [rep_int q, rep_int q'], ⟨by omega, by omega, by omega, by omega⟩, k _ steps_range⟩
  · rw [if_neg c] at e'; cases e'
theorem cw_en {e : E} {R : It → Hp → Prop} (h : tW Φ X W .enum [e] σ H R) : tV Φ X W e σ H fun x H1 => ∃ a xs, x = .ref a ∧ ((SqL X.K H1 a xs ∧ R (Ite X.K a) H1) ∨ (SqT X.K H1 a xs ∧ R (ItEt X.K a) H1)) := by
  obtain ⟨F, G, A, τ, s, hw, hK, r, h⟩ := w_one h
  refine ⟨F, G, A, τ, s, hw, hK, r, Sat.imp h fun x H1 ⟨F, G, A, τ, s, v, its, hw, hK, r, q, e, k⟩ => ?_⟩
  cases v <;> try (exact absurd (show (none : Option (List Val)) = some _ from e) nofun)
  · have e' : some (enumV 0 _) = some its := e
    cases e'
    obtain ⟨a, xs, rfl, h1, h2⟩ := q
    exact ⟨a, xs, rfl, .inr ⟨sqT (r.sub _ _ h1), k _ (steps_ent h1 h2)⟩⟩
  · have e' : some (enumV 0 _) = some its := e
    cases e'
    obtain ⟨a, u, rfl, h1, xs, rfl, h2⟩ := q
    exact ⟨a, xs, rfl, .inl ⟨sqL (rd_up r.sub h1), k _ (steps_enl h1 h2)⟩⟩
theorem cw_rev {e : E} {R : It → Hp → Prop} (h : tW Φ X W .revd [e] σ H R) : RT.iRevA X.K (tV Φ X W e) σ H R := by
  obtain ⟨F, G, A, τ, s, hw, hK, r, h⟩ := w_one h
  refine ⟨F, G, A, τ, s, hw, hK, r, Sat.imp h fun x H1 ⟨F, G, A, τ, s, v, its, hw, hK, r, q, e, k⟩ => ?_⟩
  cases v <;> try (exact absurd (show (none : Option (List Val)) = some _ from e) nofun)
  · rename_i vs
    have e' : some vs.reverse = some its := e
    cases e'
    obtain ⟨a, xs, rfl, h1, h2⟩ := q
    exact ⟨a, xs, rfl, .inr ⟨sqT (r.sub _ _ h1), k _ (steps_revt h1 h2)⟩⟩
  · rename_i vs
    have e' : some vs.reverse = some its := e
    cases e'
    obtain ⟨a, u, rfl, h1, xs, rfl, h2⟩ := q
    exact ⟨a, xs, rfl, .inl ⟨sqL (rd_up r.sub h1), k _ (steps_revl h1 h2)⟩⟩
theorem cw_zip {a b : E} {R : It → Hp → Prop} (h : tW Φ X W .zip [a, b] σ H R) : iZip X.K (tCons (tV Φ X W a) (tCons (tV Φ X W b) tNil)) σ H R := by
  obtain ⟨F, G, A, τ, s, hw, hK, r, h⟩ := w_two h
  refine ⟨F, G, A, τ, s, hw, hK, r, Sat.imp h fun x H1 ⟨F, G, A, τ, s, hw, hK, r, h⟩ => ?_⟩
  refine ⟨F, G, A, τ, s, hw, hK, r, Sat.imp h fun y H2 ⟨F, G, A, τ, s, v, u, its, hw, hK, r, q, q', e, k⟩ => ?_⟩
  cases v <;> cases u <;> try (exact absurd (show (none : Option (List Val)) = some _ from e) nofun)
  rename_i vs us
  have e' : (if vs.length = us.length then some (zipV vs us) else none) = some its := e
  by_cases c : vs.length = us.length
  · rw [if_pos c] at e'
    cases e'
    obtain ⟨a, u, rfl, h1, xs, rfl, h2⟩ := q
    obtain ⟨b, u', rfl, h3, ys, rfl, h4⟩ := q'
    exact ⟨a, b, xs, ys, rfl, sqL (rd_up r.sub h1), sqL (rd_up r.sub h3), k _ (steps_zip h1 h2 h3 h4 c)⟩
  · rw [if_neg c] at e'; cases e'
end
/-! ### targets -/
mutual
theorem tgIn_mem {Q : Nat → Prop} : ∀ {t : Tg} {l : List Nat}, tgIn t l = true → True
  | _, _, _ => trivial
end
/-- σ' is σ but at the slots of l -/
def Out (σ σ' : St) (l : List Nat) : Prop := σ'.length = σ.length ∧ ∀ i, i ∉ l → σ'[i]? = σ[i]?
theorem Out.refl {σ : St} {l : List Nat} : Out σ σ l := ⟨rfl, fun _ _ => rfl⟩
theorem Out.trans {σ σ' σ2 : St} {l : List Nat} (h : Out σ σ' l) (h' : Out σ' σ2 l) : Out σ σ2 l := ⟨h'.1.trans h.1, fun i hi => (h'.2 i hi).trans (h.2 i hi)⟩
def gTg (X : Cx) (tg : Tg) : TG := fun x σ H Q => ∃ (F : Fr) (G : Hp) (A : List Addr) (τ : Tmp) (s : Sta) (v : Val) (ρ' : List Slot), F.w = X.w ∧ F.K = X.K ∧ Rel F G A τ s σ H ∧ Rep F.w F.K G A v x ∧ setTg tg v s.ρ = some ρ' ∧
  ∀ σ', (∀ l, tgIn tg l = true → Out σ σ' l) → Rel F G A τ ⟨ρ', s.w⟩ σ' H → Q σ' H
def gTgs (X : Cx) (ts : List Tg) : TGs := fun xs σ H Q => ∃ (F : Fr) (G : Hp) (A : List Addr) (τ : Tmp) (s : Sta) (vs : List Val) (ρ' : List Slot), F.w = X.w ∧ F.K = X.K ∧ Rel F G A τ s σ H ∧ Reps F.w F.K G A vs xs ∧ setTgs ts vs s.ρ = some ρ' ∧
  ∀ σ', (∀ l, tgIns ts l = true → Out σ σ' l) → Rel F G A τ ⟨ρ', s.w⟩ σ' H → Q σ' H
theorem PG.conv {X : Cx} {e : Expr} {t t' : TG} (h : PG X e t) (c : ∀ x σ H Q, t' x σ H Q → t x σ H Q) : PG X e t' := ⟨fun pins s σ H v u Q I r q => h.run pins s σ H v u Q I r (c v σ H Q q)⟩
theorem PGs.conv {X : Cx} {e : List Expr} {t t' : TGs} (h : PGs X e t) (c : ∀ x σ H Q, t' x σ H Q → t x σ H Q) : PGs X e t' := ⟨fun pins s σ H v u Q I r q => h.run pins s σ H v u Q I r (c v σ H Q q)⟩
theorem cg_nm {X : Cx} {i : Nat} : ∀ x σ H Q, gTg X (.nm i) x σ H Q → gName i x σ H Q := fun x σ H Q ⟨F, G, A, τ, s, v, ρ', hw, hK, r, q, e, k⟩ => by
  have e' : (if i < s.ρ.length then some (s.ρ.set i (.fz v)) else none) = some ρ' := e
  by_cases c : i < s.ρ.length
  · rw [if_pos c] at e'
    cases e'
    refine k _ (fun l hl => ⟨by simp, fun j hj => ?_⟩) (r.setFz i q (by rw [← r.len]; exact c))
    have : j ≠ i := fun e => hj (by subst e; simpa [tgIn] using hl)
    rw [List.getElem?_set_ne (Ne.symm this)]
  · rw [if_neg c] at e'; cases e'
/-- a tuple, or a list -/
def gTL (K : PySem.W.Frag) (n : Nat) (t : TGs) : TG := fun v σ H Q => gTup K n t v σ H Q ∨ gLst K n t v σ H Q
theorem pg_tl {X : Cx} {es : List Expr} {k : Nat} {pos : Pos} {t : TGs} {n : Nat} (hc : X.calm = true) (h : PGs X es t)
    (hn : (assignEach es X.env).length = n) (hst : (assignEach es X.env).findIdx? (·.1) = none) : PG X (.Tuple es k pos) (gTL X.K n t) :=
  ⟨fun pins s σ H v u Q I r hw => hw.elim (fun q => (pg_tup hc h hn hst).run pins s σ H v u Q I r q) (fun q => (pg_lst hc h hn hst).run pins s σ H v u Q I r q)⟩
theorem tgs_len : ∀ {ts : List Tg} {vs : List Val} {ρ ρ' : List Slot}, setTgs ts vs ρ = some ρ' → ts.length = vs.length := by
  intro ts
  induction ts with
  | nil => intro vs ρ ρ' h; cases vs with
    | nil => rfl
    | cons => exact absurd (show (none : Option (List Slot)) = some _ from h) nofun
  | cons t ts ih => intro vs ρ ρ' h; cases vs with
    | nil => exact absurd (show (none : Option (List Slot)) = some _ from h) nofun
    | cons v vs =>
      have h' : (setTg t v ρ).bind (setTgs ts vs) = some ρ' := h
      obtain ⟨ρ1, _, h2⟩ := Option.bind_eq_some_iff.mp h'
      rw [List.length_cons, List.length_cons, ih h2]
theorem cg_tup {X : Cx} {ts : List Tg} {n : Nat} (hn : n = ts.length) : ∀ x σ H Q, gTg X (.tup ts) x σ H Q → gTL X.K n (gTgs X ts) x σ H Q := fun x σ H Q ⟨F, G, A, τ, s, v, ρ', hw, hK, r, q, e, k⟩ => by
  cases v <;> try (exact absurd (show (none : Option (List Slot)) = some _ from e) nofun)
  · rename_i vs
    obtain ⟨a, xs, rfl, h1, h2⟩ := q
    have e' : setTgs ts vs s.ρ = some ρ' := e
    exact .inl ⟨a, xs, rfl, sqT (r.sub _ _ h1), by rw [hn, tgs_len e', h2.length], F, G, A, τ, s, vs, ρ', hw, hK, r, h2, e', k⟩
  · rename_i vs
    obtain ⟨a, u, rfl, h1, xs, rfl, h2⟩ := q
    have e' : setTgs ts vs s.ρ = some ρ' := e
    exact .inr ⟨a, xs, rfl, sqL (rd_up r.sub h1), by rw [hn, tgs_len e', h2.length], F, G, A, τ, s, vs, ρ', hw, hK, r, h2, e', k⟩
theorem cg_cons {X : Cx} {t : Tg} {ts : List Tg} : ∀ x σ H Q, gTgs X (t :: ts) x σ H Q → gCons (gTg X t) (gTgs X ts) x σ H Q := fun x σ H Q ⟨F, G, A, τ, s, vs, ρ', hw, hK, r, q, e, k⟩ => by
  cases vs with
  | nil => exact absurd (show (none : Option (List Slot)) = some _ from e) nofun
  | cons v vs =>
    have e' : (setTg t v s.ρ).bind (setTgs ts vs) = some ρ' := e
    obtain ⟨ρ1, e1, e2⟩ := Option.bind_eq_some_iff.mp e'
    obtain ⟨y, ys, rfl, h1, h2⟩ := q
    refine ⟨y, ys, rfl, F, G, A, τ, s, v, ρ1, hw, hK, r, h1, e1, fun σ1 o1 r1 => ⟨F, G, A, τ, ⟨ρ1, s.w⟩, vs, ρ', hw, hK, r1, h2, e2, fun σ2 o2 r2 => k σ2 (fun l hl => ?_) r2⟩⟩
    have hl' : tgIn t l = true ∧ tgIns ts l = true := by
      have : (tgIn t l && tgIns ts l) = true := hl
      simpa using this
    exact (o1 l hl'.1).trans (o2 l hl'.2)
theorem cg_nil {X : Cx} : ∀ x σ H Q, gTgs X [] x σ H Q → gNil x σ H Q := fun x σ H Q ⟨F, G, A, τ, s, vs, ρ', hw, hK, r, q, e, k⟩ => by
  cases vs with
  | nil =>
    have e' : some s.ρ = some ρ' := e
    cases e'
    exact ⟨q, k σ (fun l _ => Out.refl) r⟩
  | cons => exact absurd (show (none : Option (List Slot)) = some _ from e) nofun
section
variable {T : Tab} {Φ : Fns} {P : Pl} {X : Cx} {W : WX}
theorem st_facts (C : Ctx T Φ P X W) {i : Nat} {x : Str} (h : stB P i x = true) : X.N[i]? = some x ∧ Loc X.env.scope x ∧ (X.fn x = true ∨ X.env.scope.names.lookup x = some .local) := by
  simp only [stB, Bool.and_eq_true, Bool.or_eq_true, decide_eq_true_eq, kindB] at h
  obtain ⟨h1, h2⟩ := h
  rw [C.eN, C.eS]
  rcases h2 with h2 | ⟨h2, h3⟩
  · exact ⟨h1, .inl h2, .inr h2⟩
  · exact ⟨h1, .inr h2, .inl (C.cells x h3)⟩
theorem mTg_star {tg : Tg} {e : Expr} (h : mTg P tg e = true) {es : List Expr} {env : Env} : assignEach (e :: es) env = (false, assign e env) :: assignEach es env := by
  cases tg <;> cases e <;> first | rfl | exact absurd h Bool.false_ne_true
mutual
theorem soTg (C : Ctx T Φ P X W) : ∀ (tg : Tg) (e : Expr), mTg P tg e = true → PG X e (gTg X tg)
  | .nm i, e, h => by
    cases e <;> try (exact absurd h Bool.false_ne_true)
    rename_i x p
    obtain ⟨h1, h2, h3⟩ := st_facts C (show stB P i x = true from h)
    exact PG.conv (pg_name C.nd h1 h2 h3) cg_nm
  | .tup ts, e, h => by
    cases e <;> try (exact absurd h Bool.false_ne_true)
    rename_i es k p
    have h' : mTgs P ts es = true := h
    obtain ⟨g1, g2, g3⟩ := soTgs C ts es h'
    exact PG.conv (pg_tl C.calm g1 g2 g3) (cg_tup rfl)
theorem soTgs (C : Ctx T Φ P X W) : ∀ (ts : List Tg) (es : List Expr), mTgs P ts es = true → PGs X es (gTgs X ts) ∧ (assignEach es X.env).length = ts.length ∧ (assignEach es X.env).findIdx? (·.1) = none
  | [], [], _ => ⟨PGs.conv pgs_nil cg_nil, rfl, rfl⟩
  | [], _ :: _, h => absurd h Bool.false_ne_true
  | _ :: _, [], h => absurd h Bool.false_ne_true
  | t :: ts, e :: es, h => by
    obtain ⟨h1, h2⟩ := and2 (show (mTg P t e && mTgs P ts es) = true from h)
    obtain ⟨g1, g2, g3⟩ := soTgs C ts es h2
    have st := mTg_star h1 (es := es) (env := X.env)
    refine ⟨PGs.conv (pgs_cons (soTg C t e h1) g1 (by rw [st]; rfl)) cg_cons, by rw [st, List.length_cons, g2]; rfl, ?_⟩
    rw [st, List.findIdx?_cons]
    simp [g3]
end
end
end TL

set_option Elab.async false
set_option linter.all false
set_option maxRecDepth 100000
set_option maxHeartbeats 4000000
/-! LTV: comprehensions. -/
namespace TL
open PySem PySem.Spec PyProof.Rows L2
section
variable {F : Fr} {G G1 : Hp} {A A1 : List Addr} {τ τ1 : Tmp} {s s1 : Sta} {σ σ' : St} {H H1 : Hp}
/-- other slots that nobody looks at -/
theorem Rel.sig (r : Rel F G A τ s σ H) (hl : σ'.length = σ.length) (h : ∀ (i : Nat) (b : Slot), s.ρ[i]? = some b → b ≠ .e → σ'[i]? = σ[i]?) : Rel F G A τ s σ' H := by
  have key : ∀ c a v, cellAt s τ σ' A c = some (a, v) → cellAt s τ σ A c = some (a, v) := fun c a v e => by
    cases c with
    | slot i =>
      have e' : slotC s.ρ σ' i = some (a, v) := e
      show slotC s.ρ σ i = some (a, v)
      unfold slotC at e' ⊢
      cases hb : s.ρ[i]? with
      | none => rw [hb] at e'; cases e'
      | some b =>
        cases b with
        | own u => rw [hb, h i _ hb (by simp)] at e'; exact e'
        | _ => rw [hb] at e'; cases e'
    | tmp i => exact e
    | obj i => exact e
  refine ⟨r.ext, r.sub, r.len.trans hl.symm, r.wlen, fun i b hb => ?_, fun c a v e => r.cell c a v (key c a v e), fun c c' a v v' e e' => r.inj c c' a v v' (key c a v e) (key c' a v' e'), fun c a v e => r.new c a v (key c a v e), r.old⟩
  have := r.slot i b hb
  cases b with
  | e => trivial
  | fz v => obtain ⟨x, hx, q⟩ := this; exact ⟨x, (h i _ hb (by simp)).trans hx, q⟩
  | own v => obtain ⟨a, ha⟩ := this; exact ⟨a, (h i _ hb (by simp)).trans ha⟩
theorem Rel.wipe (r : Rel F G A τ s σ H) : ∀ is : List Nat, Rel F G A τ ⟨wipeS s.ρ is, s.w⟩ (L2.wipe σ is) H
  | [] => r
  | i :: is => by
    have r1 := (Rel.wipe r is).kill i
    refine r1.sig (by simp [L2.wipe]) fun j b hb hne => ?_
    have hb' : ((wipeS s.ρ is).set i .e)[j]? = some b := hb
    by_cases e : j = i
    · subst e
      by_cases c : j < (wipeS s.ρ is).length
      · rw [List.getElem?_set_self c] at hb'; cases hb'; exact absurd rfl hne
      · rw [List.getElem?_eq_none (by rw [List.length_set]; omega)] at hb'; cases hb'
    · show ((L2.wipe σ is).set i none)[j]? = (L2.wipe σ is)[j]?
      rw [List.getElem?_set_ne (Ne.symm e)]
theorem wipe_in {σ : St} {i : Nat} : ∀ {vs : List Nat}, i ∈ vs → i < σ.length → (L2.wipe σ vs)[i]? = some none
  | v :: vs, h, hl => by
    show ((L2.wipe σ vs).set v none)[i]? = some none
    by_cases e : i = v
    · subst e; rw [List.getElem?_set_self (by rw [wipe_length]; exact hl)]
    · rw [List.getElem?_set_ne (Ne.symm e)]
      rcases List.mem_cons.mp h with h | h
      · exact absurd h e
      · exact wipe_in h hl
theorem wipe_not {σ : St} {i : Nat} : ∀ {vs : List Nat}, i ∉ vs → (L2.wipe σ vs)[i]? = σ[i]?
  | [], _ => rfl
  | v :: vs, h => by
    have e : i ≠ v := fun e => h (by rw [e]; exact List.mem_cons_self)
    show ((L2.wipe σ vs).set v none)[i]? = _
    rw [List.getElem?_set_ne (Ne.symm e)]
    exact wipe_not fun h' => h (List.mem_cons_of_mem _ h')
theorem wipe_eq {σ σ' : St} {vs : List Nat} (o : Out (L2.wipe σ vs) σ' vs) : L2.wipe σ' vs = L2.wipe σ vs := by
  have hl : σ'.length = σ.length := by rw [o.1, wipe_length]
  apply List.ext_getElem?
  intro i
  by_cases h : i ∈ vs
  · by_cases c : i < σ.length
    · rw [wipe_in h c, wipe_in h (by rw [hl]; exact c)]
    · rw [List.getElem?_eq_none (by rw [wipe_length, hl]; omega), List.getElem?_eq_none (by rw [wipe_length]; omega)]
  · rw [wipe_not h, o.2 i h]
theorem back_len {ρ ρ' : List Slot} : ∀ is : List Nat, (backS ρ ρ' is).length = ρ'.length
  | [] => rfl
  | i :: is => by show ((backS ρ ρ' is).set i _).length = _; rw [List.length_set, back_len is]
theorem back_not {ρ ρ' : List Slot} {j : Nat} : ∀ {is : List Nat}, j ∉ is → (backS ρ ρ' is)[j]? = ρ'[j]?
  | [], _ => rfl
  | i :: is, h => by
    have e : j ≠ i := fun e => h (by rw [e]; exact List.mem_cons_self)
    show ((backS ρ ρ' is).set i _)[j]? = _
    rw [List.getElem?_set_ne (Ne.symm e)]
    exact back_not fun h' => h (List.mem_cons_of_mem _ h')
theorem back_in {ρ ρ' : List Slot} {j : Nat} {b : Slot} : ∀ {is : List Nat}, j ∈ is → (backS ρ ρ' is)[j]? = some b → b = unown (ρ.getD j .e)
  | i :: is, h, e => by
    have e' : ((backS ρ ρ' is).set i (unown (ρ.getD i .e)))[j]? = some b := e
    by_cases q : j = i
    · subst q
      by_cases c : j < (backS ρ ρ' is).length
      · rw [List.getElem?_set_self c] at e'; cases e'; rfl
      · rw [List.getElem?_eq_none (by rw [List.length_set]; omega)] at e'; cases e'
    · rw [List.getElem?_set_ne (Ne.symm q)] at e'
      rcases List.mem_cons.mp h with h | h
      · exact absurd h q
      · exact back_in h e'
/-- behind a comprehension -/
theorem Rel.unwipe {vs : List Nat} (r : Rel F G A τ s (L2.wipe σ vs) H) (r1 : Rel F G1 A1 τ1 s1 σ H1) (l : Le G1 A1 G A) : Rel F G A τ ⟨backS s1.ρ s.ρ vs, s.w⟩ σ H := by
  have key : ∀ c a v, cellAt ⟨backS s1.ρ s.ρ vs, s.w⟩ τ σ A c = some (a, v) → cellAt s τ (L2.wipe σ vs) A c = some (a, v) := fun c a v e => by
    cases c with
    | slot i =>
      have e' : slotC (backS s1.ρ s.ρ vs) σ i = some (a, v) := e
      show slotC s.ρ (L2.wipe σ vs) i = some (a, v)
      unfold slotC at e' ⊢
      by_cases h : i ∈ vs
      · cases hb : (backS s1.ρ s.ρ vs)[i]? with
        | none => rw [hb] at e'; cases e'
        | some b =>
          have eb := back_in h hb
          rw [hb] at e'
          cases b with
          | own u => cases hq : s1.ρ.getD i .e <;> rw [hq] at eb <;> cases eb
          | _ => cases e'
      · rw [back_not h] at e'
        rw [wipe_not h]; exact e'
    | tmp i => exact e
    | obj i => exact e
  refine ⟨r.ext, r.sub, by show (backS s1.ρ s.ρ vs).length = σ.length; rw [back_len, r.len, wipe_length], r.wlen, fun i b hb => ?_, fun c a v e => r.cell c a v (key c a v e), fun c c' a v v' e e' => r.inj c c' a v v' (key c a v e) (key c' a v' e'), fun c a v e => r.new c a v (key c a v e), r.old⟩
  have hb' : (backS s1.ρ s.ρ vs)[i]? = some b := hb
  by_cases h : i ∈ vs
  · have eb := back_in h hb'
    cases b with
    | e => trivial
    | own u => cases hq : s1.ρ.getD i .e <;> rw [hq] at eb <;> cases eb
    | fz u =>
      have hq : s1.ρ[i]? = some (.fz u) := by
        cases hz : s1.ρ[i]? with
        | none => rw [List.getD_eq_getElem?_getD, hz] at eb; cases eb
        | some z =>
          rw [List.getD_eq_getElem?_getD, hz] at eb
          cases z with
          | fz u' => cases eb; rfl
          | _ => cases eb
      exact (r1.slot i _ hq).mono l
  · rw [back_not h] at hb'
    have := r.slot i b hb'
    cases b with
    | e => trivial
    | fz v => obtain ⟨x, hx, q⟩ := this; exact ⟨x, by rw [← wipe_not h]; exact hx, q⟩
    | own v => obtain ⟨a, ha⟩ := this; exact ⟨a, by rw [← wipe_not h]; exact ha⟩
end
/-- one item of a comprehension -/
def compF (Φ : Fns) (elt : E) (tg : Tg) (cond : Option Ts) (vs : List Nat) : Val → List Val → Sta → Res (List Val) := fun v acc s => match setTg tg v s.ρ with
  | none => .bad
  | some ρ => (match cond with
    | none => (ev Φ elt ⟨ρ, s.w⟩).bind fun x s => if acc.length < sizeLine then .ok (acc ++ [x.1]) ⟨wipeS s.ρ vs, s.w⟩ else .bad
    | some c => (evT Φ c ⟨ρ, s.w⟩).bind fun b s => if b then (ev Φ elt s).bind fun x s => if acc.length < sizeLine then .ok (acc ++ [x.1]) ⟨wipeS s.ρ vs, s.w⟩ else .bad
        else .ok acc ⟨wipeS s.ρ vs, s.w⟩)
def W0 : WX := fun _ _ _ _ => False
def tCond (Φ : Fns) (X : Cx) : Option Ts → TT
  | none => tYes
  | some c => tB Φ X W0 c
section
variable {Φ : Fns} {X : Cx} {W : WX} {σ : St} {H : Hp}
theorem noEx_bind {α β : Type} {r : Res α} {f : α → Sta → Res β} : noEx (r.bind f) = (noEx r).bind fun a s => noEx (f a s) := by cases r <;> rfl
theorem cv_comp {elt : E} {tg : Tg} {wk : Wk} {src : List E} {cond : Option Ts} {own : List (Str × Nat)} {Q : VK} (ht : tgIn tg (own.map (·.2)) = true) (h : tV Φ X W (.comp elt tg wk src cond own) σ H Q) :
    tLc (tW Φ X W wk src) (gTg X tg) (tCond Φ X cond) (tV Φ X W0 elt) (own.map (·.2)) σ H Q := by
  obtain ⟨F, G, A, τ, s, hw, hK, r, h⟩ := h
  generalize hvs : own.map (·.2) = vs at ht ⊢
  have e0 : ev Φ (.comp elt tg wk src cond own) s = ((evs Φ src s).bind fun ws s => optR (walk wk ws) s).bind fun its s1 => (noEx (foldR (compF Φ elt tg cond vs) its [] ⟨wipeS s1.ρ vs, s1.w⟩)).bind fun acc s' => .ok (.lst acc, true) ⟨backS s1.ρ s'.ρ vs, s'.w⟩ := by
    cases cond <;> (rw [bind_assoc, ← hvs]; rfl)
  rw [e0] at h
  refine ⟨F, G, A, τ, s, hw, hK, r, (Sat.bind h).imp fun J H1 ⟨its, s1, G1, A1, _, l, ⟨r1, st⟩, h2⟩ => ?_⟩
  intro D hD
  let Pv : Nat → Hp → Prop := fun i H2 => ∃ (G2 : Hp) (A2 : List Addr) (s2 : Sta) (acc : List Val), Le G1 A1 G2 A2 ∧ Rel F G2 A2 ((D, .lst acc) :: τ) s2 (L2.wipe σ vs) H2 ∧
    Sat F W σ (RV F τ σ) G2 A2 ((noEx (foldR (compF Φ elt tg cond vs) (its.drop i) acc s2)).bind fun acc s' => .ok (.lst acc, true) ⟨backS s1.ρ s'.ρ vs, s'.w⟩) Q
  refine ⟨fun i m H2 => m = its.length - i ∧ i ≤ its.length ∧ Pv i H2, ⟨its.length, by simp, Nat.zero_le _, G1, A1, _, [], Le.refl, (r1.layT (v := .lst []) (o := .lst []) hD ⟨[], rfl, rfl⟩).wipe vs, h2⟩, ?_⟩
  rintro i m H2 ⟨rfl, hi, G2, A2, s2, acc, l2, r2, h3⟩
  obtain ⟨go, stop⟩ := st i H2 G2 A2 _ s2 _ l2 r2
  by_cases hlt : i < its.length
  · have ev' : its[i]? = some its[i] := List.getElem?_eq_getElem hlt
    obtain ⟨g1, g2⟩ := go _ ev'
    refine .inr ⟨g1, Pv (i + 1), fun H' p => ⟨its.length - (i + 1), by omega, rfl, hlt, p⟩, fun x H' y => ?_⟩
    obtain ⟨G3, l3, r3, q3⟩ := g2 x H' y
    rw [List.drop_eq_getElem_cons hlt] at h3
    have h4 : Sat F W σ (RV F τ σ) G2 A2 (((noEx (compF Φ elt tg cond vs its[i] acc s2)).bind fun acc s => noEx (foldR (compF Φ elt tg cond vs) (its.drop (i + 1)) acc s)).bind fun acc s' => .ok (.lst acc, true) ⟨backS s1.ρ s'.ρ vs, s'.w⟩) Q := by
      rw [← noEx_bind]; exact h3
    cases eρ : setTg tg its[i] s2.ρ with
    | none => simp only [compF, eρ] at h4; exact h4.elim
    | some ρ' =>
      refine ⟨F, G3, A2, _, s2, its[i], ρ', hw, hK, r3, q3, eρ, fun σ2 o2 r4 => ⟨wipe_eq (o2 vs ht), ?_⟩⟩
      -- the item
      have item : ∀ (s5 : Sta) (G5 : Hp) (A5 : List Addr) (H5 : Hp), Le G2 A2 G5 A5 → Rel F G5 A5 ((D, .lst acc) :: τ) s5 σ2 H5 →
          Sat F W σ (RV F τ σ) G5 A5 (((noEx ((ev Φ elt s5).bind fun x s => if acc.length < sizeLine then .ok (acc ++ [x.1]) ⟨wipeS s.ρ vs, s.w⟩ else .bad)).bind fun acc s => noEx (foldR (compF Φ elt tg cond vs) (its.drop (i + 1)) acc s)).bind fun acc s' => .ok (.lst acc, true) ⟨backS s1.ρ s'.ρ vs, s'.w⟩) Q →
          tV Φ X W0 elt σ2 H5 fun y H6 => ∃ zs, H6 D = some (.lst zs) ∧ zs.length < sizeLine ∧ Pv (i + 1) (upd H6 D (.lst (zs ++ [y]))) := fun s5 G5 A5 H5 l5 r5 h5 => by
        refine ⟨F, G5, A5, _, s5, hw, hK, r5, ?_⟩
        cases ee : ev Φ elt s5 with
        | bad => rw [ee] at h5; exact h5.elim
        | ex c fs s6 => rw [ee] at h5; exact h5.elim
        | ok p s6 =>
          rw [ee] at h5
          intro y G6 A6 H6 l6 g6
          obtain ⟨G7, l7, r7, q7⟩ := Got.fix g6
          obtain ⟨_, _, ⟨u, hu, zs, rfl, hz⟩, _⟩ := r7.top
          by_cases c : acc.length < sizeLine
          · have h6 : Sat F W σ (RV F τ σ) G5 A5 ((noEx (foldR (compF Φ elt tg cond vs) (its.drop (i + 1)) (acc ++ [p.1]) ⟨wipeS s6.ρ vs, s6.w⟩)).bind fun acc s' => .ok (.lst acc, true) ⟨backS s1.ρ s'.ρ vs, s'.w⟩) Q := by
              have : noEx ((Res.ok p s6).bind fun x s => if acc.length < sizeLine then .ok (acc ++ [x.1]) ⟨wipeS s.ρ vs, s.w⟩ else .bad) = .ok (acc ++ [p.1]) ⟨wipeS s6.ρ vs, s6.w⟩ := by
                show noEx (if acc.length < sizeLine then Res.ok (acc ++ [p.1]) ⟨wipeS s6.ρ vs, s6.w⟩ else .bad) = _
                rw [if_pos c]; rfl
              rw [this] at h5; exact h5
            refine ⟨zs, hu, by rw [hz.length]; exact c, G7, A6, _, _, ((l2.trans l5).trans l6).trans l7, ?_, Sat.mono h6 (l6.trans l7)⟩
            have := (r7.wrT (v' := .lst (acc ++ [p.1])) (u := .lst (zs ++ [y])) ⟨_, rfl, hz.snoc q7⟩).wipe vs
            rw [wipe_eq (o2 vs ht)] at this
            exact this
          · have : noEx ((Res.ok p s6).bind fun x s => if acc.length < sizeLine then .ok (acc ++ [x.1]) ⟨wipeS s.ρ vs, s.w⟩ else .bad) = .bad := by
              show noEx (if acc.length < sizeLine then Res.ok (acc ++ [p.1]) ⟨wipeS s6.ρ vs, s6.w⟩ else .bad) = _
              rw [if_neg c]; rfl
            rw [this] at h5; exact h5.elim
      cases cond with
      | none =>
        simp only [compF, eρ] at h4
        simp only [tCond, tYes, if_true]
        exact item _ G3 A2 H' l3 r4 (Sat.mono h4 l3)
      | some c =>
        simp only [compF, eρ] at h4
        refine ⟨F, G3, A2, _, ⟨ρ', s2.w⟩, hw, hK, r4, ?_⟩
        cases ec : evT Φ c ⟨ρ', s2.w⟩ with
        | bad => rw [ec] at h4; exact h4.elim
        | ex c' fs s5 => rw [ec] at h4; exact h4.elim
        | ok b s5 =>
          rw [ec] at h4
          intro b' G5 A5 H5 l5 ⟨r5, eb⟩
          subst eb
          cases b' with
          | true =>
            rw [if_pos rfl]
            exact item s5 G5 A5 H5 (l3.trans l5) r5 (Sat.mono h4 (l3.trans l5))
          | false =>
            rw [if_neg Bool.false_ne_true]
            refine ⟨G5, A5, ⟨wipeS s5.ρ vs, s5.w⟩, acc, (l2.trans l3).trans l5, ?_, Sat.mono h4 (l3.trans l5)⟩
            have := r5.wipe vs
            rw [wipe_eq (o2 vs ht)] at this
            exact this
  · have e : i = its.length := by omega
    subst e
    refine .inl ⟨stop rfl, ?_⟩
    rw [List.drop_length] at h3
    exact h3 (.ref D) G2 A2 H2 Le.refl ⟨D, rfl, r2.unwipe r1 l2⟩
end
end TL

set_option Elab.async false
set_option linter.all false
set_option maxRecDepth 100000
set_option maxHeartbeats 4000000
/-! LTVd: dict comprehensions. -/
namespace TL
open PySem PySem.Spec PyProof.Rows L2
section
variable {Φ : Fns} {X : Cx} {W : WX} {σ : St} {H : Hp}
/-- d[k] = v by the comprehension itself -/
def rDs (X : Cx) (D : Addr) (y z : V) (H : Hp) (N : Hp → Prop) : Prop := ∃ (G : Hp) (A : List Addr) (t : Bool) (kvs : List (NestedKey × Val)) (k : NestedKey) (v : Val), DAt X.w X.K G A H D t kvs ∧ (∀ a u, G a = some u → H a = some u) ∧ KeyV G t k y ∧ Rep X.w X.K G A v z ∧ kvs.length < sizeLine ∧
  ∀ es ep, RepD X.w X.K G A t (dPut kvs k v) es.toList → N (upd H D (dictHO D es ep))
/-- one turn, once its item is there -/
def turnD (X : Cx) (tt : TT) (tk tv : TE) (D : Addr) (vs : List Nat) (σ : St) (N : Hp → Prop) : St → Hp → Prop := fun σ2 H2 => L2.wipe σ2 vs = L2.wipe σ vs ∧ tt σ2 H2 fun b H3 => if b = true then tk σ2 H3 fun y H4 => tv σ2 H4 fun z H5 => rDs X D y z H5 N else N H3
def tDcD (X : Cx) (wi : TI) (g : TG) (tt : TT) (tk tv : TE) (vs : List Nat) : TE := fun σ H Q => wi σ H fun J H1 => ∀ D, H1 D = none → (D == sysModules) = false → ∃ S : Nat → Nat → Hp → Prop, (∃ m, S 0 m (upd H1 D (dictHO D #[] 0))) ∧ ∀ i m H, S i m H →
  (J.stop i H ∧ Q (.ref D) H) ∨ (J.go i H ∧ ∃ N : Hp → Prop, (∀ H', N H' → ∃ m', m' < m ∧ S (i + 1) m' H') ∧ ∀ x H', J.yld i H x H' → g x (L2.wipe σ vs) H' (turnD X tt tk tv D vs σ N))
variable {kx vx tg it : Expr} {ifs : List Expr} {sc : Scope} {own : List (Str × Nat)} {pos pos' : Pos} {wi : TI} {g : TG} {tt : TT} {tk tv : TE}
abbrev Blk (X : Cx) (sc : Scope) (p : Cx → Prop) : Prop := ∀ (s : Shared) (H : Hp) (C : Addr) (cl : List (Str × Addr)) (fp : List Addr), p (X.blk s H sc (compEnvC sc cl C X.env) fp)
theorem dc_run {pins : List (Addr × Obj)} {s : Shared} {Q : VK} {use : Option (Value → Sem Unit)} {Qf : Value → Shared → Prop} (un : X.A.units + 65 < cLine) (calm : X.calm = true) (nd : X.N.Nodup) (I : Inv X pins σ H s) (hi : PI X tg it wi) (bo : BlkOk X.N X.env.scope sc own)
    (hg : Blk X sc fun Y => PG Y tg g) (ht : Blk X sc fun Y => PTs Y ifs tt) (hk : Blk X sc fun Y => PE Y kx tk) (hv : Blk X sc fun Y => PE Y vx tv) (fs : ∀ x, foldedSetIterable it X.env x = pure x) (h : tDcD X wi g tt tk tv (own.map (·.2)) σ H Q)
    (back : ∀ D C s' m H', Inv X pins σ H' s' → Q (.ref D) H' → s'.heap.Ns C m → FpOk X pins H' C → compPost (model X.prog X.w) X.A X.xe use Qf (.ref D) C (.ok .next) s') :
    wpAny (model X.prog X.w) X.A (comprehension (.DictComp kx vx [⟨tg, it, ifs, 0⟩] sc pos) sc X.env pos' newDict false (eval it X.env) use) Qf X.xe s := by
  have free : ∀ y ∈ sc.names, y.2 = .free → ∃ c, X.env.cells.lookup y.1 = some c := fun y hy e => (bo.free y hy e).elim (fun k => I.ok.has _ (.inl k)) fun k => I.ok.has _ (.inr k)
  refine wpAny_comprehension_free (use := use) rfl fs (closure_ok free) bo.kind (fun y hy e => by rw [bo.uniq y hy, e]) (thn (hi.run pins s σ H _ I h) fun xv sa ha => thn ha fun itv sb hb => ?_)
  obtain ⟨ia, fp, tn, J, Hb, rfl, Ib, T, stb, fb, q⟩ := hb
  refine wpAny_newObj_type (newEnv_comp ?_); generalize hD : sb.heap.objs.size = D
  have hDn : Hb D = none := Ib.hok.fresh (Nat.le_of_eq hD)
  obtain ⟨S, ⟨m0, w0⟩, turn⟩ := q D hDn (by rw [← hD]; exact dict_lo Ib)
  generalize hsc : ({ sb with heap := sb.heap.push { cls := .type "dict", data := .dict #[] } } : Shared) = sd
  have Id : Inv X pins σ (upd Hb D (dictHO D #[] 0)) sd := by rw [← hsc, ← hD]; exact dict_laid Ib
  have hd : sd.heap = sb.heap.push { cls := .type "dict", data := .dict #[] } := by rw [← hsc]
  have below : ∀ b ∈ fp, b < sb.heap.objs.size := fun b hb => let ⟨o, e, _⟩ := T.obj _ _ stb b hb; Heap.lt_size e
  have fd : ∀ b ∈ fp, FpOk X pins (upd Hb D (dictHO D #[] 0)) b ∧ b < sd.heap.objs.size := fun b hb => by
    have lt := below b hb
    exact ⟨⟨by rw [upd_ne (by rw [← hD]; exact Nat.ne_of_lt lt)]; exact (fb b hb).1, (fb b hb).2⟩, by rw [hd, Heap.size_push]; exact Nat.lt_succ_of_lt lt⟩
  have std : tn 0 sd.heap := T.keep _ _ _ stb fun b _ o e => by rw [hd]; exact Heap.get?_push_of_some _ e
  have Ie := block_start Id bo nd fd
  have pg := hg sd (upd Hb D (dictHO D #[] 0)) sd.heap.objs.size (cellsFrom (sd.heap.objs.size + 1) sc.names (cloFrom X.env.cells sc.names [])) fp
  have pt := ht sd (upd Hb D (dictHO D #[] 0)) sd.heap.objs.size (cellsFrom (sd.heap.objs.size + 1) sc.names (cloFrom X.env.cells sc.names [])) fp
  have pk := hk sd (upd Hb D (dictHO D #[] 0)) sd.heap.objs.size (cellsFrom (sd.heap.objs.size + 1) sc.names (cloFrom X.env.cells sc.names [])) fp
  have pv := hv sd (upd Hb D (dictHO D #[] 0)) sd.heap.objs.size (cellsFrom (sd.heap.objs.size + 1) sc.names (cloFrom X.env.cells sc.names [])) fp
  show codeAny _ _ (.compStart (.DictComp kx vx [⟨tg, it, ifs, 0⟩] sc pos) 0 (.ref ia) (.ref D) (compEnvC sc (cellsFrom (sd.heap.objs.size + 1) sc.names (cloFrom X.env.cells sc.names [])) sd.heap.objs.size X.env)) (compPost (model X.prog X.w) X.A X.xe use Qf (.ref D) sd.heap.objs.size) { sd with heap := pushCells (sd.heap.push { cls := .type "dict", data := .dict #[] }) sc.names }
  have nof : ∀ b ∈ fp, (upd Hb D (dictHO D #[] 0)) b = none := fun b hb => (fd b hb).1.1
  generalize hce : compEnvC sc (cellsFrom (sd.heap.objs.size + 1) sc.names (cloFrom X.env.cells sc.names [])) sd.heap.objs.size X.env = ce at Ie pg pt pk pv ⊢
  have cL : ce.locals = sd.heap.objs.size := by subst hce; rfl
  generalize hHd : upd Hb D (dictHO D #[] 0) = Hd at Id Ie pg pt pk pv w0 nof fd
  generalize hse : ({ sd with heap := pushCells (sd.heap.push { cls := .type "dict", data := .dict #[] }) sc.names } : Shared) = se at Ie ⊢
  have ste : tn 0 se.heap := T.keep _ _ _ std fun b _ o e => by rw [← hse]; exact pushCells_keeps _ _ _ _ (Heap.get?_push_of_some _ e)
  have fpk : ∀ {σ' : St} {H' : Hp} {s' : Shared}, Inv (X.blk sd Hd sc ce fp) [] σ' H' s' → (∀ b ∈ fp, H' b = none) → ∀ b ∈ fp, FpOk (X.blk sd Hd sc ce fp) [] H' b := fun {σ' H' s'} I' hn b hb =>
    ⟨hn b hb, (I'.ok.exf b hb).1, I'.ok.exfs b hb, .inl hb, fun x c e => (I'.ok.exf b hb).2 x c e, fun p hp => absurd (show p ∈ ([] : List (Addr × Obj)) ++ [] from hp) (by simp)⟩
  have loop : codeAny (model X.prog X.w) X.A (.compLoop (.DictComp kx vx [⟨tg, it, ifs, 0⟩] sc pos) 0 (.ref ia) (.ref D) ce) (compPost (model X.prog X.w) X.A X.xe use Qf (.ref D) sd.heap.objs.size) se := by
    refine compLoop_anyD (fun n s' => ∃ i H', Inv (X.blk sd Hd sc ce fp) [] (L2.wipe σ (own.map (·.2))) H' s' ∧ tn i s'.heap ∧ (∀ b ∈ fp, H' b = none) ∧ S i n H') ?_ m0 ⟨0, Hd, Ie, ste, nof, w0⟩
    rintro n sf ⟨i, Hf, If, stf, nf, wf⟩
    rcases turn i n Hf wf with ⟨stop, qq⟩ | ⟨goes, N, hN, step⟩
    · refine thnF (T.done (X.blk sd Hd sc ce fp) rfl rfl rfl calm i [] sf _ Hf (fun _ _ => False) If (fpk If nf) stf stop) fun r sg ⟨hr, Ig⟩ => ?_
      subst hr
      have Iz : Inv X pins σ Hf sg := Id.call' (ch := fp) Ig.os Ig.base Ig.hok Ig.bare fun b hb => ⟨(fd b hb).1.2.2.2.1, (fd b hb).1.2.1, (fd b hb).1.2.2.2.2.1, (fd b hb).1.2.2.2.2.2⟩
      have nC : Hf sd.heap.objs.size = none := cL ▸ (show Hf ce.locals = none from Ig.free)
      obtain ⟨m, hn, _⟩ := Ig.loc
      exact back D sd.heap.objs.size sg m Hf Iz qq (cL ▸ (show sg.heap.Ns ce.locals m from hn)) (Id.fpOk (Nat.le_refl _) nC)
    · refine thnF (T.item (X.blk sd Hd sc ce fp) rfl rfl rfl calm i [] sf _ Hf (fun _ _ => False) If (fpk If nf) stf goes) fun r sg ⟨u, hr, hg6⟩ => ?_
      subst hr
      refine thnF hg6 fun _ sh ⟨x, Hh, Ih, rh, yh, sth, nh⟩ => ?_
      refine thnF (pg.run _ sh _ Hh x u _ (Ih.pinned (fpk Ih nh) (T.obj _ _ sth)) rh (step x Hh yh)) fun _ si ⟨σ8, Hi, Ii, hw8, q8⟩ => ?_
      refine thnF (pt.run _ si σ8 Hi _ Ii q8) fun b sj ⟨Hj, Ij, qj⟩ => ?_
      have fin : ∀ {s' : Shared} {H' : Hp}, Inv (X.blk sd Hd sc ce fp) ([] ++ pinsAt fp sh.heap) σ8 H' s' → N H' → ∃ m, m < n ∧ ∃ i H', Inv (X.blk sd Hd sc ce fp) [] (L2.wipe σ (own.map (·.2))) H' s' ∧ tn i s'.heap ∧ (∀ b ∈ fp, H' b = none) ∧ S i m H' := fun {s' H'} I' nx => by
        obtain ⟨m', hm, w'⟩ := hN H' nx
        have pin : ∀ b ∈ fp, ∀ o, sh.heap.get? b = some o → s'.heap.get? b = some o ∧ H' b = none := fun b hb o e => let z := I'.pin (b, o) (List.mem_append_right _ (List.mem_append_right _ (mem_pinsAt hb e))); ⟨z.1, z.2.1⟩
        refine ⟨m', hm, i + 1, H', (I'.unpinned (pins := [])).weak (by rw [← hw8, wipe_length]) (fun j v e => by rw [← hw8] at e; exact (wipe_some e).1), T.keep _ _ _ sth fun b hb o e => (pin b hb o e).1, fun b hb => ?_, w'⟩
        obtain ⟨o, e, _⟩ := T.obj _ _ sth b hb
        exact (pin b hb o e).2
      cases b with
      | false =>
        simp only [Bool.false_eq_true, if_false] at qj ⊢
        exact fin Ij qj
      | true =>
        simp only [if_true] at qj ⊢
        refine thnF (pk.run _ sj σ8 Hj _ Ij qj) fun z sk ⟨yk, Hk, Ik, rk, qk⟩ => thnF (pv.run _ sk σ8 Hk _ Ik qk) fun z2 sl ⟨yv, Hl, Il, rl, ql⟩ => ?_
        obtain ⟨G, A, t, kvs, k, v, d, sub, hkk, hvv, hlen, nx⟩ := ql
        exact dd_dset (X := X.blk sd Hd sc ce fp) (show X.A.units + 16 < cLine by omega) Il sub d hkk rk rl hvv hlen fun es ep sm Im rd => fin Im (nx es ep rd)
  exact codeAny_compStart_dict loop (T.self X.A 0 _ _ _ ste loop)
theorem pe_dcD (un : X.A.units + 65 < cLine) (calm : X.calm = true) (nd : X.N.Nodup) (hi : PI X tg it wi) (bo : BlkOk X.N X.env.scope sc own) (hg : Blk X sc fun Y => PG Y tg g) (ht : Blk X sc fun Y => PTs Y ifs tt) (hk : Blk X sc fun Y => PE Y kx tk) (hv : Blk X sc fun Y => PE Y vx tv)
    (fs : ∀ x, foldedSetIterable it X.env x = pure x) : PE X (.DictComp kx vx [⟨tg, it, ifs, 0⟩] sc pos) (tDcD X wi g tt tk tv (own.map (·.2))) := by
  refine ⟨fun pins s σ H Q I h => ?_⟩
  rw [arm_eval_DictComp]; refine dc_run un calm nd I hi bo hg ht hk hv fs h fun D C s' m H' I' q hn f => ⟨m, hn, fun h2 sb => ?_⟩
  obtain ⟨f0, f1, f2, f3, f4, f5⟩ := f
  exact ⟨.ref D, H', I'.turned (t' := s'.toks) (fun b o hb e => (sb.2 b hb).trans e) f0 f1 f3 f4 f5, rfl, q⟩
theorem ps_setDcD {i : Nat} {y : Str} {py spos : Pos} (un : X.A.units + 65 < cLine) (calm : X.calm = true) (nd : X.N.Nodup) (hy : X.N[i]? = some y) (hyl : X.env.scope.names.lookup y = some .local)
    (hsw : swapsWith (.DictComp kx vx [⟨tg, it, ifs, 0⟩] sc pos) (some (.Name y py)) spos.line X.env = pure true) (hi : PI X tg it wi) (bo : BlkOk X.N X.env.scope sc own) (hg : Blk X sc fun Y => PG Y tg g) (ht : Blk X sc fun Y => PTs Y ifs tt) (hk : Blk X sc fun Y => PE Y kx tk) (hv : Blk X sc fun Y => PE Y vx tv)
    (fs : ∀ x, foldedSetIterable it X.env x = pure x) : PS X (.Assign [.Name y py] (.DictComp kx vx [⟨tg, it, ifs, 0⟩] sc pos) spos) (tAsg (tDcD X wi g tt tk tv (own.map (·.2))) (gName i)) := by
  refine ⟨fun pins s σ H D I h => ?_⟩
  rw [exec_Assign_Name_used _ _ _ _ hsw]
  refine wpAny_bind (wpAny_standAt (wpAny_bind ?_))
  show wpAny _ X.A (do let _ ← comprehension (.DictComp kx vx [⟨tg, it, ifs, 0⟩] sc pos) sc X.env (firstIterPos [⟨tg, it, ifs, 0⟩] pos) newDict false (eval it X.env) (some (assign (.Name y py) X.env))) _ _ s
  have h : tDcD X wi g tt tk tv (own.map (·.2)) σ H (fun x H1 => gName i x σ H1 D.nx) := h
  refine wpAny_bind (thn (dc_run (Qf := fun _ s' => SP X pins D .next s') un calm nd I hi bo hg ht hk hv fs h fun L C s' m H' I' q hn f => ?_) fun _ s' hq => wpAny_pure (wpAny_pure hq))
  show wpAny _ _ (assign (.Name y py) X.env (.ref L)) _ _ _
  refine wpAny_assign_Name (store_ok2 (v := V.ref L) I' nd hy (.inl hyl) rfl (fun s2 I2 ⟨a, sb, ha⟩ => ?_) (.inr hyl))
  obtain ⟨f0, f1, f2, f3, f4, f5⟩ := f
  have haC : C ≠ a := by
    rcases ha with z | z
    · rw [z]; exact f1
    · exact fun e => f4 y a z e.symm
  refine ⟨m, hn.sameBut sb haC, fun h3 sb3 => ?_⟩
  exact ⟨_, H', I2.turned (t' := s2.toks) (fun b o hb e => (sb3.2 b hb).trans e) f0 f1 f3 f4 f5, q⟩
/-- one item of a dict comprehension -/
def dcIt (Φ : Fns) (t : Bool) (key elt : E) (vs : List Nat) (acc : List (NestedKey × Val)) (s : Sta) : Res (List (NestedKey × Val)) := (ev Φ key s).bind fun k s => (ev Φ elt s).bind fun x s => match keyOf t k.1 with
  | some k => if acc.length < sizeLine then .ok (dPut acc k x.1) ⟨wipeS s.ρ vs, s.w⟩ else .bad
  | none => .bad
def dcompF (Φ : Fns) (t : Bool) (key elt : E) (tg : Tg) (cond : Option Ts) (vs : List Nat) : Val → List (NestedKey × Val) → Sta → Res (List (NestedKey × Val)) := fun v acc s => match setTg tg v s.ρ with
  | none => .bad
  | some ρ => (match cond with
    | none => dcIt Φ t key elt vs acc ⟨ρ, s.w⟩
    | some c => (evT Φ c ⟨ρ, s.w⟩).bind fun b s => if b then dcIt Φ t key elt vs acc s else .ok acc ⟨wipeS s.ρ vs, s.w⟩)
theorem r_ok' {α β : Type} {a : α} {s : Sta} {f : α → Sta → Res β} : (Res.ok a s).bind f = f a s := rfl
theorem cv_dcomp {t : Bool} {key elt : E} {tg : Tg} {wk : Wk} {src : List E} {cond : Option Ts} {own : List (Str × Nat)} {Q : VK} (ht : tgIn tg (own.map (·.2)) = true) (h : tV Φ X W (.dcomp t key elt tg wk src cond own) σ H Q) :
    tDcD X (tW Φ X W wk src) (gTg X tg) (tCond Φ X cond) (tV Φ X W0 key) (tV Φ X W0 elt) (own.map (·.2)) σ H Q := by
  obtain ⟨F, G, A, τ, s, hw, hK, r, h⟩ := h
  generalize hvs : own.map (·.2) = vs at ht ⊢
  have e0 : ev Φ (.dcomp t key elt tg wk src cond own) s = ((evs Φ src s).bind fun ws s => optR (walk wk ws) s).bind fun its s1 => (noEx (foldR (dcompF Φ t key elt tg cond vs) its [] ⟨wipeS s1.ρ vs, s1.w⟩)).bind fun acc s' => .ok (.dct t acc, true) ⟨backS s1.ρ s'.ρ vs, s'.w⟩ := by
    cases cond <;> (rw [bind_assoc, ← hvs]; rfl)
  rw [e0] at h
  refine ⟨F, G, A, τ, s, hw, hK, r, (Sat.bind h).imp fun J H1 ⟨its, s1, G1, A1, _, l, ⟨r1, st⟩, h2⟩ => ?_⟩
  intro D hD lo
  let Pv : Nat → Hp → Prop := fun i H2 => ∃ (G2 : Hp) (A2 : List Addr) (s2 : Sta) (acc : List (NestedKey × Val)), Le G1 A1 G2 A2 ∧ Rel F G2 A2 ((D, .dct t acc) :: τ) s2 (L2.wipe σ vs) H2 ∧
    Sat F W σ (RV F τ σ) G2 A2 ((noEx (foldR (dcompF Φ t key elt tg cond vs) (its.drop i) acc s2)).bind fun acc s' => .ok (.dct t acc, true) ⟨backS s1.ρ s'.ρ vs, s'.w⟩) Q
  refine ⟨fun i m H2 => m = its.length - i ∧ i ≤ its.length ∧ Pv i H2, ⟨its.length, by simp, Nat.zero_le _, G1, A1, _, [], Le.refl, (r1.layT (v := .dct t []) (o := dictHO D #[] 0) hD ⟨#[], 0, rfl, rfl, List.nodup_nil, Nat.zero_le _, lo⟩).wipe vs, h2⟩, ?_⟩
  rintro i m H2 ⟨rfl, hi, G2, A2, s2, acc, l2, r2, h3⟩
  obtain ⟨go, stop⟩ := st i H2 G2 A2 _ s2 _ l2 r2
  by_cases hlt : i < its.length
  · have ev' : its[i]? = some its[i] := List.getElem?_eq_getElem hlt
    obtain ⟨g1, g2⟩ := go _ ev'
    refine .inr ⟨g1, Pv (i + 1), fun H' p => ⟨its.length - (i + 1), by omega, rfl, hlt, p⟩, fun x H' y => ?_⟩
    obtain ⟨G3, l3, r3, q3⟩ := g2 x H' y
    rw [List.drop_eq_getElem_cons hlt] at h3
    have h4 : Sat F W σ (RV F τ σ) G2 A2 (((noEx (dcompF Φ t key elt tg cond vs its[i] acc s2)).bind fun acc s => noEx (foldR (dcompF Φ t key elt tg cond vs) (its.drop (i + 1)) acc s)).bind fun acc s' => .ok (.dct t acc, true) ⟨backS s1.ρ s'.ρ vs, s'.w⟩) Q := by
      rw [← noEx_bind]; exact h3
    cases eρ : setTg tg its[i] s2.ρ with
    | none => simp only [dcompF, eρ] at h4; exact h4.elim
    | some ρ' =>
      refine ⟨F, G3, A2, _, s2, its[i], ρ', hw, hK, r3, q3, eρ, fun σ2 o2 r4 => ⟨wipe_eq (o2 vs ht), ?_⟩⟩
      have item : ∀ (s5 : Sta) (G5 : Hp) (A5 : List Addr) (H5 : Hp), Le G2 A2 G5 A5 → Rel F G5 A5 ((D, .dct t acc) :: τ) s5 σ2 H5 →
          Sat F W σ (RV F τ σ) G5 A5 (((noEx (dcIt Φ t key elt vs acc s5)).bind fun acc s => noEx (foldR (dcompF Φ t key elt tg cond vs) (its.drop (i + 1)) acc s)).bind fun acc s' => .ok (.dct t acc, true) ⟨backS s1.ρ s'.ρ vs, s'.w⟩) Q →
          tV Φ X W0 key σ2 H5 fun y H6 => tV Φ X W0 elt σ2 H6 fun z H7 => rDs X D y z H7 (Pv (i + 1)) := fun s5 G5 A5 H5 l5 r5 h5 => by
        unfold dcIt at h5
        refine ⟨F, G5, A5, _, s5, hw, hK, r5, ?_⟩
        cases ee : ev Φ key s5 with
        | bad => rw [ee] at h5; exact h5.elim
        | ex c fs s6 => rw [ee] at h5; exact h5.elim
        | ok p s6 =>
          rw [ee, r_ok'] at h5
          intro y G6 A6 H6 l6 g6
          obtain ⟨G7, l7, r7, q7⟩ := Got.fix g6
          refine ⟨F, G7, A6, _, s6, hw, hK, r7, ?_⟩
          cases e2 : ev Φ elt s6 with
          | bad => rw [e2] at h5; exact h5.elim
          | ex c fs s6 => rw [e2] at h5; exact h5.elim
          | ok q s7 =>
            rw [e2, r_ok'] at h5
            intro z G8 A8 H8 l8 g8
            obtain ⟨G9, l9, r9, q9⟩ := Got.fix g8
            obtain ⟨_, _, ⟨u, hu, es, ep, rfl, hb, hnd, hln, hlo⟩, _⟩ := r9.top
            have l59 : Le G5 A5 G9 A8 := ((l6.trans l7).trans l8).trans l9
            cases ek : keyOf t p.1 with
            | none => simp only [ek] at h5; exact h5.elim
            | some k =>
              simp only [ek] at h5
              by_cases c : acc.length < sizeLine
              · rw [if_pos c] at h5
                refine ⟨G9, A8, t, acc, k, q.1, ⟨es, ep, hu, by rw [← hw, ← hK]; exact hb, hnd, hln, hlo⟩, r9.sub, keyV (H := H8) ek (.inl (Rep.mono (l8.trans l9) _ _ q7)), by rw [← hw, ← hK]; exact q9, c, fun es' ep' rd => ?_⟩
                rw [← hw, ← hK] at rd
                refine ⟨G9, A8, _, _, ((l2.trans l5).trans l59), ?_, Sat.mono h5 l59⟩
                have := (r9.wrT (v' := .dct t (dPut acc k q.1)) (u := dictHO D es' ep') ⟨es', ep', rfl, rd, nodup_dPut hnd, by have := length_dPut (kvs := acc) (k := k) (v := q.1); omega, hlo⟩).wipe vs
                rw [wipe_eq (o2 vs ht)] at this
                exact this
              · rw [if_neg c] at h5; exact h5.elim
      cases cond with
      | none =>
        simp only [dcompF, eρ] at h4
        simp only [tCond, tYes, if_true]
        exact item _ G3 A2 H' l3 r4 (Sat.mono h4 l3)
      | some c =>
        simp only [dcompF, eρ] at h4
        refine ⟨F, G3, A2, _, ⟨ρ', s2.w⟩, hw, hK, r4, ?_⟩
        cases ec : evT Φ c ⟨ρ', s2.w⟩ with
        | bad => rw [ec] at h4; exact h4.elim
        | ex c' fs s5 => rw [ec] at h4; exact h4.elim
        | ok b s5 =>
          rw [ec] at h4
          intro b' G5 A5 H5 l5 ⟨r5, eb⟩
          subst eb
          cases b' with
          | true =>
            rw [if_pos rfl]
            exact item s5 G5 A5 H5 (l3.trans l5) r5 (Sat.mono h4 (l3.trans l5))
          | false =>
            rw [if_neg Bool.false_ne_true]
            refine ⟨G5, A5, ⟨wipeS s5.ρ vs, s5.w⟩, acc, (l2.trans l3).trans l5, ?_, Sat.mono h4 (l3.trans l5)⟩
            have := r5.wipe vs
            rw [wipe_eq (o2 vs ht)] at this
            exact this
  · have e : i = its.length := by omega
    subst e
    refine .inl ⟨stop rfl, ?_⟩
    rw [List.drop_length] at h3
    exact h3 (.ref D) G2 A2 H2 Le.refl ⟨D, rfl, r2.unwipe r1 l2⟩
end
end TL

set_option Elab.async false
set_option linter.all false
set_option maxRecDepth 100000
set_option maxHeartbeats 4000000
/-! LTRd: dict(xs) of a list of pairs. -/
namespace TL
open PySem PySem.Spec PyProof.Rows L2
theorem mergeD_len : ∀ {ps : List (Int × Val)} {acc : List (NestedKey × Val)}, (mergeD acc ps).length ≤ acc.length + ps.length
  | [], _ => Nat.le_refl _
  | p :: ps, acc => by
    have h1 := length_dPut (kvs := acc) (k := .num p.1) (v := p.2)
    have h2 := mergeD_len (ps := ps) (acc := dPut acc (.num p.1) p.2)
    show (mergeD (dPut acc (.num p.1) p.2) ps).length ≤ _
    simp only [List.length_cons]; omega
theorem mergeD_nd : ∀ {ps : List (Int × Val)} {acc : List (NestedKey × Val)}, (acc.map (·.1)).Nodup → ((mergeD acc ps).map (·.1)).Nodup
  | [], _, h => h
  | p :: ps, acc, h => mergeD_nd (ps := ps) (nodup_dPut h)
section
variable {X : Cx}
theorem reps_pairs {pins : List (Addr × Obj)} {σ : St} {H : Hp} {sh : Shared} (I : Inv X pins σ H sh) {G : Hp} {A : List Addr} (sub : ∀ a u, G a = some u → H a = some u) : ∀ {vs : List Val} {ps : List (Int × Val)} {xs : List V} {its : List Value}, pairsOf vs = some ps → Reps X.w X.K G A vs xs → Vals xs its →
    ∃ prs : List (Key × Value), prs.length = its.length ∧ vs.length = ps.length ∧ (∀ kvs acc, PK X.w X.K G A kvs acc → PK X.w X.K G A (mergeD kvs ps) (merged acc prs)) ∧
      ∀ (j : Nat) (q : Key × Value), prs[j]? = some q → ∃ (b : Addr) (u : Value), its[j]? = some (.ref b) ∧ IsTup sh.heap b #[u, q.2] ∧ keyIs q.1 u = true
  | [], ps, xs, its, e, h, rv => by
    cases e
    rw [show xs = [] from h] at rv
    cases rv
    exact ⟨[], rfl, rfl, fun _ _ h => h, fun j q e => by simp at e⟩
  | v :: vs, ps, xs, its, e, h, rv => by
    obtain ⟨i, y, rfl, ps', e1, rfl⟩ : ∃ i y, v = .tup [.int i, y] ∧ ∃ ps', pairsOf vs = some ps' ∧ ps = (i, y) :: ps' := by
      cases v with
      | tup us =>
        match us, e with
        | [.int i, y], e =>
          have e' : (pairsOf vs).map ((i, y) :: ·) = some ps := e
          obtain ⟨ps', h1, h2⟩ := Option.map_eq_some_iff.mp e'
          exact ⟨i, y, rfl, ps', h1, h2.symm⟩
      | _ => simp [pairsOf] at e
    obtain ⟨x, xs', rfl, ⟨b, zs, rfl, g1, g2⟩, h2⟩ := h
    obtain ⟨z1, zs1, rfl, hz1, z2, zs2, rfl, hz2, hz3⟩ := g2
    have e5 : z1 = .int i := hz1
    have e6 : zs2 = [] := hz3
    subst e5 e6
    cases rv with
    | cons r1 r2 =>
      rename_i u0 its'
      obtain rfl : u0 = Value.ref b := r1
      obtain ⟨prs, p1, p2, p3, p4⟩ := reps_pairs I sub e1 h2 r2
      obtain ⟨tits, trv, tt, _⟩ := I.tuple (sqT (sub _ _ g1))
      obtain ⟨ku, yu, ei, rk, ry⟩ := vals2 trv
      subst ei
      refine ⟨(Sum.inl i, yu) :: prs, by simp [p1], by simp [p2], fun kvs acc h => p3 _ _ (h.put ry hz2), fun j q e => ?_⟩
      cases j with
      | zero =>
        cases (Option.some.inj e)
        exact ⟨b, ku, rfl, tt, kV_is (P := X.prog) (w := X.w) (k := Sum.inl i) rk⟩
      | succ j =>
        obtain ⟨b', u', q1, q2, q3⟩ := p4 j q (by simpa using e)
        exact ⟨b', u', by simpa using q1, q2, q3⟩
theorem dict_pairs (hc : X.calm = true) {pins : List (Addr × Obj)} {sh : Shared} {σ0 : St} {H : Hp} {us : List Value} {F : Fr} {G : Hp} {A : List Addr} {τ : Tmp} {s : Sta} {σ : St} {x : V} {vs : List Val} {ps : List (Int × Val)} {Q : VK} (I : Inv X pins σ0 H sh) (rx : Vals [x] us) (hw : F.w = X.w) (hK : F.K = X.K) (r : Rel F G A τ s σ H) (vx : View F G A H (.lst vs) x)
    (e : pairsOf vs = some ps) (hl : ps.length ≤ sizeLine) (q : ∀ y G' A' H', Le G A G' A' → Got F τ s σ G' A' H' (.dct false (mergeD [] ps)) true y → Q y H') : wpAny (model X.prog X.w) X.A (call (.type "dict") us) (EP X pins σ0 Q) X.xe sh := by
  obtain ⟨w, K, H0, G0, A0, l0⟩ := F
  dsimp only at hw hK
  subst hw hK
  obtain ⟨a, xs, rfl, h1, h2⟩ := vx.lst r
  rw [Vals.ref1 rx]
  obtain ⟨its, rv, ⟨o, n, ho, hcl, hdd, hdat⟩, hz⟩ := I.list (sqL h1)
  obtain ⟨prs, p1, p2, p3, p4⟩ := reps_pairs I r.sub e h2 rv
  have hlen : prs.length ≤ sizeLine := by rw [p1, ← rv.length, h2.length, p2]; exact hl
  refine call_dict_pairs (prs := prs) (I.ok.hd hc) ho hcl hdd hdat (by simp [p1]) hlen (fun j q' e => ?_) fun h' tk hd' k => ?_
  · obtain ⟨b, u, e1, e2, e3⟩ := p4 j q' e
    exact ⟨b, u, by simpa using e1, e2, e3⟩
  · obtain ⟨es, ep, eo, rd⟩ := DAt.ofInt (p3 [] [] .nil) hd'
    have hp : H sh.heap.objs.size = none := I.hok.fresh (Nat.le_refl _)
    refine ⟨.ref sh.heap.objs.size, upd H sh.heap.objs.size (dictHO sh.heap.objs.size es ep), I.laid (t' := tk) k (Nat.le_refl _) ⟨eo, ⟨_, eo⟩, fun h1 h2 p k => k _ p⟩, rfl, ?_⟩
    exact q _ G A _ Le.refl ⟨_, rfl, r.layT hp ⟨es, ep, rfl, rd, mergeD_nd List.nodup_nil, Nat.le_trans mergeD_len (by rw [List.length_nil, Nat.zero_add]; exact hl), dict_lo I⟩⟩
theorem co_dictP (hc : X.calm = true) : CallR X (.type "dict") (rC1 X .dictP) := by
  intro pins sh σ0 H xs us Q I rx h
  obtain ⟨x, rfl, F, G, A, τ, s, σ, v, v', fr, hw, hK, r, vx, e, q⟩ := h
  cases v <;> try (exact absurd (show (none : Option (Val × Bool)) = some _ from e) nofun)
  rename_i vs
  have e' : ((pairsOf vs).bind fun ps => if ps.length ≤ sizeLine then some (Val.dct false (mergeD [] ps), true) else none) = some (v', fr) := e
  obtain ⟨ps, e1, e2⟩ := Option.bind_eq_some_iff.mp e'
  obtain ⟨hl, rfl, rfl⟩ := pr_ite e2
  exact dict_pairs hc I rx hw hK r vx e1 hl q
end
end TL

set_option Elab.async false
set_option linter.all false
set_option maxRecDepth 100000
set_option maxHeartbeats 4000000
/-! LTWa: min and sorted of things of one kind. -/
namespace TL
open PySem PySem.Spec PyProof.Rows L2
mutual
theorem pd_inj : ∀ (n : Nat) (v u : Val) (d : PyData), pd n v = some d → pd n u = some d → v = u
  | 0, v, _, _, e, _ => by simp [pd] at e
  | n + 1, .non, u, d, e, f => by
    simp only [pd, Option.some.injEq] at e; subst e
    cases u <;> simp [pd] at f <;> rfl
  | n + 1, .bl b, u, d, e, f => by
    simp only [pd, Option.some.injEq] at e; subst e
    cases u <;> simp [pd] at f
    rw [f]
  | n + 1, .int b, u, d, e, f => by
    simp only [pd, Option.some.injEq] at e; subst e
    cases u <;> simp [pd] at f
    rw [f]
  | n + 1, .str b, u, d, e, f => by
    by_cases c : PyData.strOk b = true
    · simp only [pd, if_pos c, Option.some.injEq] at e; subst e
      cases u <;> simp [pd] at f
      rw [f.2]
    · simp [pd, c] at e
  | n + 1, .tup vs, u, d, e, f => by
    simp only [pd, Option.map_eq_some_iff] at e
    obtain ⟨ds, e1, rfl⟩ := e
    cases u <;> simp [pd] at f
    rw [pds_inj n vs _ ds e1 f]
  | n + 1, .lst vs, u, d, e, f => by
    simp only [pd, Option.map_eq_some_iff] at e
    obtain ⟨ds, e1, rfl⟩ := e
    cases u <;> simp [pd] at f
    rw [pds_inj n vs _ ds e1 f]
  | n + 1, .dct _ _, _, _, e, _ => by simp [pd] at e
  | n + 1, .ins _ _, _, _, e, _ => by simp [pd] at e
  | n + 1, .obj _, _, _, e, _ => by simp [pd] at e
  | n + 1, .fn _, _, _, e, _ => by simp [pd] at e
theorem pds_inj : ∀ (n : Nat) (vs us : List Val) (ds : List PyData), pds n vs = some ds → pds n us = some ds → vs = us
  | n, [], us, ds, e, f => by
    simp only [pds, Option.some.injEq] at e; subst e
    cases us with
    | nil => rfl
    | cons u us =>
      cases h1 : pd n u <;> cases h2 : pds n us <;> simp [pds, h1, h2] at f
  | n, v :: vs, us, ds, e, f => by
    cases h1 : pd n v with
    | none => simp [pds, h1] at e
    | some d =>
      cases h2 : pds n vs with
      | none => simp [pds, h1, h2] at e
      | some ds' =>
        simp only [pds, h1, h2, Option.some.injEq] at e
        subst e
        cases us with
        | nil => simp [pds] at f
        | cons u us =>
          cases h3 : pd n u with
          | none => simp [pds, h3] at f
          | some d2 =>
            cases h4 : pds n us with
            | none => simp [pds, h3, h4] at f
            | some ds2 =>
              simp only [pds, h3, h4, Option.some.injEq, List.cons.injEq] at f
              obtain ⟨rfl, rfl⟩ := f
              rw [pd_inj n v u _ h1 h3, pds_inj n vs us _ h2 h4]
end
theorem pds_at {n : Nat} : ∀ {vs : List Val} {ds : List PyData}, pds n vs = some ds → vs.length = ds.length ∧ ∀ (i : Nat) (v : Val), vs[i]? = some v → ∃ d, ds[i]? = some d ∧ pd n v = some d
  | [], ds, e => by
    simp only [pds, Option.some.injEq] at e; subst e
    exact ⟨rfl, fun i v h => by simp at h⟩
  | v :: vs, ds, e => by
    cases h1 : pd n v with
    | none => simp [pds, h1] at e
    | some d =>
      cases h2 : pds n vs with
      | none => simp [pds, h1, h2] at e
      | some ds' =>
        simp only [pds, h1, h2, Option.some.injEq] at e
        subst e
        obtain ⟨l, at_⟩ := pds_at h2
        refine ⟨by simp [l], fun i u h => ?_⟩
        cases i with
        | zero => simp at h; subst h; exact ⟨d, rfl, h1⟩
        | succ i => exact at_ i u (by simpa using h)
theorem okD_ok {ds : List PyData} (h : okD ds = true) : PySem.W.AlikeAll ds := by
  simp only [okD, Bool.and_eq_true, List.all_eq_true] at h
  refine ⟨fun x hx y hy => h.1 x hx y hy, fun x hx e => ?_⟩
  have := h.2 x hx
  subst e
  simp at this
theorem okS_ok {ds : List PyData} (h : okS ds = true) : PySem.W.Sortable ds := by
  simp only [okS, Bool.or_eq_true, List.all_eq_true] at h
  rcases h with h | h
  · refine .inl fun d hd => ?_
    have := h d hd
    split at this
    · rename_i x r; exact ⟨x, r, rfl⟩
    · cases this
  · refine .inr fun d hd => ?_
    have := h d hd
    constructor
    · rintro rfl; simp at this
    · rintro xs rfl; simp at this
theorem pick_spec : ∀ (r : List (Val × PyData)) (p : Val × PyData), pickMin p r ∈ p :: r ∧ (pickMin p r).2 = PySem.W.minD p.2 (r.map (·.2))
  | [], p => by simp [pickMin, PySem.W.minD]
  | y :: r, p => by
    obtain ⟨h1, h2⟩ := pick_spec r (if PySem.W.dataLt y.2 p.2 then y else p)
    have e : pickMin p (y :: r) = pickMin (if PySem.W.dataLt y.2 p.2 then y else p) r := rfl
    rw [e]
    constructor
    · rcases List.mem_cons.mp h1 with h | h
      · rw [h]
        split <;> simp
      · simp [h]
    · rw [h2]
      simp only [List.map_cons, PySem.W.minD, List.foldl_cons]
      congr 1
      split <;> rfl
theorem depth_mem {d : PyData} : ∀ {ds : List PyData}, d ∈ ds → d.depth ≤ PyData.depthAll ds
  | x :: ds, h => by
    simp only [PyData.depthAll]
    rcases List.mem_cons.mp h with rfl | h
    · omega
    · have := depth_mem h; omega
section
variable {X : Cx}
theorem reps_get {w : World} {K : PySem.W.Frag} {G : Hp} {A : List Addr} : ∀ {vs : List Val} {xs : List V} {i : Nat} {x : V}, Reps w K G A vs xs → xs[i]? = some x → ∃ v, vs[i]? = some v ∧ Rep w K G A v x
  | [], xs, i, x, h, e => by rw [show xs = [] from h] at e; simp at e
  | v :: vs, _, i, x, ⟨y, ys, rfl, h1, h2⟩, e => by
    cases i with
    | zero => simp at e; subst e; exact ⟨v, rfl, h1⟩
    | succ i =>
      have := reps_get (i := i) h2 (by simpa using e)
      simpa using this
theorem vals_get2 : ∀ {xs : List V} {us : List Value} {i : Nat} {u : Value}, Vals xs us → us[i]? = some u → ∃ x, xs[i]? = some x ∧ RelV x u
  | _, _, i, u, .nil, e => by simp at e
  | _, _, i, u, .cons (a := x) h1 h2, e => by
    cases i with
    | zero => simp at e; subst e; exact ⟨x, rfl, h1⟩
    | succ i =>
      have := vals_get2 (i := i) h2 (by simpa using e)
      simpa using this
theorem co_minT (hc : X.calm = true) (hu : X.A.units + 66 < cLine) : CallR X (.builtin "min") (rC1 X .minT) := by
  intro pins sh σ0 H xs us Q I rx h
  obtain ⟨x, rfl, ⟨w, K, H0, G0, A0, l0⟩, G, A, τ, s, σ, v, v', fr, hw, hK, r, vx, e, q⟩ := h
  dsimp only at hw hK
  subst hw hK
  cases v <;> try (exact absurd (show (none : Option (Val × Bool)) = some _ from e) nofun)
  rename_i vs
  obtain ⟨m, e1, e2⟩ := pr_map e
  obtain ⟨rfl, rfl⟩ := Prod.mk.inj e2
  obtain ⟨ds, e3, e4⟩ := Option.bind_eq_some_iff.mp e1
  obtain ⟨hl, hat⟩ := pds_at e3
  cases vs with
  | nil => cases ds with
    | nil => cases e4
    | cons d ds => cases hl
  | cons v vs =>
    cases ds with
    | nil => cases hl
    | cons d ds =>
      have e5 : (if okD (d :: ds) = true then some (pickMin (v, d) (vs.zip ds)).1 else none) = some m := e4
      by_cases hok : okD (d :: ds) = true
      · rw [if_pos hok] at e5
        cases e5
        obtain ⟨a, zs, rfl, h1, h2⟩ := vx.lst r
        rw [Vals.ref1 rx]
        obtain ⟨its, rv, hL, hz⟩ := I.list (sqL h1)
        have dp := reps_dp r.sub DEP _ _ _ e3 h2
        obtain ⟨as, ra⟩ := Dp.readsAll I _ _ _ dp rv
        have hdep := (pds_lay _ _ _ e3).2
        refine PySem.W.min_list_data (I.ok.hd hc) hL.isList (x := d) (xs := ds) (as := as) ra (okD_ok hok) (by have : PyData.depthAll (d :: ds) ≤ 8 := hdep; omega) fun i u h' tk bs hi hr hk => ?_
        obtain ⟨z, hz1, hz2⟩ := vals_get2 rv (by simpa using hi)
        obtain ⟨y, hy1, hy2⟩ := reps_get h2 hz1
        obtain ⟨dy, hd1, hd2⟩ := hat i y hy1
        obtain ⟨as2, r2⟩ := Dp.reads I dy z u (rep_dp r.sub DEP y dy z hd2 hy2) hz2
        have r3 := PyProof.Rows.Reads.keeps hk r2
        have ed : dy = PySem.W.minD d ds := PySem.SeqAt.Reads.unique _ _ _ _ _ (pd_lay _ _ _ hd2).1 r3 hr
        obtain ⟨p1, p2⟩ := pick_spec (vs.zip ds) (v, d)
        have hzip : ((v, d) :: vs.zip ds).map (·.2) = d :: ds := by
          simp only [List.map_cons, List.cons.injEq, true_and]
          rw [List.map_snd_zip]
          simp at hl; omega
        have p3 : (pickMin (v, d) (vs.zip ds)).2 = PySem.W.minD d ds := by
          rw [p2]
          simp only [List.map_cons, List.cons.injEq, true_and] at hzip
          rw [hzip]
        obtain ⟨j, hj1, hj2⟩ := List.mem_iff_getElem.mp p1
        have hjv : (v :: vs)[j]? = some (pickMin (v, d) (vs.zip ds)).1 ∧ (d :: ds)[j]? = some (pickMin (v, d) (vs.zip ds)).2 := by
          have e6 : ((v :: vs).zip (d :: ds))[j]? = some (pickMin (v, d) (vs.zip ds)) := by
            rw [List.zip_cons_cons, List.getElem?_eq_getElem hj1, hj2]
          rw [List.getElem?_zip_eq_some] at e6
          exact e6
        obtain ⟨dj, hdj1, hdj2⟩ := hat j _ hjv.1
        rw [hjv.2] at hdj1
        cases hdj1
        rw [p3, ← ed] at hdj2
        have ev := pd_inj _ _ _ _ hdj2 hd2
        refine ⟨z, H, I.kept hk, hz2, out_v r (by rw [ev]; exact hy2) q⟩
      · rw [if_neg hok] at e5; cases e5
/-- what a value stands for -/
theorem each_vals {w : World} {K : PySem.W.Frag} {G : Hp} {A : List Addr} : ∀ {out : List Value} {bs : List (Val × PyData)}, PySem.W.EachIs (fun u b => ∃ z, RelV z u ∧ Rep w K G A b.1 z) out bs → ∃ zs, Vals zs out ∧ Reps w K G A (bs.map (·.1)) zs
  | _, _, .nil => ⟨[], .nil, rfl⟩
  | _, _, .cons ⟨z, h1, h2⟩ t => by
    obtain ⟨zs, v, p⟩ := each_vals t
    exact ⟨z :: zs, .cons h1 v, _, _, rfl, h2, p⟩
theorem each_of {w : World} {K : PySem.W.Frag} {G : Hp} {A : List Addr} : ∀ {its : List Value} {zs : List V} {vs : List Val} {ds : List PyData}, Vals zs its → Reps w K G A vs zs → vs.length = ds.length → PySem.W.EachIs (fun u b => ∃ z, RelV z u ∧ Rep w K G A b.1 z) its (vs.zip ds)
  | _, _, [], ds, v, p, l => by
    cases ds with
    | nil =>
      rw [show _ = [] from p] at v
      cases v
      exact .nil
    | cons d ds => cases l
  | _, _, x :: vs, ds, v, p, l => by
    obtain ⟨y, ys, rfl, p1, p2⟩ := p
    cases ds with
    | nil => cases l
    | cons d ds =>
      cases v with
      | cons h1 h2 =>
        have t := each_of (ds := ds) h2 p2 (by simpa using l)
        exact .cons ⟨y, h1, p1⟩ t
theorem co_sortD (hu : X.A.units + 66 < cLine) : CallR X (.builtin "sorted") (rC1 X .sortD) := by
  intro pins sh σ0 H xs us Q I rx h
  obtain ⟨x, rfl, ⟨w, K, H0, G0, A0, l0⟩, G, A, τ, s, σ, v, v', fr, hw, hK, r, vx, e, q⟩ := h
  dsimp only at hw hK
  subst hw hK
  cases v <;> try (exact absurd (show (none : Option (Val × Bool)) = some _ from e) nofun)
  rename_i vs
  obtain ⟨m, e1, e2⟩ := pr_map e
  obtain ⟨rfl, rfl⟩ := Prod.mk.inj e2
  obtain ⟨ds, e3, e4⟩ := Option.bind_eq_some_iff.mp e1
  obtain ⟨hl, hat⟩ := pds_at e3
  by_cases hok : okD ds = true ∧ okS ds = true ∧ vs.length ≤ sizeLine
  · rw [if_pos hok] at e4
    cases e4
    obtain ⟨hd, hs, hz⟩ := hok
    obtain ⟨a, zs, rfl, h1, h2⟩ := vx.lst r
    rw [Vals.ref1 rx]
    obtain ⟨its, rv, hL, _⟩ := I.list (sqL h1)
    have dp := reps_dp r.sub DEP _ _ _ e3 h2
    obtain ⟨as, ra⟩ := Dp.readsAll I _ _ _ dp rv
    have hdep := (pds_lay _ _ _ e3).2
    have em : (vs.zip ds).map Prod.snd = ds := List.map_snd_zip (by omega)
    have ra' : ReadsAll sh.heap its ((vs.zip ds).map Prod.snd) as := by rw [em]; exact ra
    refine PySem.W.sorted_data (β := Val × PyData) (enc := Prod.snd) (R := fun u b => ∃ z, RelV z u ∧ Rep X.w X.K G A b.1 z) (bs := vs.zip ds) hL.isList (each_of rv h2 hl) (PySem.W.readsAll_each Prod.snd ra') (by rw [em]; exact (okD_ok hd).1) (by rw [em]; exact okS_ok hs) (by rw [List.length_zip]; omega)
      (fun b hb => ?_) fun out ho1 ho2 => ?_
    · have : b.2 ∈ ds := (List.of_mem_zip (a := b.1) (b := b.2) hb).2
      have h8 := depth_mem this
      have : PyData.depthAll ds ≤ 8 := hdep
      omega
    · obtain ⟨ep, he'⟩ := PyProof.Rows.sortedAll_at sh.heap its out.toArray
      obtain ⟨zs', hv', hp'⟩ := each_vals ho2
      have hlen : zs'.length ≤ sizeLine := by
        have := hp'.length
        rw [List.length_map, List.length_mergeSort, List.length_zip] at this
        omega
      exact ⟨.ref _, upd H (sh.heap.objs.size + 1) (.lst zs'), I.laid (t' := sh.toks) (fun _ _ => PyProof.Rows.sortedAll_old) (Nat.le_succ _) ⟨hlen, out, ep, hv', he'⟩, rfl, out_l r hp' (I.hok.fresh (Nat.le_succ _)) q⟩
  · rw [if_neg hok] at e4; cases e4
end
end TL

set_option Elab.async false
set_option linter.all false
set_option maxRecDepth 100000
set_option maxHeartbeats 4000000
/-! LTW: the texts of operations. -/
namespace TL
open PySem PySem.Spec PyProof.Rows L2
theorem and3 {a b c : Bool} (h : (a && (b && c)) = true) : a = true ∧ b = true ∧ c = true := by simpa using h
theorem truP {e : Expr} {env : Env} (h : plainT e = true) : ∀ whole, isTrue e env whole = (do let v ← whole; standAt e.pos; holding [v] (truthy v)) := by
  intro whole
  cases e <;> first
    | rfl
    | exact absurd h Bool.false_ne_true
    | (rename_i op _ _; cases op <;> first | rfl | exact absurd h Bool.false_ne_true)
theorem foldP {e : Expr} {env : Env} (h : noSet e = true) : ∀ x, foldedSetIterable e env x = pure x := by
  intro x
  cases e <;> first | rfl | exact absurd h Bool.false_ne_true
section
variable {T : Tab} {Φ : Fns} {P : Pl} {X : Cx} {W : WX}
theorem Ctx.un (C : Ctx T Φ P X W) : X.A.units + 65 < cLine := by have := C.room.un; omega
theorem ok_facts {x : Str} (h : okB x = true) : (x == ("__debug__" : Str)) = false ∧ (x == ("__classdict__" : Str)) = false ∧ x ≠ ("__name__" : Str) := by
  simp only [okB, Bool.and_eq_true, Bool.not_eq_true', decide_eq_false_iff_not] at h
  exact ⟨h.1, h.2.1, h.2.2⟩
theorem gl_facts (C : Ctx T Φ P X W) {x : Str} (h : glB P x = true) : Gl X x ∧ (x == ("__debug__" : Str)) = false := by
  simp only [glB, Bool.and_eq_true, kindB, decide_eq_true_eq] at h
  refine ⟨?_, (ok_facts h.2).1⟩
  show X.env.scope.names.lookup x = some .globalImplicit
  rw [C.eS]; exact h.1
theorem fr_facts (C : Ctx T Φ P X W) {x : Str} (h : frB T P x = true) : Gl X x ∧ X.mg x = none := by
  simp only [frB, Bool.and_eq_true, List.contains_iff_mem] at h
  exact ⟨(gl_facts C h.1).1, C.tab.free x h.2⟩
theorem rd_facts (C : Ctx T Φ P X W) {i : Nat} {x : Str} (h : rdB P i x = true) : X.N[i]? = some x ∧ Vis X.env.scope x ∧ (x == ("__debug__" : Str)) = false ∧ (x == ("__classdict__" : Str)) = false := by
  simp only [rdB, Bool.and_eq_true, decide_eq_true_eq, visB, Bool.or_eq_true, kindB] at h
  obtain ⟨h1, h2, h3⟩ := h
  have o := ok_facts h3
  rw [C.eN, C.eS]
  exact ⟨h1, h2, o.1, o.2.1⟩
theorem bcall_some {f : String} {e : Expr} {args : List Expr} (h : bcall T P f e = some args) : ∃ p pos, e = .Call (.Name (f : Str) p) args [] pos ∧ frB T P (f : Str) = true ∧ args.all plainA = true := by
  unfold bcall at h
  split at h
  · rename_i x p as pos
    by_cases c : x = (f : Str) ∧ frB T P x = true ∧ as.all plainA = true
    · rw [if_pos c] at h
      cases h
      obtain ⟨rfl, c2, c3⟩ := c
      exact ⟨p, pos, rfl, c2, c3⟩
    · rw [if_neg c] at h; cases h
  · cases h
theorem one_some {o : Option (List Expr)} {x : Expr} (h : one o = some x) : o = some [x] := by
  unfold one at h
  split at h
  · cases h; rfl
  · cases h
theorem two_some {o : Option (List Expr)} {x y : Expr} (h : two o = some (x, y)) : o = some [x, y] := by
  unfold two at h
  split at h
  · cases h; rfl
  · cases h
theorem one_b (C : Ctx T Φ P X W) {f : String} {e x : Expr} (h : one (bcall T P f e) = some x) : ∃ p pos, e = .Call (.Name (f : Str) p) [x] [] pos ∧ Gl X (f : Str) ∧ X.mg (f : Str) = none ∧ plainA x = true := by
  obtain ⟨p, pos, e1, h1, h2⟩ := bcall_some (one_some h)
  have := fr_facts C h1
  exact ⟨p, pos, e1, this.1, this.2, by simpa using h2⟩
theorem two_b (C : Ctx T Φ P X W) {f : String} {e x y : Expr} (h : two (bcall T P f e) = some (x, y)) : ∃ p pos, e = .Call (.Name (f : Str) p) [x, y] [] pos ∧ Gl X (f : Str) ∧ X.mg (f : Str) = none ∧ plainA x = true ∧ plainA y = true := by
  obtain ⟨p, pos, e1, h1, h2⟩ := bcall_some (two_some h)
  have := fr_facts C h1
  exact ⟨p, pos, e1, this.1, this.2, by simpa using h2⟩
theorem pa1 {x : Expr} {t : TE} (h : plainA x = true) (hx : PE X x t) : PA X [x] (tCons t tNil) := pa_cons hx pa_nil (starP h)
theorem pa2 {x y : Expr} {t u : TE} (h : plainA x = true) (h' : plainA y = true) (hx : PE X x t) (hy : PE X y u) : PA X [x, y] (tCons t (tCons u tNil)) := pa_cons hx (pa1 h' hy) (starP h)
theorem isB_some {ty : String} {e a : Expr} (h : isB T P ty e = some a) : ∃ t p, two (bcall T P "isinstance" e) = some (a, .Name t p) ∧ t = (ty : Str) ∧ frB T P t = true := by
  unfold isB at h
  split at h
  · rename_i a' t p e1
    by_cases c : t = (ty : Str) ∧ frB T P t = true
    · rw [if_pos c] at h; cases h; exact ⟨t, p, e1, c.1, c.2⟩
    · rw [if_neg c] at h; cases h
  · cases h
theorem tAny_mono {α β : Type} {R : Fr → Tmp → St → α → Sta → Hp → List Addr → Hp → β → Prop} {f : Sta → Res α} {σ : St} {H : Hp} {Q Q' : β → Hp → Prop} (h : tAny X W R f σ H Q) (q : ∀ y H, Q y H → Q' y H) : tAny X W R f σ H Q' := by
  obtain ⟨F, G, A, τ, s, hw, hK, r, h⟩ := h
  exact ⟨F, G, A, τ, s, hw, hK, r, Sat.imp h q⟩
/-- what a one-place operation's text does -/
def PR1 (Φ : Fns) (X : Cx) (W : WX) (f : P1) (a : E) (ex : Expr) : Prop := PE X ex (fun σ H Q => tP Φ X W a σ H fun y H1 => rP1 X f y H1 Q)
theorem by_fn {f : P1} {n : String} {a : E} {x : Expr} {p pos : Pos} (hc : CallR X (.builtin n) (rC1 X f)) (hv : bootBuiltins (n : Str) = some (.builtin n)) (hn : (n : Str) ≠ "__name__") (hd : ((n : Str) == ("__debug__" : Str)) = false) (hg : Gl X (n : Str)) (hm : X.mg (n : Str) = none) (h : plainA x = true) (hx : PE X x (tP Φ X W a)) :
    PR1 Φ X W f a (.Call (.Name (n : Str) p) [x] [] pos) :=
  PE.conv (pe_callB hc hg hm hv (pa1 h hx) hn hd (starP h) rfl) fun σ H Q q => tAny_mono q fun y H1 q => ⟨y, rfl, q⟩
theorem by_ty {f : P1} {n : String} {a : E} {x : Expr} {p pos : Pos} (hc : CallR X (.type n) (rC1 X f)) (hv : bootBuiltins (n : Str) = some (.type n)) (hn : (n : Str) ≠ "__name__") (hd : ((n : Str) == ("__debug__" : Str)) = false) (hg : Gl X (n : Str)) (hm : X.mg (n : Str) = none) (h : plainA x = true) (hx : PE X x (tP Φ X W a)) :
    PR1 Φ X W f a (.Call (.Name (n : Str) p) [x] [] pos) :=
  PE.conv (pe_callTy hc hg hm hv (pa1 h hx) hn hd (starP h) rfl) fun σ H Q q => tAny_mono q fun y H1 q => ⟨y, rfl, q⟩
/-- sorted, len of a set -/
theorem by_set {f : P1} {n : String} {a : E} {x : Expr} {p pos p2 pos2 : Pos} {r : List V → Hp → VK → Prop} {rs : List V → Hp → VK → Prop} (hs : CallR X (.type "set") rs) (hc : CallR X (.builtin n) r) (hv : bootBuiltins (n : Str) = some (.builtin n)) (hn : (n : Str) ≠ "__name__") (hd : ((n : Str) == ("__debug__" : Str)) = false)
    (hg : Gl X (n : Str)) (hm : X.mg (n : Str) = none) (hg2 : Gl X "set") (hm2 : X.mg "set" = none) (h : plainA x = true) (hx : PE X x (tP Φ X W a)) (k : ∀ y H Q, rP1 X f y H Q → rs [y] H fun z H1 => r [z] H1 Q) :
    PR1 Φ X W f a (.Call (.Name (n : Str) p) [.Call (.Name "set" p2) [x] [] pos2] [] pos) :=
  PE.conv (pe_callB hc hg hm hv (pa1 rfl (pe_callTy hs hg2 hm2 PyProof.Rows.boot_set (pa1 h hx) (by decide) (by decide) (starP h) rfl)) hn hd rfl rfl) fun σ H Q q => tAny_mono q fun y H1 q => k y H1 Q q
theorem by_isi {f : P1} {n : String} {a : E} {x : Expr} {p p2 pos : Pos} (hf : tyP f = some n) (hv : bootBuiltins (n : Str) = some (.type n)) (hn : (n : Str) ≠ "__name__") (hd : ((n : Str) == ("__debug__" : Str)) = false) (hg : Gl X "isinstance") (hm : X.mg "isinstance" = none) (hg2 : Gl X (n : Str)) (hm2 : X.mg (n : Str) = none) (h : plainA x = true) (hx : PE X x (tP Φ X W a)) :
    PR1 Φ X W f a (.Call (.Name "isinstance" p) [x, .Name (n : Str) p2] [] pos) :=
  PE.conv (pe_callB (co_isi hf) hg hm PyProof.Rows.boot_isinstance (pa2 h rfl hx (pe_bltn (v := .ty n) hg2 hm2 hv rfl hn hd)) (by decide) (by decide) (starP h) rfl) fun σ H Q q => tAny_mono q fun y H1 q => ⟨y, rfl, q⟩
theorem reps_range {w : World} {K : PySem.W.Frag} {G : Hp} {A : List Addr} : ∀ (n : Nat) (lo : Int), Reps w K G A (intRange lo n) ((List.range n).map fun i => V.int (lo + (i : Nat)))
  | 0, _ => rfl
  | n + 1, lo => by
    rw [List.range_succ_eq_map, List.map_cons, List.map_map]
    refine ⟨_, _, rfl, by show V.int (lo + ((0 : Nat) : Int)) = V.int lo; rw [show lo + ((0 : Nat) : Int) = lo by omega], ?_⟩
    have := reps_range (w := w) (K := K) (G := G) (A := A) n (lo + 1)
    have e : ((fun i : Nat => V.int (lo + (i : Nat))) ∘ Nat.succ) = fun i : Nat => V.int (lo + 1 + (i : Nat)) := by
      funext i
      show V.int (lo + ((i + 1 : Nat) : Int)) = _
      congr 1; omega
    rw [e]; exact this
theorem lrange_rd {x : V} {H : Hp} {Q : VK} (h : rP1 X .lrange x H Q) : ∃ n, x = .int n ∧ RgOk 0 n ∧ ∀ q, H q = none → Q (.ref q) (upd H q (.lst (rgV 0 n))) := by
  obtain ⟨F, G, A, τ, s, σ, v, v', fr, hw, hK, r, vx, e, q⟩ := h
  cases v <;> try (exact absurd (show (none : Option (Val × Bool)) = some _ from e) nofun)
  obtain ⟨hc, rfl, rfl⟩ := pr_ite e
  rename_i n
  have hc := smallI_iff.mp hc
  refine ⟨n, vx.int, ⟨by omega, by omega, by omega, by omega, by omega⟩, fun p hp => out_l r ?_ hp q⟩
  have z := reps_range (w := F.w) (K := F.K) (G := G) (A := A) n.toNat 0
  unfold rgV
  rw [show n - 0 = n by omega]
  exact z
/-- len of a set of rows -/
def rLenT (X : Cx) : List V → Hp → VK → Prop := fun vs H Q => ∃ (a : Addr) (L : List (Addr × List Int)), vs = [V.ref a] ∧ H a = some (SetTO X.prog X.w a L) ∧ (∀ p ∈ L, SqT X.K H p.1 (p.2.map V.int)) ∧ ((L.map (·.2)).Nodup → Q (.int L.length) H)
theorem cr_lenT : CallR X (.builtin "len") (rLenT X) := by
  intro pins s σ H vs us Q I r h
  obtain ⟨a, L, rfl, ha, hk, q⟩ := h
  have R0 : SetT0 X.prog X.w s.heap a L := (I.hok a _ ha).1
  obtain ⟨es, ep, t, R⟩ := R0.full fun p hp => I.isT (hk p hp)
  obtain ⟨o, ho, hex, hd⟩ := R.ob
  have hsz := R.size
  have hfew := R.few
  rw [Vals.ref1 r]
  exact call_len_set ho hex hd R.fits (by omega) ⟨.int L.length, H, I.tok _, ⟨_, by rw [hsz]⟩, q R.nd⟩
theorem lsetT_rd {x : V} {H : Hp} {Q : VK} (h : rP1 X .lsetT x H Q) : rSetOfT X.K X.prog X.w [x] H fun y H1 => rLenT X [y] H1 Q := by
  obtain ⟨⟨w, K, H0, G0, A0, l0⟩, G, A, τ, s, σ, v, v', fr, hw, hK, r, vx, e, q⟩ := h
  dsimp only at hw hK
  subst hw hK
  cases v <;> try (exact absurd (show (none : Option (Val × Bool)) = some _ from e) nofun)
  rename_i vs
  have e' : ((rowsOf vs).bind fun rs => if rowsB rs = true then some (Val.int (tusort rs).length, false) else none) = some (v', fr) := e
  obtain ⟨rs, e1, e2⟩ := Option.bind_eq_some_iff.mp e'
  obtain ⟨hc, rfl, rfl⟩ := pr_ite e2
  obtain ⟨h64, d, hd, ok⟩ := rowsB_ok hc
  obtain ⟨a, xs, rfl, h1, h2⟩ := vx.lst r
  rw [rowsOf_some e1] at h2
  obtain ⟨ks, rfl, ek, hk⟩ := reps_rows h2
  refine ⟨a, ks, rfl, sqL h1, fun p hp => sqT (r.sub _ _ (hk p hp)), by rw [← List.length_map (f := fun p : Addr × List Int => p.2), ek]; exact h64, fun p L hp hL1 hL2 => ?_⟩
  have rp := r.lay (o := SetTO X.prog X.w p L) hp
  refine ⟨p, L, rfl, upd_same, fun z hz => sqT (rp.sub _ _ (hk z (hL1 z hz))), fun nd => ?_⟩
  have nd2 : (tusort rs).Nodup := List.Pairwise.imp (fun {a b} h e => by subst e; exact absurd h (Int.lt_irrefl _)) (tusort_sorted ok)
  have mem : ∀ z, z ∈ L.map (·.2) ↔ z ∈ tusort rs := fun z => by
    rw [tusort_mem ok, ← ek]
    constructor
    · intro hz
      obtain ⟨y, hy, rfl⟩ := List.mem_map.mp hz
      exact List.mem_map.mpr ⟨y, hL1 y hy, rfl⟩
    · intro hz
      obtain ⟨y, hy, rfl⟩ := List.mem_map.mp hz
      exact hL2 y hy
  have el : L.length = (tusort rs).length := by
    rw [← List.length_map (f := fun p : Addr × List Int => p.2)]
    exact ((List.perm_ext_iff_of_nodup nd nd2).mpr mem).length_eq
  rw [el]
  exact out_i rp q
theorem by_none {f : P1} {op : CmpOp} {a : E} {x : Expr} {k : Nat} {p pos : Pos} (ho : OpR X (compareOp op) (fun x y H Q => y = .non ∧ rP1 X f x H Q)) (hx : PE X x (tP Φ X W a)) : PR1 Φ X W f a (.Compare x [op] [.Constant .none k p] pos) :=
  PE.conv (pe_cmpR ho hx pe_non rfl) fun σ H Q q => tAny_mono q fun y H1 q => ⟨rfl, q⟩
/-! ### xs[::-1]; isinstance of two types -/
theorem revX_some {e x : Expr} (h : revX e = some x) : ∃ k p1 p2 p3 pos, e = .Subscript x (.Slice none none (some (.UnaryOp .USub (.Constant (.int 1) k p1) p2)) p3) pos := by
  unfold revX at h
  split at h
  · rename_i e' i k p1 p2 p3 pos
    by_cases c : i = 1
    · rw [if_pos c] at h; cases h; subst c; exact ⟨k, p1, p2, p3, pos, rfl⟩
    · rw [if_neg c] at h; cases h
  · cases h
theorem rev_rd {x : V} {H : Hp} {Q : VK} (h : rP1 X .rev x H Q) : ∃ a xs, x = .ref a ∧ SqL X.K H a xs ∧ ∀ p, H p = none → Q (.ref p) (upd H p (.lst xs.reverse)) := by
  obtain ⟨F, G, A, τ, s, σ, v, v', fr, hw, hK, r, vx, e, q⟩ := h
  cases v <;> try (exact absurd (show (none : Option (Val × Bool)) = some _ from e) nofun)
  obtain ⟨rfl, rfl⟩ := pr_inj e
  obtain ⟨a, xs, rfl, h1, h2⟩ := vx.lst r
  exact ⟨a, xs, rfl, sqL h1, fun p hp => out_l r h2.reverse hp q⟩
theorem isLT_some {e a : Expr} (h : isLTB T P e = some a) : ∃ t u p1 p2 k p3, two (bcall T P "isinstance" e) = some (a, .Tuple [.Name t p1, .Name u p2] k p3) ∧ t = ("list" : Str) ∧ u = ("tuple" : Str) ∧ frB T P t = true ∧ frB T P u = true := by
  unfold isLTB at h
  split at h
  · rename_i a' t p1 u p2 k p3 e1
    by_cases c : (t = ("list" : Str) ∧ u = ("tuple" : Str)) ∧ frB T P t = true ∧ frB T P u = true
    · rw [if_pos c] at h; cases h; exact ⟨t, u, p1, p2, k, p3, e1, c.1.1, c.1.2, c.2.1, c.2.2⟩
    · rw [if_neg c] at h; cases h
  · cases h
theorem kit_vs {pins : List (Addr × Obj)} {σ0 : St} {H : Hp} {sh : Shared} {F : Fr} {G : Hp} {A : List Addr} {τ : Tmp} {s : Sta} {σ : St} {v : Val} {x : V} {u : Value} {b0 : Bool} (I : Inv X pins σ0 H sh) (r : Rel F G A τ s σ H) (vx : View F G A H v x) (rx : RelV x u)
    (e0 : prim1.isOf "list" v = some b0) : ∃ (t : Value) (P : Heap → Prop), PySem.W.KitX X.K u t P ∧ P sh.heap ∧ u ≠ .builtin "__main__.__loader__#opaque" ∧ ∀ T ∈ ["int", "bool", "tuple", "list", "str"], ∀ b, prim1.isOf T v = some b → PySem.W.kitOne X.K t (.type T) = some b := by
  have go : ∀ {t : String}, TyX X.K H x (.type t) → (∀ T ∈ ["int", "bool", "tuple", "list", "str"], ∀ b, prim1.isOf T v = some b → kitB t T = some b) → ∃ (t : Value) (P : Heap → Prop), PySem.W.KitX X.K u t P ∧ P sh.heap ∧ u ≠ .builtin "__main__.__loader__#opaque" ∧ ∀ T ∈ ["int", "bool", "tuple", "list", "str"], ∀ b, prim1.isOf T v = some b → PySem.W.kitOne X.K t (.type T) = some b := fun {t} ty k => by
    obtain ⟨P, z1, z2, z3⟩ := kit_of I rx ty
    exact ⟨_, P, z1, z2, z3, fun T hT b e => kit_ty (k T hT b e)⟩
  cases v with
  | non => rw [vx.non] at go; exact go (.base .non) fun T hT b e => by cases e; exact (kit_all T hT).1
  | bl c => rw [vx.bl] at go; exact go (.base (.bl c)) fun T hT b e => by cases e; exact (kit_all T hT).2.1
  | int i => rw [vx.int] at go; exact go (.base (.int i)) fun T hT b e => by cases e; exact (kit_all T hT).2.2.1
  | str z => rw [vx.str] at go; exact go (.base (.str z)) fun T hT b e => by cases e; exact (kit_all T hT).2.2.2.1
  | tup vs =>
    obtain ⟨a, xs, rfl, h1, h2⟩ := vx.tup r
    exact go (.base (.tup h1)) fun T hT b e => by cases e; exact (kit_all T hT).2.2.2.2.1
  | lst vs =>
    obtain ⟨a, xs, rfl, h1, h2⟩ := vx.lst r
    rcases h1 with h1 | ⟨o, h1⟩
    · exact go (.base (.lst h1)) fun T hT b e => by cases e; exact (kit_all T hT).2.2.2.2.2.1
    · exact go (.base (.frz h1)) fun T hT b e => by cases e; exact (kit_all T hT).2.2.2.2.2.1
  | dct t kvs =>
    obtain ⟨a, rfl, es, ep, eo, _⟩ := vx.dat r
    cases (show u = Value.ref a from rx)
    exact ⟨_, _, PySem.W.kitx_dict, ⟨_, dict_obj I.hok eo, rfl⟩, (fun z => nomatch z), fun T hT b e => by cases e; exact kit_ty (kit_all T hT).2.2.2.2.2.2⟩
  | _ => exact absurd (show (none : Option Bool) = some _ from e0) nofun
/-- isinstance of x and of a tuple of two types, new -/
def rLT (X : Cx) : List V → Hp → VK → Prop := fun vs H Q => ∃ x b, vs = [x, V.ref b] ∧ H b = some (.tup [.ty "list", .ty "tuple"]) ∧ rP1 X .isLT x H Q
theorem co_LT : CallR X (.builtin "isinstance") (rLT X) := by
  intro pins sh σ0 H xs us Q I rx h
  obtain ⟨x, b, rfl, hb, F, G, A, τ, s, σ, v, v', fr, hw, hK, r, vx, e, q⟩ := h
  obtain ⟨u1, u2, rfl, r1, r2⟩ := vals2 rx
  cases (show u2 = Value.ref b from r2)
  have e' : ((prim1.isOf "list" v).bind fun b => (prim1.isOf "tuple" v).map fun c => (Val.bl (b || c), false)) = some (v', fr) := e
  obtain ⟨b1, e1, e2⟩ := Option.bind_eq_some_iff.mp e'
  obtain ⟨b2, e3, e4⟩ := Option.map_eq_some_iff.mp e2
  obtain ⟨rfl, rfl⟩ := Prod.mk.inj e4
  obtain ⟨t, P, z1, z2, z3, zz⟩ := kit_vs I r vx r1 e1
  have z4 := zz "list" (by simp) _ e1
  have y4 := zz "tuple" (by simp) _ e3
  obtain ⟨_, its, rv, o, g1, g2, n, g3⟩ := (show ObjOk X.prog X.w H sh.heap b (.tup [.ty "list", .ty "tuple"]) from I.hok b _ hb)
  obtain ⟨w1, w2, rfl, k1, k2⟩ := vals2 rv
  cases (show w1 = Value.type "list" from k1)
  cases (show w2 = Value.type "tuple" from k2)
  obtain ⟨oc, od, dt, sl⟩ := o
  simp only at g2 g3
  subst g2 g3
  refine PySem.W.kia_tup z1 I.kIn z2 g1 (b := (b1 || b2)) (kitAny_cons z4 (fun h => by subst h; exact kitAny_cons y4 (fun h => by subst h; exact kitAny_nil) (fun h => by subst h; rfl)) (fun h => by subst h; rfl)) z3 fun tk => ⟨.bl _, H, I.tok tk, rfl, out_b r q⟩
theorem p1_ok (C : Ctx T Φ P X W) {f : P1} {e x : Expr} {a : E} (h : p1X T P f e = some x) (hx : PE X x (tP Φ X W a)) : PR1 Φ X W f a e := by
  have hu := C.un
  cases f with
  | len => obtain ⟨p, pos, rfl, hg, hm, hp⟩ := one_b C h; exact by_fn co_len boot_len (by decide) (by decide) hg hm hp hx
  | sum => obtain ⟨p, pos, rfl, hg, hm, hp⟩ := one_b C h; exact by_fn (co_sum C.calm) (by decide +kernel) (by decide) (by decide) hg hm hp hx
  | list => obtain ⟨p, pos, rfl, hg, hm, hp⟩ := one_b C h; exact by_ty (co_list C.calm) (by decide +kernel) (by decide) (by decide) hg hm hp hx
  | dictP => obtain ⟨p, pos, rfl, hg, hm, hp⟩ := one_b C h; exact by_ty (co_dictP C.calm) (by decide +kernel) (by decide) (by decide) hg hm hp hx
  | tuple => obtain ⟨p, pos, rfl, hg, hm, hp⟩ := one_b C h; exact by_ty co_tuple (by decide +kernel) (by decide) (by decide) hg hm hp hx
  | sorted => obtain ⟨p, pos, rfl, hg, hm, hp⟩ := one_b C h; exact by_fn co_sorted (by decide +kernel) (by decide) (by decide) hg hm hp hx
  | sortedT => obtain ⟨p, pos, rfl, hg, hm, hp⟩ := one_b C h; exact by_fn co_sortedT (by decide +kernel) (by decide) (by decide) hg hm hp hx
  | max => obtain ⟨p, pos, rfl, hg, hm, hp⟩ := one_b C h; exact by_fn (co_max1 C.calm) (by decide +kernel) (by decide) (by decide) hg hm hp hx
  | min => obtain ⟨p, pos, rfl, hg, hm, hp⟩ := one_b C h; exact by_fn (co_min1 C.calm) (by decide +kernel) (by decide) (by decide) hg hm hp hx
  | int => obtain ⟨p, pos, rfl, hg, hm, hp⟩ := one_b C h; exact by_ty co_int (by decide +kernel) (by decide) (by decide) hg hm hp hx
  | abs => obtain ⟨p, pos, rfl, hg, hm, hp⟩ := one_b C h; exact by_fn co_abs (by decide +kernel) (by decide) (by decide) hg hm hp hx
  | str => obtain ⟨p, pos, rfl, hg, hm, hp⟩ := one_b C h; exact by_ty co_str (by decide +kernel) (by decide) (by decide) hg hm hp hx
  | sset =>
    obtain ⟨e1, h1, h2⟩ := Option.bind_eq_some_iff.mp (show ((one (bcall T P "sorted" e)).bind fun e => one (bcall T P "set" e)) = some x from h)
    obtain ⟨p, pos, rfl, hg, hm, _⟩ := one_b C h1
    obtain ⟨p2, pos2, rfl, hg2, hm2, hp⟩ := one_b C h2
    exact by_set (cr_setI C.calm) (cr_sortedSet C.calm) (by decide +kernel) (by decide) (by decide) hg hm hg2 hm2 hp hx fun y H Q => sset_rd
  | lset =>
    obtain ⟨e1, h1, h2⟩ := Option.bind_eq_some_iff.mp (show ((one (bcall T P "len" e)).bind fun e => one (bcall T P "set" e)) = some x from h)
    obtain ⟨p, pos, rfl, hg, hm, _⟩ := one_b C h1
    obtain ⟨p2, pos2, rfl, hg2, hm2, hp⟩ := one_b C h2
    exact by_set (cr_setI C.calm) cr_lenSet boot_len (by decide) (by decide) hg hm hg2 hm2 hp hx fun y H Q => lset_rd
  | ssetT =>
    obtain ⟨e1, h1, h2⟩ := Option.bind_eq_some_iff.mp (show ((one (bcall T P "sorted" e)).bind fun e => one (bcall T P "set" e)) = some x from h)
    obtain ⟨p, pos, rfl, hg, hm, _⟩ := one_b C h1
    obtain ⟨p2, pos2, rfl, hg2, hm2, hp⟩ := one_b C h2
    exact by_set (cr_setRows C.calm (by omega)) (cr_sortedT C.calm) (by decide +kernel) (by decide) (by decide) hg hm hg2 hm2 hp hx fun y H Q => ssetT_rd
  | lsetT =>
    obtain ⟨e1, h1, h2⟩ := Option.bind_eq_some_iff.mp (show ((one (bcall T P "len" e)).bind fun e => one (bcall T P "set" e)) = some x from h)
    obtain ⟨p, pos, rfl, hg, hm, _⟩ := one_b C h1
    obtain ⟨p2, pos2, rfl, hg2, hm2, hp⟩ := one_b C h2
    exact by_set (cr_setOfT C.calm (by omega)) cr_lenT boot_len (by decide) (by decide) hg hm hg2 hm2 hp hx fun y H Q => lsetT_rd
  | minT => obtain ⟨p, pos, rfl, hg, hm, hp⟩ := one_b C h; exact by_fn (co_minT C.calm (by have := C.room.un; omega)) (by decide +kernel) (by decide) (by decide) hg hm hp hx
  | sortD => obtain ⟨p, pos, rfl, hg, hm, hp⟩ := one_b C h; exact by_fn (co_sortD (by have := C.room.un; omega)) (by decide +kernel) (by decide) (by decide) hg hm hp hx
  | lrange =>
    obtain ⟨e1, h1, h2⟩ := Option.bind_eq_some_iff.mp (show ((one (bcall T P "list" e)).bind fun e => one (bcall T P "range" e)) = some x from h)
    obtain ⟨p, pos, rfl, hg, hm, _⟩ := one_b C h1
    obtain ⟨p2, pos2, rfl, hg2, hm2, hp⟩ := one_b C h2
    exact PE.conv (pe_listRg C.calm hg hm (prg_1 hg2 hm2 hx (starP hp)) rfl) fun σ H Q q => tAny_mono q fun y H1 q => lrange_rd q
  | neg =>
    cases e <;> first | (cases h; done) | skip
    rename_i op z pos
    cases op <;> first | (cases h; done) | skip
    cases h
    exact pe_un uo_neg hx
  | isInt =>
    obtain ⟨t, p2, h1, rfl, h2⟩ := isB_some (show isB T P "int" e = some x from h)
    obtain ⟨p, pos, rfl, hg, hm, hp, _⟩ := two_b C h1
    have g := fr_facts C h2
    exact by_isi rfl (by decide +kernel) (by decide) (by decide) hg hm g.1 g.2 hp hx
  | isBool =>
    obtain ⟨t, p2, h1, rfl, h2⟩ := isB_some (show isB T P "bool" e = some x from h)
    obtain ⟨p, pos, rfl, hg, hm, hp, _⟩ := two_b C h1
    have g := fr_facts C h2
    exact by_isi rfl (by decide +kernel) (by decide) (by decide) hg hm g.1 g.2 hp hx
  | isTuple =>
    obtain ⟨t, p2, h1, rfl, h2⟩ := isB_some (show isB T P "tuple" e = some x from h)
    obtain ⟨p, pos, rfl, hg, hm, hp, _⟩ := two_b C h1
    have g := fr_facts C h2
    exact by_isi rfl (by decide +kernel) (by decide) (by decide) hg hm g.1 g.2 hp hx
  | isList =>
    obtain ⟨t, p2, h1, rfl, h2⟩ := isB_some (show isB T P "list" e = some x from h)
    obtain ⟨p, pos, rfl, hg, hm, hp, _⟩ := two_b C h1
    have g := fr_facts C h2
    exact by_isi rfl (by decide +kernel) (by decide) (by decide) hg hm g.1 g.2 hp hx
  | isStr =>
    obtain ⟨t, p2, h1, rfl, h2⟩ := isB_some (show isB T P "str" e = some x from h)
    obtain ⟨p, pos, rfl, hg, hm, hp, _⟩ := two_b C h1
    have g := fr_facts C h2
    exact by_isi rfl (by decide +kernel) (by decide) (by decide) hg hm g.1 g.2 hp hx
  | rev =>
    obtain ⟨k, p1, p2, p3, pos, rfl⟩ := revX_some (show revX e = some x from h)
    exact PE.conv (pe_revL hx) fun σ H Q q => tAny_mono q fun y H1 q => rev_rd q
  | isLT =>
    obtain ⟨t, u, q1, q2, k, q3, h1, rfl, rfl, h2, h3⟩ := isLT_some (show isLTB T P e = some x from h)
    obtain ⟨p, pos, rfl, hg, hm, hp, _⟩ := two_b C h1
    have g := fr_facts C h2
    have g' := fr_facts C h3
    refine PE.conv (pe_callB co_LT hg hm PyProof.Rows.boot_isinstance (pa2 hp rfl hx (pe_tup (pa_cons (pe_bltn (v := .ty "list") g.1 g.2 (by decide +kernel) rfl (by decide) (by decide)) (pa_cons (pe_bltn (v := .ty "tuple") g'.1 g'.2 (by decide +kernel) rfl (by decide) (by decide)) pa_nil)))) (by decide) (by decide) (starP hp) rfl) fun σ H Q q => tAny_mono q fun y H1 q => ?_
    refine ⟨by show 2 ≤ sizeLine; decide, fun l hl => ⟨y, l, rfl, upd_same, ?_⟩⟩
    obtain ⟨F, G, A, τ, s, σ', v, v', fr, hw, hK, r, vx, e, q⟩ := q
    exact ⟨F, G, A, τ, s, σ', v, v', fr, hw, hK, r.lay hl, (vx.imp id fun ⟨a, u, e1, e2, e3⟩ => ⟨a, u, e1, by rw [upd_ne (ne_of_none e2 hl)]; exact e2, e3⟩), e, q⟩
  | isNone =>
    have h' : nonX true e = some x := h
    unfold nonX at h'
    split at h' <;> first | (cases h'; done) | (exact absurd ‹true = false› nofun) | skip
    cases h'
    exact by_none bo_isN hx
  | notNone =>
    have h' : nonX false e = some x := h
    unfold nonX at h'
    split at h' <;> first | (cases h'; done) | (exact absurd ‹false = true› nofun) | skip
    cases h'
    exact by_none bo_notN hx
end
end TL

set_option Elab.async false
set_option linter.all false
set_option maxRecDepth 100000
set_option maxHeartbeats 4000000
/-! LTX: the expressions, all of them. -/
namespace TL
open PySem PySem.Spec PyProof.Rows L2
theorem binX_some {o : Operator} {e x y : Expr} (h : binX o e = some (x, y)) : ∃ pos, e = .BinOp x o y pos := by
  cases e <;> try (exact absurd (show (none : Option (Expr × Expr)) = some _ from h) nofun)
  rename_i a o' b pos
  have h' : (if o' = o then some (a, b) else none) = some (x, y) := h
  by_cases c : o' = o
  · rw [if_pos c] at h'; cases h'; subst c; exact ⟨pos, rfl⟩
  · rw [if_neg c] at h'; cases h'
theorem cmpX_some {o : CmpOp} {e x y : Expr} (h : cmpX o e = some (x, y)) : (∃ pos, e = .Compare x [o] [y] pos) ∧ noSet y = true := by
  unfold cmpX at h
  split at h
  · rename_i a o' b pos
    by_cases c : o' = o ∧ noSet b = true
    · rw [if_pos c] at h; cases h; obtain ⟨rfl, c⟩ := c; exact ⟨⟨pos, rfl⟩, c⟩
    · rw [if_neg c] at h; cases h
  · cases h
theorem subX_some {e x y : Expr} (h : subX e = some (x, y)) : (∃ pos, e = .Subscript x y pos) ∧ noSlice y = true := by
  cases e <;> try (exact absurd (show (none : Option (Expr × Expr)) = some _ from h) nofun)
  rename_i a b pos
  have h' : (if noSlice b = true then some (a, b) else none) = some (x, y) := h
  by_cases c : noSlice b = true
  · rw [if_pos c] at h'; cases h'; exact ⟨⟨pos, rfl⟩, c⟩
  · rw [if_neg c] at h'; cases h'
section
variable {T : Tab} {Φ : Fns} {P : Pl} {X : Cx} {W : WX}
def PR2 (Φ : Fns) (X : Cx) (W : WX) (f : P2) (a b : E) (ex : Expr) : Prop := PE X ex (tOp (rP2 X f) (tP Φ X W a) (tP Φ X W b))
def opOf : P2 → Option CmpOp
  | .eq => some .Eq | .ne => some .NotEq | .lt => some .Lt | .le => some .LtE | .gt => some .Gt | .ge => some .GtE | .inn => some .In | .notin => some .NotIn
  | _ => none
theorem bo_cmp (C : Ctx T Φ P X W) {f : P2} {o : CmpOp} (h : opOf f = some o) : OpR X (compareOp o) (rP2 X f) := by
  have hu := C.un
  cases f <;> first | (cases h; done) | skip
  all_goals cases h
  · exact bo_eq (by omega)
  · exact bo_ne (by omega)
  · exact bo_lt hu
  · exact bo_le
  · exact bo_gt
  · exact bo_ge
  · exact bo_in hu
  · exact bo_notin hu
theorem two_fn {f : P2} {n : String} {a b : E} {x y : Expr} {p pos : Pos} (hc : CallR X (.builtin n) (rC2 X f)) (hv : bootBuiltins (n : Str) = some (.builtin n)) (hn : (n : Str) ≠ "__name__") (hd : ((n : Str) == ("__debug__" : Str)) = false) (hg : Gl X (n : Str)) (hm : X.mg (n : Str) = none)
    (h : plainA x = true) (h' : plainA y = true) (hx : PE X x (tP Φ X W a)) (hy : PE X y (tP Φ X W b)) : PR2 Φ X W f a b (.Call (.Name (n : Str) p) [x, y] [] pos) :=
  PE.conv (pe_callB hc hg hm hv (pa2 h h' hx hy) hn hd (starP h) (by rw [starP h']; rfl)) fun σ H Q q => tAny_mono q fun z H1 q => tAny_mono q fun u H2 q => ⟨z, u, rfl, q⟩
theorem p2_ok (C : Ctx T Φ P X W) {f : P2} {e x y : Expr} {a b : E} (h : p2X T P f e = some (x, y)) (hx : PE X x (tP Φ X W a)) (hy : PE X y (tP Φ X W b)) : PR2 Φ X W f a b e := by
  have hu := C.un
  have bn : ∀ {o : Operator}, binX o e = some (x, y) → OpR X (binaryOp o) (rP2 X f) → PR2 Φ X W f a b e := fun h ho => by
    obtain ⟨pos, rfl⟩ := binX_some h
    exact pe_op ho hx hy
  have cm : ∀ {o : CmpOp}, cmpX o e = some (x, y) → opOf f = some o → PR2 Φ X W f a b e := fun h ho => by
    obtain ⟨⟨pos, rfl⟩, hs⟩ := cmpX_some h
    exact pe_cmpR (bo_cmp C ho) hx hy (markP hs)
  cases f with
  | add => exact bn h bo_add
  | sub => exact bn h bo_sub
  | mul => exact bn h bo_mul
  | fdiv => exact bn h bo_fdiv
  | mod => exact bn h bo_mod
  | pow => exact bn h bo_pow
  | eq => exact cm h rfl
  | ne => exact cm h rfl
  | lt => exact cm h rfl
  | le => exact cm h rfl
  | gt => exact cm h rfl
  | ge => exact cm h rfl
  | inn => exact cm h rfl
  | notin => exact cm h rfl
  | idx =>
    obtain ⟨⟨pos, rfl⟩, hs⟩ := subX_some (show subX e = some (x, y) from h)
    exact pe_ix (bo_idx hu) hx hy (ixP hs)
  | max => obtain ⟨p, pos, rfl, hg, hm, hp, hp'⟩ := two_b C h; exact two_fn (bo_max C.calm) (by decide +kernel) (by decide) (by decide) hg hm hp hp' hx hy
  | min => obtain ⟨p, pos, rfl, hg, hm, hp, hp'⟩ := two_b C h; exact two_fn (bo_min C.calm) (by decide +kernel) (by decide) (by decide) hg hm hp hp' hx hy
theorem isCmp_op {f : P2} (h : isCmp f = true) : ∃ o, opOf f = some o ∧ ∀ (T : Tab) (P : Pl) (e : Expr), p2X T P f e = cmpX o e := by
  cases f <;> first | exact ⟨_, rfl, fun _ _ _ => rfl⟩ | exact absurd h Bool.false_ne_true
theorem c2_ok (C : Ctx T Φ P X W) {f : P2} {e x y : Expr} {a b : E} (hf : isCmp f = true) (h : p2X T P f e = some (x, y)) (hx : PE X x (tP Φ X W a)) (hy : PE X y (tP Φ X W b)) : L2.PT X e (tTest (tOp (rP2 X f) (tP Φ X W a) (tP Φ X W b))) := by
  obtain ⟨o, h1, h2⟩ := isCmp_op hf
  rw [h2] at h
  obtain ⟨⟨pos, rfl⟩, hs⟩ := cmpX_some h
  exact pt_cmpR (bo_cmp C h1) hx hy (markP hs)
/-! ### chains, new things of the world -/
theorem cv_chain {st : Bool} {a b c : E} {σ : St} {H : Hp} {Q : VK} (h : tV Φ X W (.chain st a b c) σ H Q) :
    tChain (rI0 fun i j => .bl (decide (i ≤ j))) (rI0 fun i j => .bl (if st then decide (i < j) else decide (i ≤ j))) (tV Φ X W a) (tV Φ X W b) (tV Φ X W c) σ H Q := by
  obtain ⟨F, G, A, τ, s, hw, hK, r, h⟩ := h
  refine ⟨F, G, A, τ, s, hw, hK, r, (Sat.bind (show Sat F W σ _ G A ((ev Φ a s).bind _) Q from h)).imp fun x H1 ⟨⟨v, fr⟩, s1, G1, A1, ee, l, g, h2⟩ => ?_⟩
  refine ⟨F, G1, A1, τ, s1, hw, hK, g.rel, (Sat.bind h2).imp fun y H2 ⟨⟨u, fr2⟩, s2, G2, A2, ee2, l2, g2, h3⟩ => ?_⟩
  obtain ⟨i, rfl⟩ : ∃ i, v = .int i := by
    cases v <;> first | exact ⟨_, rfl⟩ | exact h3.elim
  obtain ⟨j, rfl⟩ : ∃ j, u = .int j := by
    cases u <;> first | exact ⟨_, rfl⟩ | exact h3.elim
  obtain ⟨rfl, _⟩ := Got.int g
  obtain ⟨rfl, r2⟩ := Got.int g2
  refine ⟨i, j, rfl, rfl, decide (i ≤ j), rfl, ?_⟩
  by_cases q : i ≤ j
  · have h4 : Sat F W σ (RV F τ σ) G2 A2 ((ev Φ c s2).bind fun z s => (match z.1 with | .int k => .ok (.bl (if st then decide (j < k) else decide (j ≤ k)), false) s | _ => .bad)) Q := by
      have : Sat F W σ (RV F τ σ) G2 A2 (if i ≤ j then (ev Φ c s2).bind fun z s => (match z.1 with | .int k => .ok (.bl (if st then decide (j < k) else decide (j ≤ k)), false) s | _ => .bad) else .ok (.bl false, false) s2) Q := h3
      rw [if_pos q] at this; exact this
    rw [if_pos (by simpa using q)]
    refine ⟨F, G2, A2, τ, s2, hw, hK, r2, (Sat.bind h4).imp fun z H3 ⟨⟨k, fr3⟩, s3, G3, A3, _, l3, g3, h5⟩ => ?_⟩
    cases k <;> try (exact h5.elim)
    obtain ⟨rfl, r3⟩ := Got.int g3
    exact ⟨j, _, rfl, rfl, h5 _ G3 A3 H3 Le.refl ⟨r3, rfl⟩⟩
  · have : Sat F W σ (RV F τ σ) G2 A2 (if i ≤ j then (ev Φ c s2).bind fun z s => (match z.1 with | .int k => .ok (.bl (if st then decide (j < k) else decide (j ≤ k)), false) s | _ => .bad) else .ok (.bl false, false) s2) Q := h3
    rw [if_neg q] at this
    rw [if_neg (by simpa using q)]
    exact this _ G2 A2 H2 Le.refl ⟨r2, rfl⟩
theorem cv_tchn {st : Bool} {a b c : E} {σ : St} {H : Hp} {Q : Bool → Hp → Prop} (h : tB Φ X W (.chn st a b c) σ H Q) :
    tTest (tChain (rI0 fun i j => .bl (decide (i ≤ j))) (rI0 fun i j => .bl (if st then decide (i < j) else decide (i ≤ j))) (tV Φ X W a) (tV Φ X W b) (tV Φ X W c)) σ H Q := by
  obtain ⟨F, G, A, τ, s, hw, hK, r, h⟩ := h
  refine ⟨F, G, A, τ, s, hw, hK, r, (Sat.bind (show Sat F W σ _ G A ((ev Φ a s).bind _) Q from h)).imp fun x H1 ⟨⟨v, fr⟩, s1, G1, A1, ee, l, g, h2⟩ => ?_⟩
  refine ⟨F, G1, A1, τ, s1, hw, hK, g.rel, (Sat.bind h2).imp fun y H2 ⟨⟨u, fr2⟩, s2, G2, A2, ee2, l2, g2, h3⟩ => ?_⟩
  obtain ⟨i, rfl⟩ : ∃ i, v = .int i := by
    cases v <;> first | exact ⟨_, rfl⟩ | exact h3.elim
  obtain ⟨j, rfl⟩ : ∃ j, u = .int j := by
    cases u <;> first | exact ⟨_, rfl⟩ | exact h3.elim
  obtain ⟨rfl, _⟩ := Got.int g
  obtain ⟨rfl, r2⟩ := Got.int g2
  refine ⟨i, j, rfl, rfl, decide (i ≤ j), rfl, ?_⟩
  by_cases q : i ≤ j
  · have h4 : Sat F W σ (RB F τ σ) G2 A2 ((ev Φ c s2).bind fun z s => (match z.1 with | .int k => .ok (if st then decide (j < k) else decide (j ≤ k)) s | _ => .bad)) Q := by
      have : Sat F W σ (RB F τ σ) G2 A2 (if i ≤ j then (ev Φ c s2).bind fun z s => (match z.1 with | .int k => .ok (if st then decide (j < k) else decide (j ≤ k)) s | _ => .bad) else .ok false s2) Q := h3
      rw [if_pos q] at this; exact this
    rw [if_pos (by simpa using q)]
    refine ⟨F, G2, A2, τ, s2, hw, hK, r2, (Sat.bind h4).imp fun z H3 ⟨⟨k, fr3⟩, s3, G3, A3, _, l3, g3, h5⟩ => ?_⟩
    cases k <;> try (exact h5.elim)
    obtain ⟨rfl, r3⟩ := Got.int g3
    exact ⟨j, _, rfl, rfl, _, rfl, h5 _ G3 A3 H3 Le.refl ⟨r3, rfl⟩⟩
  · have : Sat F W σ (RB F τ σ) G2 A2 (if i ≤ j then (ev Φ c s2).bind fun z s => (match z.1 with | .int k => .ok (if st then decide (j < k) else decide (j ≤ k)) s | _ => .bad) else .ok false s2) Q := h3
    rw [if_neg q] at this
    rw [if_neg (by simpa using q)]
    exact ⟨_, rfl, this _ G2 A2 H2 Le.refl ⟨r2, rfl⟩⟩
theorem cv_nobj {e : E} {σ : St} {H : Hp} {Q : VK} (h : tV Φ X W (.nobj e) σ H Q) : tV Φ X W e σ H Q := by
  obtain ⟨F, G, A, τ, s, hw, hK, r, h⟩ := h
  refine ⟨F, G, A, τ, s, hw, hK, r, (Sat.bind (show Sat F W σ _ G A ((ev Φ e s).bind _) Q from h)).imp fun x H1 ⟨⟨v, fr⟩, s1, G1, A1, ee, l, g, h2⟩ => ?_⟩
  cases fr with
  | false => exact h2.elim
  | true =>
    obtain ⟨a, rfl, r1⟩ := g
    exact h2 _ G1 (A1 ++ [a]) H1 ⟨fun _ _ h => h, fun n b h => by rw [List.getElem?_append_left (List.getElem?_eq_some_iff.mp h).1]; exact h⟩ ⟨r1.toObj, r1.toObjRep⟩
/-! ### the block of a comprehension -/
theorem Ctx.blk (C : Ctx T Φ P X W) (sh : Shared) (H : Hp) (scope : Scope) (Ca : Addr) (cl : List (Str × Addr)) (fp : List Addr) : Ctx T Φ (P.blk scope) (X.blk sh H scope (compEnvC scope cl Ca X.env) fp) W0 where
  calm := C.calm
  nd := C.nd
  eN := C.eN
  eS := by
    show relabel scope X.env = relS scope P.sc
    rw [← C.eS]; rfl
  cells := fun x h => h
  tk := takes0
  room := C.room
  tab := C.tab
theorem soP_of (C : Ctx T Φ P X W) {e : E} {ex : Expr} (h : mE T P e ex = true) (he : PE X ex (tV Φ X W e)) : PE X ex (tP Φ X W e) := by
  by_cases c : ∃ i, e = .var i
  · obtain ⟨i, rfl⟩ := c
    cases ex <;> try (exact absurd h Bool.false_ne_true)
    rename_i x p
    obtain ⟨h1, h2, h3, h4⟩ := rd_facts C (show rdB P i x = true from h)
    exact PE.conv (pe_var h1 h2 h3 h4) fun σ H Q => cv_pkvar
  · exact PE.conv he fun σ H Q => cv_pk fun i e => c ⟨i, e⟩
end
end TL

set_option Elab.async false
set_option linter.all false
set_option maxRecDepth 100000
set_option maxHeartbeats 4000000
/-! LTXa: properties, len and == of own classes; a dict that is lent. -/
namespace TL
open PySem PySem.Spec PyProof.Rows L2
/-! ### a callee that lets nothing out -/
section
variable {Φ : Fns} {X : Cx} {W : WX} {σ : St} {H : Hp}
theorem ofFN_ok {ρ : List Slot} {r : FR} {G : Hp} {A : List Addr} {F : Fr} {τ : Tmp} {β γ : Type} {R : γ → Sta → Hp → List Addr → Hp → β → Prop} {k : Val × Bool → Sta → Res γ} {Q : β → Hp → Prop} (h : Sat F W σ R G A ((ofFN ρ r).bind k) Q) :
    ∃ v fr w, r = .ok v fr w ∧ Sat F W σ R G A (k (v, fr) ⟨ρ, w⟩) Q := by
  cases r with
  | ok v fr w => exact ⟨v, fr, w, rfl, h⟩
  | ex c fs w => exact h.elim
  | bad => exact h.elim
theorem spd_ofN {F : Fr} {G : Hp} {A : List Addr} {τ : Tmp} {s : Sta} {f : Str} {args : List Val} {xs : List V} {Q : VK} {v : Val} {fr : Bool} {w : List (Option Val)} (hw : F.w = X.w) (hK : F.K = X.K) (r : Rel F G A τ s σ H) (q : Reps F.w F.K G A args xs)
    (e : Φ f args s.w = .ok v fr w) (h : ∀ x G' A' H', Le G A G' A' → Got F τ ⟨s.ρ, w⟩ σ G' A' H' v fr x → Q x H') : SpD X.w X.K args.length (Φ f) xs H Q E0 := by
  refine ⟨F, G, A, τ, s, σ, args, hw, hK, r, rfl, by rw [← hw, ← hK]; exact q, ?_⟩
  rw [e]
  intro x G' A' H' τ' s' σ' ew l g
  have g2 := got_back r g
  rw [ew] at g2
  exact h x G' A' H' l g2
theorem ins_at {F : Fr} {G : Hp} {A : List Addr} {τ : Tmp} {s : Sta} {x : V} {v : Val} {c : Str} {fs : List (Str × Val)} (r : Rel F G A τ s σ H) (q : Rep F.w F.K G A v x) (e : rdv s (.val v) = some (.ins c fs)) : ∃ a dx gs, x = .ref a ∧ H a = some (.ins (He.ga F.K c) dx gs) ∧ RepF F.w F.K G A fs gs :=
  (view_of (p := .val v) r q e).ins r
/-! ### a property -/
theorem cv_prop {a : E} {c m k : Str} {Q : VK} (h : tV Φ X W (.prop a c m k) σ H Q) : tProp (He.ga X.K c) (SpD X.w X.K 1 (Φ k)) [] E0 (tV Φ X W a) σ H Q := by
  obtain ⟨F, G, A, τ, s, hw, hK, r, h⟩ := h
  refine ⟨F, G, A, τ, s, hw, hK, r, (Sat.bind (show Sat F W σ _ G A ((ev Φ a s).bind _) Q from h)).imp fun x H1 ⟨p, s1, G1, A1, _, l, g, h2⟩ => ?_⟩
  obtain ⟨G2, l2, r2, q2⟩ := Got.fix g
  cases e1 : rdv s1 (.val p.1) with
  | none => rw [e1] at h2; exact h2.elim
  | some u =>
    rw [e1] at h2
    cases u with
    | ins c' fs =>
      have h3 : Sat F W σ (RV F τ σ) G1 A1 (if c' = c then ofFN s1.ρ (Φ k [p.1] s1.w) else .bad) Q := h2
      by_cases ec : c' = c
      · subst ec
        rw [if_pos rfl] at h3
        obtain ⟨a1, dx, gs, rfl, ha, _⟩ := ins_at r2 q2 e1
        refine ⟨a1, dx, gs, rfl, by rw [ha, hK], ?_⟩
        have h4 : Sat F W σ (RV F τ σ) G1 A1 ((ofFN s1.ρ (Φ k [p.1] s1.w)).bind fun y s => .ok y s) Q := by
          cases e : ofFN s1.ρ (Φ k [p.1] s1.w) with
          | ok y s' => rw [e] at h3; exact h3
          | ex c fs s' => rw [e] at h3; exact h3
          | bad => rw [e] at h3; exact h3
        obtain ⟨v, fr, w, e2, h5⟩ := ofFN_ok (τ := τ) h4
        exact spd_ofN (args := [p.1]) hw hK r2 ⟨_, _, rfl, q2, rfl⟩ e2 fun x G' A' H' l' g' => h5 x G' A' H' (l2.trans l') g'
      · rw [if_neg ec] at h3; exact h3.elim
    | _ => exact h2.elim
/-! ### len of an own class -/
end
section
variable {prog : Program} {w : World} {A : Around} {E : Value → Shared → Prop} {s : Shared} {K : PySem.W.Frag} {a C f : Addr} {ox : Obj} {od : Option Obj}
theorem special_fn {name : Str} {args : List Value} {Q : Option Value → Shared → Prop} (X : K.In s.heap) (I : PySem.W.InstAt s.heap a ox C od) (hs : PySem.W.findIn K (.ref C) name = some (some (.ref f))) (hf : PySem.W.isFn K (.ref f) = true)
    (hc : wpAny (model prog w) A (call (.ref f) (.ref a :: args)) (fun v s' => Q (some v) s') E s) : wpAny (model prog w) A (callSpecial? (.ref a) name args) Q E s := by
  unfold callSpecial? specialOf
  refine wpAny_bind (wpAny_bind (I.type.here ((PySem.W.looks_findIn X hs).here ?_)))
  refine wpAny_holding ?_
  refine wpAny_bind ((PySem.W.bind_fn X _ (beq_iff_eq.mp hf)).here ?_)
  first
    | exact wpAny_bind (wpAny_mono hc (fun v s' h => wpAny_pure h) fun _ _ z => z)
    | exact wpAny_pure (wpAny_bind (wpAny_mono hc (fun v s' h => wpAny_pure h) fun _ _ z => z))
theorem len_K {Q : Value → Shared → Prop} (X : K.In s.heap) (I : PySem.W.InstAt s.heap a ox C od) (hs : PySem.W.findIn K (.ref C) "__len__" = some (some (.ref f))) (hf : PySem.W.isFn K (.ref f) = true)
    (hcall : wpAny (model prog w) A.in1 (call (.ref f) [.ref a]) (fun r s' => ∃ n u, r = .int n u ∧ 0 ≤ n ∧ n < 2 ^ 63 ∧ Q (.int n s'.toks) { s' with toks := s'.toks + 1 }) E s) :
    wpAny (model prog w) A (call (.builtin "len") [.ref a]) Q E s := by
  refine Calls.call_function_entry kind_len plain_len entry_len (args_len1 _) ?_
  unfold Builtin.«len»
  refine wpAny_bind (m := oneArg "len" _) (wpAny_pure ?_)
  refine wpAny_bind (m := callSpecial? (.ref a) (Str.ofString "__len__")) (special_fn X I hs hf (wpAny_mono hcall (fun r s' hr => ?_) fun _ _ y => y))
  obtain ⟨n, u, rfl, h0, h1, hq⟩ := hr
  refine wpAny_bind (wpAny_holding (wpAny_pure ?_))
  refine wpAny_bind (wpAny_letGo ?_)
  show wpAny _ _ (if n < 0 then _ else _) _ _ _
  rw [if_neg (by omega)]
  show wpAny _ _ (if n ≥ 2 ^ 63 then _ else _) _ _ _
  rw [if_neg (by omega)]
  exact wpAny_bind (wpAny_mkInt (wpAny_pure ⟨_, rfl, hq⟩))
end
section
variable {Φ : Fns} {X : Cx} {W : WX} {σ : St} {H : Hp}
def rLenO (C : Addr) (sp : Sp) : List V → Hp → VK → Prop := fun vs H Q => ∃ a dx fs, vs = [V.ref a] ∧ H a = some (.ins C dx fs) ∧ sp [.ref a] H (fun v H1 => ∃ n, v = .int n ∧ 0 ≤ n ∧ n < 2 ^ 63 ∧ Q (.int n) H1) E0
theorem run_in1 {CX : CXT} {k : Nat} {f : Addr} {fd : FuncData} {ps : List Str} {sp : Sp} {pins : List (Addr × Obj)} {s : Shared} {Q : VK} {us : List Value} {vs : List V} (F : FnOk X.prog X.w X.K X.mg X.base CX k f fd ps sp) (hr : Room (k + 1) X.A) (hb : Binds X.K fd ps []) (hx : Passes CX X.nox E0)
    (I : Inv X pins σ H s) (r : Vals vs us) (h : sp vs H Q E0) {E' : Value → Shared → Prop} : wpAny (model X.prog X.w) X.A.in1 (call (.ref f) us) (EP X pins σ Q) E' s := by
  have hl : (us ++ []).length = ps.length := by rw [List.append_nil, ← r.length]; exact F.len _ _ _ _ h
  refine wpAny_call (codeAny_mono (F.run X.A.in1 X.stack s H ⟨us, []⟩ us vs Q E0 hr.in1 I.env0.in1 (by have := hb s us I.kIn hl; rwa [List.append_nil] at this) r h) fun r s' hq => ?_)
  cases r with
  | error er => exact False.elim (hx pins σ H s er s' (I.wish _) hq)
  | ok fl =>
    cases fl with
    | ret u =>
      obtain ⟨v, H', I3, rv, q3⟩ := I.after hq
      exact ⟨v, H', I3, rv, q3⟩
    | next => exact False.elim hq
    | brk => exact False.elim hq
    | cont => exact False.elim hq
theorem cr_lenO {CX : CXT} {k : Nat} {C f : Addr} {fd : FuncData} {ps : List Str} {sp : Sp} (F : FnOk X.prog X.w X.K X.mg X.base CX k f fd ps sp) (hs : PySem.W.findIn X.K (.ref C) "__len__" = some (some (.ref f))) (hf : PySem.W.isFn X.K (.ref f) = true)
    (hr : Room (k + 1) X.A) (hb : Binds X.K fd ps []) (hx : Passes CX X.nox E0) : CallR X (.builtin "len") (rLenO C sp) := by
  intro pins s σ H xs us Q I r h
  obtain ⟨a, dx, fs, rfl, ha, q⟩ := h
  rw [Vals.ref1 r]
  obtain ⟨mA, J, _⟩ := ins_get I.hok ha
  obtain ⟨od, J, _⟩ := J.look
  refine len_K I.kIn J hs hf (wpAny_mono (run_in1 F hr hb hx I (us := [.ref a]) (vs := [.ref a]) (.cons rfl .nil) q) (fun r s' hq => ?_) fun _ _ z => z)
  obtain ⟨v, H', I', rv, n, rfl, h0, h1, q'⟩ := hq
  obtain ⟨t, rfl⟩ := rv
  exact ⟨n, t, rfl, h0, h1, .int n, H', I'.tok _, ⟨_, rfl⟩, q'⟩
theorem cv_lenC {a : E} {c k : Str} {Q : VK} (h : tV Φ X W (.lenC a c k) σ H Q) : tV Φ X W a σ H fun x H1 => rLenO (He.ga X.K c) (SpD X.w X.K 1 (Φ k)) [x] H1 Q := by
  obtain ⟨F, G, A, τ, s, hw, hK, r, h⟩ := h
  refine ⟨F, G, A, τ, s, hw, hK, r, (Sat.bind (show Sat F W σ _ G A ((ev Φ a s).bind _) Q from h)).imp fun x H1 ⟨p, s1, G1, A1, _, l, g, h2⟩ => ?_⟩
  obtain ⟨G2, l2, r2, q2⟩ := Got.fix g
  cases e1 : rdv s1 (.val p.1) with
  | none => rw [e1] at h2; exact h2.elim
  | some u =>
    rw [e1] at h2
    cases u with
    | ins c' fs =>
      have h3 : Sat F W σ (RV F τ σ) G1 A1 (if c' = c then (ofFN s1.ρ (Φ k [p.1] s1.w)).bind fun y s => lenR y s else .bad) Q := h2
      by_cases ec : c' = c
      · subst ec
        rw [if_pos rfl] at h3
        obtain ⟨a1, dx, gs, rfl, ha, _⟩ := ins_at r2 q2 e1
        refine ⟨a1, dx, gs, rfl, by rw [ha, hK], ?_⟩
        obtain ⟨v, fr, w, e2, h5⟩ := ofFN_ok (τ := τ) h3
        refine spd_ofN (args := [p.1]) hw hK r2 ⟨_, _, rfl, q2, rfl⟩ e2 fun x G' A' H' l' g' => ?_
        cases v with
        | int n =>
          have h6 : Sat F W σ (RV F τ σ) G1 A1 (if smallI n = true ∧ 0 ≤ n then .ok (.int n, false) ⟨s1.ρ, w⟩ else .bad) Q := h5
          by_cases c : smallI n = true ∧ 0 ≤ n
          · rw [if_pos c] at h6
            obtain ⟨hx, r'⟩ := Got.int g'
            have := smallI_iff.mp c.1
            exact ⟨n, hx, c.2, by omega, h6 _ G' A' H' (l2.trans l') ⟨r', rfl⟩⟩
          · rw [if_neg c] at h6; exact h6.elim
        | _ => exact h5.elim
      · rw [if_neg ec] at h3; exact h3.elim
    | _ => exact h2.elim
/-! ### == of an own class -/
def rEqO (C : Addr) (sp : Sp) : R2 := fun x y H Q => ∃ a dx fs b, x = V.ref a ∧ H a = some (.ins C dx fs) ∧ y = V.ref b ∧ ((∃ dy gs, H b = some (.ins C dy gs)) ∨ ∃ ys, H b = some (.tup ys)) ∧ sp [.ref a, .ref b] H (fun v H1 => ∃ t, v = .bl t ∧ Q (.bl t) H1) E0
theorem op_eqO {CX : CXT} {k : Nat} {C f : Addr} {fd : FuncData} {ps : List Str} {sp : Sp} (F : FnOk X.prog X.w X.K X.mg X.base CX k f fd ps sp) (hs : PySem.W.findIn X.K (.ref C) "__eq__" = some (some (.ref f))) (hf : PySem.W.isFn X.K (.ref f) = true)
    (hn : PySem.W.notFirst X.K C (.type "tuple") = true) (hr : Room (k + 1) X.A) (hb : Binds X.K fd ps []) (hx : Passes CX X E0) : OpR X (compareOp .Eq) (rEqO C sp) := by
  intro pins s σ H x y v u Q I rx ry h
  obtain ⟨a, dx, fs, b, rfl, ha, rfl, hy, q⟩ := h
  cases rx
  cases ry
  show wpAny (model X.prog X.w) X.A (richCompare .Eq (.ref a) (.ref b)) (EP X pins σ Q) X.xe s
  obtain ⟨mA, J, _⟩ := ins_get I.hok ha
  obtain ⟨od, J, _⟩ := J.look
  obtain ⟨m, hF⟩ := I.fr
  have go : ∀ {tb : Value}, PySem.W.Looks (model X.prog X.w) s.heap (typeOf (.ref b)) tb → PySem.W.notFirst X.K C tb = true → wpAny (model X.prog X.w) X.A (richCompare .Eq (.ref a) (.ref b)) (EP X pins σ Q) X.xe s := fun {tb} hb' hn' => by
    refine PySem.W.cmp_K (op := .Eq) (tb := tb) hr.units0 hF I.ok.mod.kin J hb' hn' hs hf ?_
    refine wpAny_mono (run_fn F (hr.mono (Nat.le_succ k)) hb .nil hx I (us := [.ref a, .ref b]) (vs := [.ref a, .ref b]) (.cons rfl (.cons rfl .nil)) q) (fun r s' hq => ?_) fun _ _ z => z
    obtain ⟨z, H', I', rz, t, rfl, q'⟩ := hq
    cases rz
    exact ⟨.bl t, H', I', rfl, q'⟩
  rcases hy with ⟨dy, gs, hy⟩ | ⟨ys, hy⟩
  · obtain ⟨mB, J', _⟩ := ins_get I.hok hy
    obtain ⟨od', J', _⟩ := J'.look
    exact go J'.type (by simp [PySem.W.notFirst])
  · obtain ⟨_, its, rv, o, h1, h2, n, h3⟩ := (show ObjOk X.prog X.w H s.heap b (.tup ys) from I.hok b _ hy)
    refine go (tb := .type "tuple") (fun A' Q' E' s' k' q' => ?_) hn
    exact wpAny_typeOf_ref (k' _ _ h1) (by rw [h2]; exact q')
theorem cv_eqC {a b : E} {c k : Str} {Q : VK} (h : tV Φ X W (.eqC a b c k) σ H Q) : tOp (rEqO (He.ga X.K c) (SpD X.w X.K 2 (Φ k))) (tV Φ X W a) (tV Φ X W b) σ H Q := by
  obtain ⟨F, G, A, τ, s, hw, hK, r, h⟩ := h
  refine ⟨F, G, A, τ, s, hw, hK, r, (Sat.bind (show Sat F W σ _ G A ((ev Φ a s).bind _) Q from h)).imp fun x H1 ⟨p, s1, G1, A1, _, l, g, h2⟩ => ?_⟩
  obtain ⟨G2, l2, r2, q2⟩ := Got.fix g
  refine ⟨F, G2, A1, τ, s1, hw, hK, r2, (Sat.bind (Sat.mono h2 l2)).imp fun y H2 ⟨p2, s2, G3, A3, _, l3, g3, h3⟩ => ?_⟩
  obtain ⟨G4, l4, r4, q4⟩ := Got.fix g3
  have q2' := Rep.mono (l3.trans l4) _ _ q2
  have h4 : Sat F W σ (RV F τ σ) G3 A3 (if eqOk c p.1 p2.1 = true then (ofFN s2.ρ (Φ k [p.1, p2.1] s2.w)).bind fun z s => boolR z s else .bad) Q := h3
  by_cases hc : eqOk c p.1 p2.1 = true
  · rw [if_pos hc] at h4
    obtain ⟨v, fr, w, e2, h5⟩ := ofFN_ok (τ := τ) h4
    have sp : SpD X.w X.K 2 (Φ k) [x, y] H2 (fun v H1 => ∃ t, v = .bl t ∧ Q (.bl t) H1) E0 := by
      refine spd_ofN (args := [p.1, p2.1]) hw hK r4 ⟨_, _, rfl, q2', _, _, rfl, q4, rfl⟩ e2 fun x G' A' H' l' g' => ?_
      cases v with
      | bl t =>
        obtain ⟨hx, r'⟩ := Got.bl g'
        exact ⟨t, hx, h5 _ G' A' H' (l4.trans l') ⟨r', rfl⟩⟩
      | _ => exact h5.elim
    obtain ⟨v1, f1⟩ := p
    obtain ⟨v2, f2⟩ := p2
    cases v1 with
    | ins d fs =>
      obtain ⟨a1, dx, gs, rfl, ha, _⟩ := q2'
      cases v2 with
      | tup ys =>
        have ed : d = c := of_decide_eq_true hc
        subst ed
        obtain ⟨b1, zs, rfl, hb, _⟩ := q4
        exact ⟨a1, dx, gs, b1, rfl, by rw [r4.sub _ _ ha, hK], rfl, .inr ⟨zs, r4.sub _ _ hb⟩, sp⟩
      | ins e fs2 =>
        have : (decide (d = c) && decide (e = c)) = true := hc
        simp only [Bool.and_eq_true, decide_eq_true_eq] at this
        obtain ⟨rfl, rfl⟩ := this
        obtain ⟨b1, dy, gs2, rfl, hb, _⟩ := q4
        exact ⟨a1, dx, gs, b1, rfl, by rw [r4.sub _ _ ha, hK], rfl, .inl ⟨dy, gs2, by rw [r4.sub _ _ hb, hK]⟩, sp⟩
      | _ => exact absurd hc Bool.false_ne_true
    | _ => exact absurd hc (by cases v2 <;> exact Bool.false_ne_true)
  · rw [if_neg hc] at h4; exact h4.elim
theorem cv_teqC {a b : E} {c k : Str} {Q : Bool → Hp → Prop} (h : tB Φ X W (.eqC a b c k) σ H Q) : tTest (tOp (rEqO (He.ga X.K c) (SpD X.w X.K 2 (Φ k))) (tV Φ X W a) (tV Φ X W b)) σ H Q := by
  obtain ⟨F, G, A, τ, s, hw, hK, r, h⟩ := h
  refine cv_eqC (Φ := Φ) (W := W) (a := a) (b := b) ⟨F, G, A, τ, s, hw, hK, r, ?_⟩
  have h0 : Sat F W σ (RB F τ σ) G A ((ev Φ a s).bind fun x s => (ev Φ b s).bind fun y s => if eqOk c x.1 y.1 = true then (ofFN s.ρ (Φ k [x.1, y.1] s.w)).bind fun z s => (match z.1 with
    | .bl b => .ok b s
    | _ => .bad) else .bad) Q := h
  show Sat F W σ (RV F τ σ) G A ((ev Φ a s).bind fun x s => (ev Φ b s).bind fun y s => if eqOk c x.1 y.1 = true then (ofFN s.ρ (Φ k [x.1, y.1] s.w)).bind fun z s => boolR z s else .bad) _
  cases ea : ev Φ a s with
  | ok x s1 =>
    rw [ea] at h0
    have h1 : Sat F W σ (RB F τ σ) G A ((ev Φ b s1).bind fun y s => if eqOk c x.1 y.1 = true then (ofFN s.ρ (Φ k [x.1, y.1] s.w)).bind fun z s => (match z.1 with | .bl b => .ok b s | _ => .bad) else .bad) Q := h0
    show Sat F W σ (RV F τ σ) G A ((ev Φ b s1).bind fun y s => if eqOk c x.1 y.1 = true then (ofFN s.ρ (Φ k [x.1, y.1] s.w)).bind fun z s => boolR z s else .bad) _
    cases eb : ev Φ b s1 with
    | ok y s2 =>
      rw [eb] at h1
      have h2 : Sat F W σ (RB F τ σ) G A (if eqOk c x.1 y.1 = true then (ofFN s2.ρ (Φ k [x.1, y.1] s2.w)).bind fun z s => (match z.1 with | .bl b => .ok b s | _ => .bad) else .bad) Q := h1
      show Sat F W σ (RV F τ σ) G A (if eqOk c x.1 y.1 = true then (ofFN s2.ρ (Φ k [x.1, y.1] s2.w)).bind fun z s => boolR z s else .bad) _
      by_cases hc : eqOk c x.1 y.1 = true
      · rw [if_pos hc] at h2 ⊢
        obtain ⟨v, fr, w, e2, h5⟩ := ofFN_ok (τ := τ) h2
        rw [e2]
        cases v with
        | bl t => exact fun z G' A' H' l' g' => ⟨t, g'.2, h5 t G' A' H' l' ⟨g'.1, rfl⟩⟩
        | _ => exact h5.elim
      · rw [if_neg hc] at h2; exact h2.elim
    | ex c fs s2 => rw [eb] at h1; exact h1
    | bad => rw [eb] at h1; exact h1.elim
  | ex c fs s1 => rw [ea] at h0; exact h0
  | bad => rw [ea] at h0; exact h0.elim
end
end TL
/-! ### a dict that is lent -/
namespace TL
open PySem PySem.Spec PyProof.Rows L2
/-- without a -/
def cutH (G : Hp) (a : Addr) : Hp := fun b => if b = a then none else G b
theorem cutH_self {G : Hp} {a : Addr} : cutH G a a = none := if_pos rfl
theorem cutH_ne {G : Hp} {a b : Addr} (h : b ≠ a) : cutH G a b = G b := if_neg h
section
variable {w : World} {K : PySem.W.Frag} {G : Hp} {A : List Addr} {a : Addr} {es : Array DictEntry} {ep : Nat}
theorem rd_cut (h : G a = some (dictHO a es ep)) {b : Addr} {xs : List V} (q : Rd G b (.lst xs)) : Rd (cutH G a) b (.lst xs) := by
  have ne : b ≠ a := fun e => by
    subst e
    rcases q with q | ⟨o, q⟩
    · rw [h] at q; cases q
    · rw [h] at q; cases q
  rcases q with q | ⟨o, q⟩
  · exact .inl (by rw [cutH_ne ne]; exact q)
  · exact .inr ⟨o, by rw [cutH_ne ne]; exact q⟩
mutual
theorem Rep.cut (h : G a = some (dictHO a es ep)) : ∀ (v : Val) (x : V), noD v = true → Rep w K G A v x → Rep w K (cutH G a) A v x
  | .non, _, _, q => q
  | .bl _, _, _, q => q
  | .int _, _, _, q => q
  | .str _, _, _, q => q
  | .tup vs, x, n, q => by
    obtain ⟨b, xs, e, h1, h2⟩ := q
    have ne : b ≠ a := fun e => by subst e; rw [h] at h1; cases h1
    exact ⟨b, xs, e, by rw [cutH_ne ne]; exact h1, Reps.cut h vs xs n h2⟩
  | .lst vs, x, n, q => by
    obtain ⟨b, u, e, h1, xs, e2, h2⟩ := q
    subst e2
    exact ⟨b, _, e, rd_cut h h1, xs, rfl, Reps.cut h vs xs n h2⟩
  | .dct t kvs, x, n, q => absurd n Bool.false_ne_true
  | .ins c fs, x, n, q => absurd n Bool.false_ne_true
  | .obj n, x, _, q => q
  | .fn f, x, _, q => q
theorem Reps.cut (h : G a = some (dictHO a es ep)) : ∀ (vs : List Val) (xs : List V), noDs vs = true → Reps w K G A vs xs → Reps w K (cutH G a) A vs xs
  | [], _, _, q => q
  | v :: vs, _, n, q => by
    obtain ⟨n1, n2⟩ := Bool.and_eq_true_iff.mp (show (noD v && noDs vs) = true from n)
    obtain ⟨y, ys, e, h1, h2⟩ := q
    exact ⟨y, ys, e, Rep.cut h v y n1 h1, Reps.cut h vs ys n2 h2⟩
end
end
section
variable {F : Fr} {G G' : Hp} {A A' : List Addr} {τ τ' : Tmp} {s s' : Sta} {σ : St} {H H' : Hp} {i : Nat} {a : Addr} {t : Bool} {kvs : List (NestedKey × Val)} {es : Array DictEntry} {ep : Nat}
/-- the frame of the lending -/
abbrev Fr.len (F : Fr) (G : Hp) (A : List Addr) (H : Hp) (a : Addr) (u : HO) : Fr := ⟨F.w, F.K, H, upd G a u, A, fun _ => false⟩
theorem Rel.lend (r : Rel F G A τ s σ H) (hi : s.ρ[i]? = some (.own (.dct t kvs))) (ha : σ[i]? = some (some (V.ref a))) (hu : H a = some (dictHO a es ep)) (hG : G a = none) (hb : Body F.w F.K G A (.dct t kvs) (dictHO a es ep) a) :
    Rel (F.len G A H a (dictHO a es ep)) (upd G a (dictHO a es ep)) A [] ⟨(s.ρ.map unown).set i (.fz (.dct t kvs)), s.w.map fun _ => none⟩ σ H := by
  have l : Le G A (upd G a (dictHO a es ep)) A := Le.upd hG
  have iρ : i < s.ρ.length := (List.getElem?_eq_some_iff.mp hi).1
  have slots : ∀ (j : Nat) (b : Slot), ((s.ρ.map unown).set i (.fz (.dct t kvs)))[j]? = some b → (j = i ∧ b = .fz (.dct t kvs)) ∨ b = .e ∨ ∃ v, b = .fz v ∧ s.ρ[j]? = some (.fz v) := fun j b e => by
    by_cases h : j = i
    · subst h
      rw [List.getElem?_set_self (by simpa using iρ)] at e
      cases e; exact .inl ⟨rfl, rfl⟩
    · rw [List.getElem?_set_ne (Ne.symm h), List.getElem?_map] at e
      cases hj : s.ρ[j]? with
      | none => rw [hj] at e; cases e
      | some b' =>
        rw [hj] at e
        cases b' with
        | e => cases e; exact .inr (.inl rfl)
        | fz v => cases e; exact .inr (.inr ⟨v, rfl, rfl⟩)
        | own v => cases e; exact .inr (.inl rfl)
  have noc : ∀ c b z, cellAt ⟨(s.ρ.map unown).set i (.fz (.dct t kvs)), s.w.map fun _ => none⟩ [] σ A c ≠ some (b, z) := fun c b z e => by
    cases c with
    | slot j =>
      have e' : slotC ((s.ρ.map unown).set i (.fz (.dct t kvs))) σ j = some (b, z) := e
      unfold slotC at e'
      split at e'
      · rename_i v _ h _
        rcases slots _ _ h with ⟨_, q⟩ | q | ⟨_, q, _⟩ <;> cases q
      · cases e'
    | tmp j => exact absurd (show ([] : Tmp)[j]? = some (b, z) from e) (by simp)
    | obj j =>
      have e' : objC (s.w.map fun _ => none) A j = some (b, z) := e
      unfold objC at e'
      split at e'
      · rename_i h _
        rw [List.getElem?_map] at h
        cases hj : s.w[j]? <;> rw [hj] at h <;> cases h
      · cases e'
  refine ⟨Ext.refl, fun b u e => ?_, by simp [r.len], by simp [r.wlen], fun j b e => ?_, fun c b z e => absurd e (noc c b z), fun c c' b z z' e => absurd e (noc c b z), fun c b z e => absurd e (noc c b z), fun j v _ e => ?_⟩
  · by_cases h : b = a
    · subst h; rw [upd_same] at e; cases e; exact hu
    · rw [upd_ne h] at e; exact r.sub b u e
  · rcases slots j b e with ⟨rfl, rfl⟩ | rfl | ⟨v, rfl, hj⟩
    · exact ⟨_, ha, (hb.mono l).rep upd_same⟩
    · trivial
    · exact (r.slot j _ hj).mono l
  · have e' : (s.w.map fun _ => (none : Option Val))[j]? = some (some v) := e
    rw [List.getElem?_map] at e'
    cases hj : s.w[j]? <;> rw [hj] at e' <;> cases e'
/-- behind the lending -/
theorem Rel.unlend (r : Rel F G A τ s σ H) (hi : s.ρ[i]? = some (.own (.dct t kvs))) (ha : σ[i]? = some (some (V.ref a))) (hu : H a = some (dictHO a es ep)) (hG : G a = none)
    (r' : Rel (F.len G A H a (dictHO a es ep)) G' A' τ' s' σ H') (hl : s'.w.length = s.w.length) : A' = A ∧ G' a = some (dictHO a es ep) ∧ Le G A (cutH G' a) A ∧ Rel F (cutH G' a) A τ s σ H' := by
  have eA : A' = A := by
    have l1 : A'.length = A.length := by rw [← r'.wlen, hl, r.wlen]
    apply List.ext_getElem?
    intro n
    by_cases h : n < A.length
    · rw [List.getElem?_eq_getElem h]; exact r'.ext.le.a n _ (List.getElem?_eq_getElem h)
    · rw [List.getElem?_eq_none (by omega), List.getElem?_eq_none (by omega)]
  subst eA
  have ga : G' a = some (dictHO a es ep) := r'.ext.le.g a _ upd_same
  have e0 : cellAt s τ σ A' (.slot i) = some (a, .dct t kvs) := by
    show slotC s.ρ σ i = _
    unfold slotC
    rw [hi, ha]
  have h0 : F.H0 a = none := r.new _ _ _ e0 fun j q => by cases q
  have l : Le G A' (cutH G' a) A' := ⟨fun b u e => by
    have ne : b ≠ a := fun q => by subst q; rw [hG] at e; cases e
    rw [cutH_ne ne]
    exact r'.ext.le.g b u (by show upd G a _ b = _; rw [upd_ne ne]; exact e), fun _ _ h => h⟩
  have old : ∀ b, cutH G' a b ≠ none → G b ≠ none ∨ H b = none := fun b h => by
    by_cases e : b = a
    · subst e; exact absurd cutH_self h
    · rw [cutH_ne e] at h
      rcases r'.ext.new b h with z | z
      · exact .inl (by have z' : upd G a (dictHO a es ep) b ≠ none := z; rw [upd_ne e] at z'; exact z')
      · exact .inr z
  refine ⟨rfl, ga, l, ⟨⟨r.ext.le.trans l, fun b h => ?_, fun b u q1 q2 q3 => ?_, fun b h => r'.ext.dom b (r.ext.dom b h), r.ext.fresh⟩, fun b u e => ?_, r.len, r.wlen, fun j b e => (r.slot j b e).mono l, fun c b v e => ?_, r.inj, r.new, r.old⟩⟩
  · rcases old b h with z | z
    · exact r.ext.new b z
    · exact .inr (r.free0 z)
  · have q := r.ext.keep b u q1 q2 q3
    have ne : b ≠ a := fun e => by subst e; rw [h0] at q1; cases q1
    have g : G b = none := by
      cases e : G b with
      | none => rfl
      | some o =>
        rcases r.ext.new b (by rw [e]; simp) with z | z
        · exact absurd q2 z
        · rw [z] at q1; cases q1
    exact r'.ext.keep b u q (by show upd G a _ b = none; rw [upd_ne ne]; exact g) fun j hj => absurd hj Bool.false_ne_true
  · by_cases q : b = a
    · subst q; rw [cutH_self] at e; cases e
    · rw [cutH_ne q] at e; exact r'.sub b u e
  · obtain ⟨h1, u, h2, h3⟩ := r.cell c b v e
    by_cases q : b = a
    · subst q
      rw [hu] at h2; cases h2
      exact ⟨cutH_self, _, r'.sub _ _ ga, h3.mono l⟩
    · have hk := r'.ext.keep b u h2 (by show upd G a _ b = none; rw [upd_ne q]; exact h1) fun j hj => absurd hj Bool.false_ne_true
      refine ⟨?_, u, hk, h3.mono l⟩
      cases z : cutH G' a b with
      | none => rfl
      | some o =>
        rcases old b (by rw [z]; simp) with y | y
        · exact absurd h1 y
        · rw [y] at h2; cases h2
end
section
variable {Φ : Fns} {X : Cx} {W : WX} {σ : St} {H : Hp}
theorem noD_ok {v : Val} (h : noD v = true) {F : Fr} {G : Hp} {A : List Addr} {a p : Addr} {u : HO} {es : Array DictEntry} {ep : Nat} (hg : G a = some (dictHO a es ep)) (hb : Body F.w F.K G A v u p) : Body F.w F.K (cutH G a) A v u p := by
  cases v with
  | lst vs => obtain ⟨xs, e, q⟩ := hb; exact ⟨xs, e, Reps.cut hg _ _ h q⟩
  | dct t kvs => exact absurd h Bool.false_ne_true
  | ins c fs => exact absurd h Bool.false_ne_true
  | _ => exact hb.elim
theorem cv_lend {i : Nat} {e : E} {Q : VK} (h : tV Φ X W (.lend i e) σ H Q) : tV Φ X W e σ H Q := by
  obtain ⟨F, G, A, τ, s, hw, hK, r, h⟩ := h
  have h0 : Sat F W σ (RV F τ σ) G A (match s.ρ[i]? with
    | some (.own (.dct t kvs)) => (noEx (ev Φ e ⟨(s.ρ.map unown).set i (.fz (.dct t kvs)), s.w.map fun _ => none⟩)).bind fun x s' => if noD x.1 = true ∧ s'.w.length = s.w.length then .ok x s else .bad
    | _ => .bad) Q := h
  cases hi : s.ρ[i]? with
  | none => rw [hi] at h0; exact h0.elim
  | some b =>
    rw [hi] at h0
    cases b with
    | e => exact h0.elim
    | fz v => exact h0.elim
    | own v =>
      cases v with
      | dct t kvs =>
        obtain ⟨a, ha⟩ := r.slot i _ hi
        have e0 : cellAt s τ σ A (.slot i) = some (a, .dct t kvs) := by
          show slotC s.ρ σ i = _
          unfold slotC
          rw [hi, ha]
        obtain ⟨hG, u, hu, hb⟩ := r.cell _ _ _ e0
        have hb0 := hb
        obtain ⟨es, ep, rfl, _⟩ := hb0
        have r1 := r.lend hi ha hu hG hb
        refine ⟨F.len G A H a (dictHO a es ep), _, A, [], _, hw, hK, r1, ?_⟩
        have h1 : Sat F W σ (RV F τ σ) G A ((noEx (ev Φ e ⟨(s.ρ.map unown).set i (.fz (.dct t kvs)), s.w.map fun _ => none⟩)).bind fun x s' => if noD x.1 = true ∧ s'.w.length = s.w.length then .ok x s else .bad) Q := h0
        cases ee : ev Φ e ⟨(s.ρ.map unown).set i (.fz (.dct t kvs)), s.w.map fun _ => none⟩ with
        | bad => rw [ee] at h1; exact h1.elim
        | ex c fs s2 => rw [ee] at h1; exact h1.elim
        | ok p s2 =>
          rw [ee] at h1
          have h2 : Sat F W σ (RV F τ σ) G A (if noD p.1 = true ∧ s2.w.length = s.w.length then .ok p s else .bad) Q := h1
          by_cases c : noD p.1 = true ∧ s2.w.length = s.w.length
          · rw [if_pos c] at h2
            intro y G' A' H' l' g
            obtain ⟨v, fr⟩ := p
            cases fr with
            | false =>
              obtain ⟨g1, g2⟩ := g
              obtain ⟨rfl, ga, l, rb⟩ := r.unlend hi ha hu hG g1 c.2
              exact h2 y _ A' H' l ⟨rb, Rep.cut ga v y c.1 g2⟩
            | true =>
              obtain ⟨q, rfl, g1⟩ := g
              obtain ⟨rfl, ga, l, rb⟩ := r.unlend hi ha hu hG g1 c.2
              obtain ⟨k1, k2, ⟨u2, k3, k4⟩, _⟩ := g1.top
              have k2' : H q = none := k2
              refine h2 _ _ A' H' l ⟨q, rfl, rb.push ?_ (r.free0 k2') k3 (noD_ok (F := F) c.1 ga k4) fun c v' z => ?_⟩
              · unfold cutH; split
                · rfl
                · exact k1
              · obtain ⟨_, u3, z2, _⟩ := r.cell c q v' z
                rw [k2'] at z2; cases z2
          · rw [if_neg c] at h2; exact h2.elim
      | _ => exact h0.elim
end
end TL

set_option Elab.async false
set_option linter.all false
set_option maxRecDepth 100000
set_option maxHeartbeats 8000000
/-! LTY: a text that is a tree does what the tree says. -/
namespace TL
open PySem PySem.Spec PyProof.Rows L2
section
variable {T : Tab} {Φ : Fns}
theorem matchO {o : Option (Expr × Expr)} {f : Expr → Expr → Bool} (h : (match o with | some (x, y) => f x y | none => false) = true) : ∃ x y, o = some (x, y) ∧ f x y = true := by
  cases o with
  | none => exact absurd h Bool.false_ne_true
  | some p => exact ⟨p.1, p.2, rfl, h⟩
theorem mcall_some {m : String} {e o : Expr} {args : List Expr} (h : mcall m e = some (o, args)) : ∃ ap cp, e = .Call (.Attribute o (m : Str) ap) args [] cp ∧ okBase o = true ∧ args.all plainA = true ∧ (ap.endLine == cp.line) = true := by
  unfold mcall at h
  split at h
  · rename_i o' x ap as cp
    by_cases c : x = (m : Str) ∧ okBase o' = true ∧ as.all plainA = true ∧ (ap.endLine == cp.line) = true
    · rw [if_pos c] at h; cases h
      obtain ⟨rfl, c2, c3, c4⟩ := c
      exact ⟨ap, cp, rfl, c2, c3, c4⟩
    · rw [if_neg c] at h; cases h
  · cases h
theorem mcall1 {m : String} {e o x : Expr} (h : mcall m e = some (o, [x])) {env : Env} : ∃ ap cp, e = .Call (.Attribute o (m : Str) ap) [x] [] cp ∧ okBase o = true ∧ plainA x = true ∧ (ap.endLine == cp.line) = true := by
  obtain ⟨ap, cp, h1, h2, h3, h4⟩ := mcall_some h
  exact ⟨ap, cp, h1, h2, by simpa using h3, h4⟩
theorem few1 {x : Expr} {env : Env} {cp : Pos} (h : plainA x = true) : ((backTo cp (starEach [x] env)).all (fun x => !x.1) && (backToKw cp (keywordEach [] env)).all (fun x => x.1.isSome)
      && decide (([x] : List Expr).length + ([] : List Keyword).length + (if ([] : List Keyword).isEmpty then 0 else 1) < 30)) = true := by rw [starP h]; rfl
/-- each of these is done right -/
def AllE (T : Tab) (Φ : Fns) (es : List E) : Prop := ∀ e ∈ es, ∀ {P : Pl} {X : Cx} {W : WX} {ex : Expr}, Ctx T Φ P X W → mE T P e ex = true → PE X ex (tV Φ X W e)
theorem soW_of {P : Pl} {X : Cx} {W : WX} (C : Ctx T Φ P X W) {src : List E} (so : AllE T Φ src) {wk : Wk} {it t : Expr} (h1 : wkTg wk t = true) (h2 : (match wkX T P wk it with | some xs => mEs T P src xs | none => false) = true) : PI X t it (tW Φ X W wk src) := by
  have conv : ∀ {wi : TI}, PI X t it wi → (∀ σ H R, tW Φ X W wk src σ H R → wi σ H R) → PI X t it (tW Φ X W wk src) := fun p c => ⟨fun pins s σ H R I q => p.run pins s σ H R I (c σ H R q)⟩
  have one1 : ∀ {x : Expr}, mEs T P src [x] = true → ∃ e, src = [e] ∧ plainA x = true ∧ PE X x (tV Φ X W e) := fun {x} h => by
    match src, so, h with
    | [e], so, h =>
      obtain ⟨p1, p2, _⟩ := and3 (show (plainA x && (mE T P e x && mEs T P [] [])) = true from h)
      exact ⟨e, rfl, p1, so e List.mem_cons_self C p2⟩
    | _ :: _ :: _, so, h => exact absurd (and3 (show (plainA x && (mE T P _ x && mEs T P (_ :: _) [])) = true from h)).2.2 Bool.false_ne_true
  have two2 : ∀ {x y : Expr}, mEs T P src [x, y] = true → ∃ e f, src = [e, f] ∧ plainA x = true ∧ plainA y = true ∧ PE X x (tV Φ X W e) ∧ PE X y (tV Φ X W f) := fun {x y} h => by
    match src, so, h with
    | [e], so, h => exact absurd (and3 (show (plainA x && (mE T P e x && mEs T P [] [y])) = true from h)).2.2 Bool.false_ne_true
    | [e, f], so, h =>
      obtain ⟨p1, p2, p3⟩ := and3 (show (plainA x && (mE T P e x && mEs T P [f] [y])) = true from h)
      obtain ⟨p4, p5, _⟩ := and3 (show (plainA y && (mE T P f y && mEs T P [] [])) = true from p3)
      exact ⟨e, f, rfl, p1, p4, so e List.mem_cons_self C p2, so f (List.mem_cons_of_mem _ List.mem_cons_self) C p5⟩
    | e :: f :: _ :: _, so, h =>
      obtain ⟨p1, p2, p3⟩ := and3 (show (plainA x && (mE T P e x && mEs T P (f :: _ :: _) [y])) = true from h)
      exact absurd (and3 (show (plainA y && (mE T P f y && mEs T P (_ :: _) [])) = true from p3)).2.2 Bool.false_ne_true
  cases wk with
  | val =>
    obtain ⟨e, rfl, p1, pe⟩ := one1 (show mEs T P src [it] = true from h2)
    exact conv (pi_seq pe) fun σ H R => cw_val
  | range1 =>
    cases e1 : one (bcall T P "range" it) with
    | none => exact absurd (show false = true from by simpa [wkX, e1] using h2) Bool.false_ne_true
    | some x =>
      obtain ⟨p, pos, rfl, hg, hm, hp⟩ := one_b C e1
      obtain ⟨e, rfl, p1, pe⟩ := one1 (show mEs T P src [x] = true from by simpa [wkX, e1] using h2)
      exact conv (pi_range1 hg hm (pa1 hp pe) (by rw [starP hp]; rfl)) fun σ H R => cw_r1
  | range2 =>
    cases e1 : two (bcall T P "range" it) with
    | none => exact absurd (show false = true from by simpa [wkX, e1] using h2) Bool.false_ne_true
    | some xy =>
      obtain ⟨x, y⟩ := xy
      obtain ⟨p, pos, rfl, hg, hm, hp, hp'⟩ := two_b C e1
      obtain ⟨e, f, rfl, p1, p2, pe, pf⟩ := two2 (show mEs T P src [x, y] = true from by simpa [wkX, e1] using h2)
      exact conv (pi_range2 hg hm (pa2 hp hp' pe pf) (by rw [starP hp, starP hp']; rfl) (by rw [starP hp']; rfl)) fun σ H R => cw_r2
  | enum =>
    cases e1 : one (bcall T P "enumerate" it) with
    | none => exact absurd (show false = true from by simpa [wkX, e1] using h2) Bool.false_ne_true
    | some x =>
      obtain ⟨p, pos, rfl, hg, hm, hp⟩ := one_b C e1
      obtain ⟨e, rfl, p1, pe⟩ := one1 (show mEs T P src [x] = true from by simpa [wkX, e1] using h2)
      cases t <;> try (exact absurd h1 Bool.false_ne_true)
      exact conv (pi_enT hg hm pe (starP hp)) fun σ H R => cw_en
  | zip =>
    cases e1 : two (bcall T P "zip" it) with
    | none => exact absurd (show false = true from by simpa [wkX, e1] using h2) Bool.false_ne_true
    | some xy =>
      obtain ⟨x, y⟩ := xy
      obtain ⟨p, pos, rfl, hg, hm, hp, hp'⟩ := two_b C e1
      obtain ⟨e, f, rfl, p1, p2, pe, pf⟩ := two2 (show mEs T P src [x, y] = true from by simpa [wkX, e1] using h2)
      cases t <;> try (exact absurd h1 Bool.false_ne_true)
      exact conv (pi_zip hg hm (pa2 hp hp' pe pf) (starP hp) (by rw [starP hp']; rfl)) fun σ H R => cw_zip
  | revd =>
    cases e1 : one (bcall T P "reversed" it) with
    | none => exact absurd (show false = true from by simpa [wkX, e1] using h2) Bool.false_ne_true
    | some x =>
      obtain ⟨p, pos, rfl, hg, hm, hp⟩ := one_b C e1
      obtain ⟨e, rfl, p1, pe⟩ := one1 (show mEs T P src [x] = true from by simpa [wkX, e1] using h2)
      exact conv (RT.pi_revA hg hm pe (starP hp)) fun σ H R => cw_rev
theorem pw_any {X : Cx} {op : BoolOp} {x : Expr} {xs : List Expr} {p : Pos} {t : TT} (h : L2.PT X (.BoolOp op (x :: xs) p) t) : PW X (.BoolOp op (x :: xs) p) t := ⟨fun wh pins s σ H Q I q => h.run pins s σ H Q I q⟩
theorem pt_tru {X : Cx} {a : Expr} {ta : TE} (ha : PE X a ta) (he : ∀ whole, isTrue a X.env whole = (do let v ← whole; standAt a.pos; holding [v] (truthy v))) : L2.PT X a (fun σ H Q => ta σ H fun x H' => rTru X x H' Q) :=
  ⟨fun pins s σ H Q I h => isTrue_plain (thn (ha.run pins s σ H _ I h) fun v s1 ⟨x, H1, I1, r1, q1⟩ => tru_v pins s1 σ H1 x v Q I1 r1 q1) (he _)⟩
mutual
theorem soE : ∀ (e : E) {P : Pl} {X : Cx} {W : WX} {ex : Expr}, Ctx T Φ P X W → mE T P e ex = true → PE X ex (tV Φ X W e)
  | .var i, P, X, W, ex, C, h => by
    cases ex <;> try (exact absurd h Bool.false_ne_true)
    rename_i x p
    obtain ⟨h1, h2, h3, h4⟩ := rd_facts C (show rdB P i x = true from h)
    exact PE.conv (pe_var h1 h2 h3 h4) fun σ H Q => cv_var
  | .int i, P, X, W, ex, C, h => by
    cases ex <;> try (exact absurd h Bool.false_ne_true)
    rename_i c k p
    cases c <;> try (exact absurd h Bool.false_ne_true)
    rename_i j
    have e : i = j := of_decide_eq_true h
    subst e
    exact PE.conv pe_int fun σ H Q => cv_c (fun s => rfl) fun _ _ _ _ => rfl
  | .str z, P, X, W, ex, C, h => by
    cases ex <;> try (exact absurd h Bool.false_ne_true)
    rename_i c k p
    cases c <;> try (exact absurd h Bool.false_ne_true)
    rename_i j
    have e : z = j := of_decide_eq_true h
    subst e
    exact PE.conv pe_str fun σ H Q => cv_c (fun s => rfl) fun _ _ _ _ => rfl
  | .bl b, P, X, W, ex, C, h => by
    cases ex <;> try (exact absurd h Bool.false_ne_true)
    rename_i c k p
    cases c <;> try (exact absurd h Bool.false_ne_true)
    rename_i j
    have e : b = j := of_decide_eq_true h
    subst e
    exact PE.conv pe_bl fun σ H Q => cv_c (fun s => rfl) fun _ _ _ _ => rfl
  | .non, P, X, W, ex, C, h => by
    cases ex <;> try (exact absurd h Bool.false_ne_true)
    rename_i c k p
    cases c <;> try (exact absurd h Bool.false_ne_true)
    exact PE.conv pe_non fun σ H Q => cv_c (fun s => rfl) fun _ _ _ _ => rfl
  | .gint x i, P, X, W, ex, C, h => by
    cases ex <;> try (exact absurd h Bool.false_ne_true)
    rename_i y p
    obtain ⟨h1, h2, h3⟩ := and3 (show (decide (x = y) && (glB P y && T.gints.contains (x, i))) = true from h)
    have e : x = y := of_decide_eq_true h1
    subst e
    obtain ⟨t, ht⟩ := C.tab.gint x i (by simpa using h3)
    have g := gl_facts C h2
    exact PE.conv (pe_glob (v := .int i) g.1 ht ⟨t, rfl⟩ g.2) fun σ H Q => cv_c (fun s => rfl) fun _ _ _ _ => rfl
  | .p1 f a, P, X, W, ex, C, h => by
    have h' : (match p1X T P f ex with | some x => mE T P a x | none => false) = true := h
    cases e : p1X T P f ex with
    | none => rw [e] at h'; exact absurd h' Bool.false_ne_true
    | some x =>
      rw [e] at h'
      exact PE.conv (p1_ok C e (soP_of C h' (soE a C h'))) fun σ H Q => cv_p1
  | .p2 f a b, P, X, W, ex, C, h => by
    obtain ⟨x, y, e, h'⟩ := matchO (show (match p2X T P f ex with | some (x, y) => mE T P a x && mE T P b y | none => false) = true from h)
    obtain ⟨h1, h2⟩ := and2 h'
    exact PE.conv (p2_ok C e (soP_of C h1 (soE a C h1)) (soP_of C h2 (soE b C h2))) fun σ H Q => cv_p2
  | .cut a lo hi, P, X, W, ex, C, h => by
    cases ex <;> try (exact absurd h Bool.false_ne_true)
    rename_i x sl p
    cases sl <;> try (exact absurd h Bool.false_ne_true)
    rename_i l u st p2
    cases st <;> try (exact absurd h Bool.false_ne_true)
    obtain ⟨h1, h2, h3⟩ := and3 (show (mE T P a x && (mO T P lo l && mO T P hi u)) = true from h)
    exact PE.conv (pe_slice sl_cut (soP_of C h1 (soE a C h1)) (soO lo C h2) (soO hi C h3)) fun σ H Q => cv_cut
  | .chain st a b c, P, X, W, ex, C, h => by
    cases ex <;> try (exact absurd h Bool.false_ne_true)
    rename_i x ops cs p
    match ops, cs, h with
    | [.LtE, o], [y, z], h =>
      have h0 : (decide (o = if st then .Lt else .LtE) && (mE T P a x && (mE T P b y && mE T P c z))) = true := h
      obtain ⟨h1, h2⟩ := and2 h0
      obtain ⟨h3, h4, h5⟩ := and3 h2
      have e : o = if st then .Lt else .LtE := of_decide_eq_true h1
      subst e
      cases st with
      | true => exact PE.conv (pe_chain op_le op_lt (soE a C h3) (soE b C h4) (soE c C h5) (nomark _)) fun σ H Q => cv_chain
      | false => exact PE.conv (pe_chain op_le op_le (soE a C h3) (soE b C h4) (soE c C h5) (nomark _)) fun σ H Q => cv_chain
  | .and a b, P, X, W, ex, C, h => by
    cases ex <;> try (exact absurd h Bool.false_ne_true)
    rename_i op es p
    match op, es, h with
    | .And, [x, y], h =>
      obtain ⟨h1, h2⟩ := and2 (show (mE T P a x && mE T P b y) = true from h)
      exact PE.conv (pe_and (soE a C h1) (pe_one (soE b C h2))) fun σ H Q => cv_and
    | .And, x :: y :: z :: r, h =>
      obtain ⟨h1, h2⟩ := and2 (show (mE T P a x && mE T P b (.BoolOp .And (y :: z :: r) p)) = true from h)
      exact PE.conv (pe_and (soE a C h1) (soE b C h2)) fun σ H Q => cv_and
  | .or a b, P, X, W, ex, C, h => by
    cases ex <;> try (exact absurd h Bool.false_ne_true)
    rename_i op es p
    match op, es, h with
    | .Or, [x, y], h =>
      obtain ⟨h1, h2⟩ := and2 (show (mE T P a x && mE T P b y) = true from h)
      exact PE.conv (pe_or (soE a C h1) (pe_one (soE b C h2))) fun σ H Q => cv_or
    | .Or, x :: y :: z :: r, h =>
      obtain ⟨h1, h2⟩ := and2 (show (mE T P a x && mE T P b (.BoolOp .Or (y :: z :: r) p)) = true from h)
      exact PE.conv (pe_or (soE a C h1) (soE b C h2)) fun σ H Q => cv_or
  | .not a, P, X, W, ex, C, h => by
    cases ex <;> try (exact absurd h Bool.false_ne_true)
    rename_i op x p
    cases op <;> try (exact absurd h Bool.false_ne_true)
    have h1 : mE T P a x = true := h
    refine PE.conv (t := fun σ H Q => tP Φ X W a σ H fun x H1 => rTru X x H1 fun k H2 => Q (.bl (!k)) H2) ⟨fun pins s σ H Q I q => ?_⟩ fun σ H Q => cv_not
    exact UnaryOp_ (thn ((soP_of C h1 (soE a C h1)).run pins s σ H _ I q) fun v s1 ⟨y, H1, I1, r1, q1⟩ => not_of (thn (tru_v pins s1 σ H1 y v (fun c H2 => Q (.bl (!c)) H2) I1 r1 q1) fun c s2 ⟨H2, I2, q2⟩ => ⟨.bl (!c), H2, I2, rfl, q2⟩))
  | .ife c a b, P, X, W, ex, C, h => by
    cases ex <;> try (exact absurd h Bool.false_ne_true)
    rename_i x y z p
    obtain ⟨h1, h2, h3⟩ := and3 (show (mT T P c x && (mE T P a y && mE T P b z)) = true from h)
    exact PE.conv (pe_ifExp (soT c C h1) (soE a C h2) (soE b C h3)) fun σ H Q => cv_ife
  | .tup es, P, X, W, ex, C, h => by
    cases ex <;> try (exact absurd h Bool.false_ne_true)
    exact PE.conv (pe_tup (soEs es C (show mEs T P es _ = true from h))) fun σ H Q => cv_tup
  | .lst es, P, X, W, ex, C, h => by
    cases ex <;> try (exact absurd h Bool.false_ne_true)
    exact PE.conv (pe_lst (soEs es C (show mEs T P es _ = true from h))) fun σ H Q => cv_lst
  | .dnew t, P, X, W, ex, C, h => by
    cases ex <;> try (exact absurd h Bool.false_ne_true)
    rename_i ks vs p
    match ks, vs, h with
    | [], [], h => exact PE.conv pe_dn fun σ H Q => cv_dn
  | .d1 t k v, P, X, W, ex, C, h => by
    cases ex <;> try (exact absurd h Bool.false_ne_true)
    rename_i ks vs p
    match ks, vs, h with
    | [some x], [y], h =>
      obtain ⟨h1, h2⟩ := and2 (show (mE T P k x && mE T P v y) = true from h)
      exact PE.conv (pe_d1 C.un (soE k C h1) (soE v C h2)) fun σ H Q => cv_d1
  | .nobj e, P, X, W, ex, C, h => PE.conv (soE e C (show mE T P e ex = true from by cases ex <;> exact h)) fun σ H Q => cv_nobj
  | .call f es, P, X, W, ex, C, h => by
    cases ex <;> try (exact absurd h Bool.false_ne_true)
    rename_i fx args kw p
    cases fx <;> try (exact absurd h Bool.false_ne_true)
    cases kw <;> try (exact absurd h Bool.false_ne_true)
    rename_i x p1
    have h0 : (decide (f = x) && (!args.isEmpty && (glB P x && ((T.fns.any fun q => decide (q.1 = x ∧ q.2.1 ≤ P.lv ∧ q.2.2.length = es.length)) && mEs T P es args)))) = true := h
    obtain ⟨h1, h2, h3⟩ := and3 h0
    obtain ⟨h4, h5, h6⟩ := and3 h3
    have e : f = x := of_decide_eq_true h1
    subst e
    have g := gl_facts C h4
    obtain ⟨q, hq, e1⟩ := List.any_eq_true.mp h5
    obtain ⟨e1, e2, e3⟩ := of_decide_eq_true e1
    obtain ⟨k1, k2, fd, Fk, Bk⟩ := C.tab.fns q hq
    rw [e1] at k1 k2
    rw [e3, e1] at Fk
    cases args with
    | nil => exact absurd h2 (by simp)
    | cons a0 as =>
      cases es with
      | nil => exact absurd h6 Bool.false_ne_true
      | cons e0 es' =>
        have pl : plainA a0 = true ∧ as.all plainA = true := by
          have pl2 : ∀ {es : List E} {xs : List Expr}, mEs T P es xs = true → xs.all plainA = true := by
            intro es
            induction es with
            | nil => intro xs h; cases xs with
              | nil => rfl
              | cons => exact absurd h Bool.false_ne_true
            | cons e es ih => intro xs h; cases xs with
              | nil => exact absurd h Bool.false_ne_true
              | cons x xs =>
                obtain ⟨p1, _, p3⟩ := and3 (show (plainA x && (mE T P e x && mEs T P es xs)) = true from h)
                rw [List.all_cons, p1, ih p3]; rfl
          have := pl2 h6
          simpa using this
        exact PE.conv (pe_callS Fk (C.room.mono e2) g.1 k1 k2 Bk (fun σ => passAt C.tk σ) (soEs (e0 :: es') C h6) g.2 (starP pl.1) (backP pl.2)) fun σ H Q => cv_call
  | .make c imm es, P, X, W, ex, C, h => by
    cases ex <;> try (exact absurd h Bool.false_ne_true)
    rename_i fx args kw p
    cases fx <;> try (exact absurd h Bool.false_ne_true)
    cases kw <;> try (exact absurd h Bool.false_ne_true)
    rename_i x p1
    have h0 : (decide (c = x) && (!args.isEmpty && (glB P x && ((T.mks.any fun q => decide (q.1 = x ∧ q.2.1 + 1 ≤ P.lv ∧ q.2.2.length = es.length + 1)) && mEs T P es args)))) = true := h
    obtain ⟨h1, h2, h3⟩ := and3 h0
    obtain ⟨h4, h5, h6⟩ := and3 h3
    have e : c = x := of_decide_eq_true h1
    subst e
    have g := gl_facts C h4
    obtain ⟨q, hq, e1⟩ := List.any_eq_true.mp h5
    obtain ⟨e1, e2, e3⟩ := of_decide_eq_true e1
    obtain ⟨k1, k2, fI, fd, Mk1, Fk, Bk⟩ := C.tab.mks q hq
    rw [e1] at k1 k2 Mk1
    rw [e3, e1] at Fk
    cases args with
    | nil => exact absurd h2 (by simp)
    | cons a0 as =>
      cases es with
      | nil => exact absurd h6 Bool.false_ne_true
      | cons e0 es' =>
        have pl : plainA a0 = true ∧ as.all plainA = true := by
          have pl2 : ∀ {es : List E} {xs : List Expr}, mEs T P es xs = true → xs.all plainA = true := by
            intro es
            induction es with
            | nil => intro xs h; cases xs with
              | nil => rfl
              | cons => exact absurd h Bool.false_ne_true
            | cons e es ih => intro xs h; cases xs with
              | nil => exact absurd h Bool.false_ne_true
              | cons x xs =>
                obtain ⟨p1, _, p3⟩ := and3 (show (plainA x && (mE T P e x && mEs T P es xs)) = true from h)
                rw [List.all_cons, p1, ih p3]; rfl
          have := pl2 h6
          simpa using this
        exact PE.conv (pe_make Mk1 Fk (C.room.mono e2) g.1 k1 Bk .nil passL (soEs (e0 :: es') C h6) g.2 (starP pl.1) (backP pl.2)) fun σ H Q => cv_make
  | .fld a c f, P, X, W, ex, C, h => by
    cases ex <;> try (exact absurd h Bool.false_ne_true)
    rename_i x y p
    have h0 : (decide (f = y) && (okBase x && (T.flds.contains (c, f) && mE T P a x))) = true := h
    obtain ⟨h1, h2, h3⟩ := and3 h0
    obtain ⟨h4, h5⟩ := and2 h3
    have e : f = y := of_decide_eq_true h1
    subst e
    have g := C.tab.flds (c, f) (by simpa using h4)
    exact PE.conv (pe_fld (soP_of C h5 (soE a C h5)) (baseP h2)) fun σ H Q => cv_fld g.1 g.2
  | .meth _ _ _ _ _, P, X, W, ex, C, h => by cases ex <;> exact absurd h Bool.false_ne_true
  | .prop a c m k, P, X, W, ex, C, h => by
    cases ex <;> try (exact absurd h Bool.false_ne_true)
    rename_i x y p
    have h0 : (decide (m = y) && (okBase x && (okA y && ((T.prs.any fun q => decide (q.c = c ∧ q.m = m ∧ q.k = k ∧ q.lv + 1 ≤ P.lv ∧ q.ps.length = 1)) && mE T P a x)))) = true := h
    obtain ⟨h1, h2, h3⟩ := and3 h0
    obtain ⟨h4, h5, h6⟩ := and3 h3
    have e : m = y := of_decide_eq_true h1
    subst e
    obtain ⟨q, hq, e1⟩ := List.any_eq_true.mp h5
    obtain ⟨e1, e2, e3, e4, e5⟩ := of_decide_eq_true e1
    obtain ⟨k1, p', g, fd, k2, Fk, Bk⟩ := C.tab.prs q hq
    rw [e1] at k1 k2
    rw [e2] at k2
    rw [e5, e3] at Fk
    exact PE.conv (pe_prop (soE a C h6) k1 k2 Fk (C.room.mono e4) Bk .nil passL (baseP h2)) fun σ H Q => cv_prop
  | .lenC a c k, P, X, W, ex, C, h => by
    have h0 : (match one (bcall T P "len" ex) with
      | some x => (T.sps.any fun q => decide (q.c = c ∧ q.m = ("__len__" : Str) ∧ q.k = k ∧ q.lv + 1 ≤ P.lv ∧ q.ps.length = 1)) && mE T P a x
      | none => false) = true := h
    split at h0
    · rename_i x e0
      obtain ⟨p, pos, rfl, hg, hm, hp⟩ := one_b C e0
      obtain ⟨h5, h6⟩ := and2 h0
      obtain ⟨q, hq, e1⟩ := List.any_eq_true.mp h5
      obtain ⟨e1, e2, e3, e4, e5⟩ := of_decide_eq_true e1
      obtain ⟨k1, _, f, fd, k2, k3, Fk, Bk⟩ := C.tab.sps q hq
      rw [e1, e2] at k2
      rw [e5, e3] at Fk
      exact PE.conv (pe_callB (cr_lenO Fk k2 k3 (C.room.mono e4) Bk passL) hg hm boot_len (pa1 hp (soE a C h6)) (by decide) (by decide) (starP hp) rfl) fun σ H Q q => tAny_mono (cv_lenC q) fun y H1 q => q
    · exact absurd h0 Bool.false_ne_true
  | .eqC a b c k, P, X, W, ex, C, h => by
    have h0 : (match cmpX .Eq ex with
      | some (x, y) => (T.sps.any fun q => decide (q.c = c ∧ q.m = ("__eq__" : Str) ∧ q.k = k ∧ q.lv + 1 ≤ P.lv ∧ q.ps.length = 2)) && (mE T P a x && mE T P b y)
      | none => false) = true := h
    obtain ⟨x, y, e0, h1⟩ := matchO h0
    obtain ⟨h5, h6, h7⟩ := and3 h1
    obtain ⟨⟨pos, rfl⟩, hs⟩ := cmpX_some e0
    obtain ⟨q, hq, e1⟩ := List.any_eq_true.mp h5
    obtain ⟨e1, e2, e3, e4, e5⟩ := of_decide_eq_true e1
    obtain ⟨k1, kn, f, fd, k2, k3, Fk, Bk⟩ := C.tab.sps q hq
    rw [e1, e2] at k2
    rw [e1] at kn
    rw [e5, e3] at Fk
    exact PE.conv (pe_cmpR (op_eqO Fk k2 k3 kn (C.room.mono e4) Bk passL) (soE a C h6) (soE b C h7) (markP hs)) fun σ H Q => cv_eqC
  | .lend i e, P, X, W, ex, C, h => PE.conv (soE e C (show mE T P e ex = true from by cases ex <;> exact h)) fun σ H Q => cv_lend
  | .isC a c, P, X, W, ex, C, h => by
    have h0 : (match two (bcall T P "isinstance" ex) with
      | some (x, .Name t _) => decide (t = c) && (glB P t && ((T.mks.any fun q => decide (q.1 = c)) && mE T P a x))
      | _ => false) = true := h
    split at h0
    · rename_i x t p2 e1
      obtain ⟨p, pos, rfl, hg, hm, hp, _⟩ := two_b C e1
      obtain ⟨h1, h2, h3⟩ := and3 h0
      obtain ⟨h4, h5⟩ := and2 h3
      have e : t = c := of_decide_eq_true h1
      subst e
      have g := gl_facts C h2
      obtain ⟨q, hq, e2⟩ := List.any_eq_true.mp h4
      have e2 : q.1 = t := of_decide_eq_true e2
      obtain ⟨k1, _⟩ := C.tab.mks q hq
      obtain ⟨i1, i2⟩ := C.tab.isc q hq
      rw [e2] at k1 i1 i2
      exact PE.conv (pe_callB (co_isC i1 i2) hg hm PyProof.Rows.boot_isinstance (pa2 hp rfl (soP_of C h5 (soE a C h5)) (pe_glob (v := .ref _) g.1 k1 rfl g.2)) (by decide) (by decide) (starP hp) rfl) fun σ H Q => cv_isC
    · exact absurd h0 Bool.false_ne_true
  | .get d k v, P, X, W, ex, C, h => by
    have h0 : (match mcall "get" ex with
      | some (o, [x, y]) => mE T P d o && (mE T P k x && mE T P v y)
      | _ => false) = true := h
    split at h0
    · rename_i o x y e1
      obtain ⟨ap, cp, rfl, hb, hp, hl⟩ := mcall_some e1
      obtain ⟨h1, h2, h3⟩ := and3 h0
      have p1 : plainA x = true := by simp at hp; exact hp.1
      have p2 : plainA y = true := by simp at hp; exact hp.2
      exact PE.conv (pe_dget C.un (soP_of C h1 (soE d C h1)) (pa2 p1 p2 (soE k C h2) (soE v C h3)) hb hp hl) fun σ H Q => cv_get
    · exact absurd h0 Bool.false_ne_true
  | .index l v, P, X, W, ex, C, h => by
    have h0 : (match mcall "index" ex with
      | some (o, [x]) => mE T P l o && mE T P v x
      | _ => false) = true := h
    split at h0
    · rename_i o x e1
      obtain ⟨ap, cp, rfl, hb, hp, hl⟩ := mcall1 (env := X.env) e1
      obtain ⟨h1, h2⟩ := and2 h0
      exact PE.conv (pe_bm PySem.F.plainAttrs_list PySem.F.slot_list_index PySem.F.type_list_index (mt_idx C.un) (soP_of C h1 (soE l C h1)) (pa1 hp (soE v C h2)) (baseP hb) (few1 hp) hl (starP hp) rfl) fun σ H Q => cv_idx
    · exact absurd h0 Bool.false_ne_true
  | .app l v, P, X, W, ex, C, h => by
    have h0 : (match mcall "append" ex with
      | some (o, [x]) => mE T P l o && mE T P v x
      | _ => false) = true := h
    split at h0
    · rename_i o x e1
      obtain ⟨ap, cp, rfl, hb, hp, hl⟩ := mcall1 (env := X.env) e1
      obtain ⟨h1, h2⟩ := and2 h0
      exact PE.conv (pe_bm PySem.F.plainAttrs_list PySem.F.slot_list_append PySem.F.type_list_append mt_append (soP_of C h1 (soE l C h1)) (pa1 hp (soE v C h2)) (baseP hb) (few1 hp) hl (starP hp) rfl) fun σ H Q => cv_app
    · exact absurd h0 Bool.false_ne_true
  | .ext l v, P, X, W, ex, C, h => by
    have h0 : (match mcall "extend" ex with
      | some (o, [x]) => mE T P l o && mE T P v x
      | _ => false) = true := h
    split at h0
    · rename_i o x e1
      obtain ⟨ap, cp, rfl, hb, hp, hl⟩ := mcall1 (env := X.env) e1
      obtain ⟨h1, h2⟩ := and2 h0
      exact PE.conv (pe_bm PySem.F.plainAttrs_list PySem.F.slot_list_extend PySem.F.type_list_extend mt_extL (soP_of C h1 (soE l C h1)) (pa1 hp (soE v C h2)) (baseP hb) (few1 hp) hl (starP hp) rfl) fun σ H Q => cv_ext
    · exact absurd h0 Bool.false_ne_true
  | .pop l, P, X, W, ex, C, h => by
    have h0 : (match mcall "pop" ex with
      | some (o, []) => mE T P l o
      | _ => false) = true := h
    split at h0
    · rename_i o e1
      obtain ⟨ap, cp, rfl, hb, hp, hl⟩ := mcall_some e1
      exact PE.conv (pe_bm0 PySem.F.plainAttrs_list PySem.F.slot_list_pop PySem.F.type_list_pop mt_pop (soP_of C h0 (soE l C h0)) (baseP hb) hl) fun σ H Q => cv_pop
    · exact absurd h0 Bool.false_ne_true
  | .comp elt tg wk src cond own, P, X, W, ex, C, h => by
    cases ex <;> try (exact absurd h Bool.false_ne_true)
    rename_i x gens scope p
    match gens, h with
    | [⟨t, it, ifs, 0⟩], h =>
      have h0 : (blkC P.N P.sc scope own && (tgIn tg (own.map (·.2)) && (wkTg wk t && (noSet it && (mTg (P.blk scope) tg t && ((match wkX T P wk it with
        | some xs => mEs T P src xs
        | none => false) && (mC T (P.blk scope) cond ifs && mE T (P.blk scope) elt x))))))) = true := h
      obtain ⟨h1, h2, h0⟩ := and3 h0
      obtain ⟨h3, h4, h0⟩ := and3 h0
      obtain ⟨h5, h6, h0⟩ := and3 h0
      obtain ⟨h7, h8⟩ := and2 h0
      refine PE.conv (pe_lc (tt := tCond Φ X cond) C.calm C.nd (soW_of C (soAll src) h3 h6) (blkOk_by (by rw [C.eN, C.eS]; exact h1)) (fun sh H Ca cl fp => soTg (C.blk sh H scope Ca cl fp) tg t h5) (fun sh H Ca cl fp => ?_)
        (fun sh H Ca cl fp => soE elt (C.blk sh H scope Ca cl fp) h8) (foldP h4)) fun σ H Q => cv_comp h2
      cases cond with
      | none =>
        cases ifs with
        | nil => exact pts_nil
        | cons a b => exact absurd h7 Bool.false_ne_true
      | some c =>
        match ifs, h7 with
        | [i], h7 => exact pts_one (soT c (C.blk sh H scope Ca cl fp) h7)
  | .dcomp t key elt tg wk src cond own, P, X, W, ex, C, h => by
    cases ex <;> try (exact absurd h Bool.false_ne_true)
    rename_i kx x gens scope p
    match gens, h with
    | [⟨tx, it, ifs, 0⟩], h =>
      have h0 : (blkC P.N P.sc scope own && (tgIn tg (own.map (·.2)) && (wkTg wk tx && (noSet it && (mTg (P.blk scope) tg tx && ((match wkX T P wk it with
        | some xs => mEs T P src xs
        | none => false) && (mC T (P.blk scope) cond ifs && (mE T (P.blk scope) key kx && mE T (P.blk scope) elt x)))))))) = true := h
      obtain ⟨h1, h2, h0⟩ := and3 h0
      obtain ⟨h3, h4, h0⟩ := and3 h0
      obtain ⟨h5, h6, h0⟩ := and3 h0
      obtain ⟨h7, h8, h9⟩ := and3 h0
      refine PE.conv (pe_dcD (tt := tCond Φ X cond) C.un C.calm C.nd (soW_of C (soAll src) h3 h6) (blkOk_by (by rw [C.eN, C.eS]; exact h1)) (fun sh H Ca cl fp => soTg (C.blk sh H scope Ca cl fp) tg tx h5) (fun sh H Ca cl fp => ?_)
        (fun sh H Ca cl fp => soE key (C.blk sh H scope Ca cl fp) h8) (fun sh H Ca cl fp => soE elt (C.blk sh H scope Ca cl fp) h9) (foldP h4)) fun σ H Q => cv_dcomp h2
      cases cond with
      | none =>
        cases ifs with
        | nil => exact pts_nil
        | cons a b => exact absurd h7 Bool.false_ne_true
      | some c =>
        match ifs, h7 with
        | [i], h7 => exact pts_one (soT c (C.blk sh H scope Ca cl fp) h7)
theorem soT : ∀ (e : Ts) {P : Pl} {X : Cx} {W : WX} {ex : Expr}, Ctx T Φ P X W → mT T P e ex = true → L2.PT X ex (tB Φ X W e)
  | .val e, P, X, W, ex, C, h => by
    obtain ⟨h1, h2⟩ := and2 (show (plainT ex && mE T P e ex) = true from by cases ex <;> exact h)
    exact PT.conv (pt_tru (soP_of C h2 (soE e C h2)) (truP h1)) fun σ H Q => cv_tru
  | .and a b, P, X, W, ex, C, h => by
    cases ex <;> try (exact absurd h Bool.false_ne_true)
    rename_i op es p
    match op, es, h with
    | .And, [x, y], h =>
      obtain ⟨h1, h2⟩ := and2 (show (mT T P a x && mT T P b y) = true from h)
      exact PT.conv (PW.pt (pw_and (soT a C h1) (pw_and1 (soT b C h2)))) fun σ H Q => cv_tand
    | .And, x :: y :: z :: r, h =>
      obtain ⟨h1, h2⟩ := and2 (show (mT T P a x && mT T P b (.BoolOp .And (y :: z :: r) p)) = true from h)
      exact PT.conv (PW.pt (pw_and (soT a C h1) (pw_any (soT b C h2)))) fun σ H Q => cv_tand
  | .or a b, P, X, W, ex, C, h => by
    cases ex <;> try (exact absurd h Bool.false_ne_true)
    rename_i op es p
    match op, es, h with
    | .Or, [x, y], h =>
      obtain ⟨h1, h2⟩ := and2 (show (mT T P a x && mT T P b y) = true from h)
      exact PT.conv (PW.pt (pw_or (soT a C h1) (pw_or1 (soT b C h2)))) fun σ H Q => cv_tor
    | .Or, x :: y :: z :: r, h =>
      obtain ⟨h1, h2⟩ := and2 (show (mT T P a x && mT T P b (.BoolOp .Or (y :: z :: r) p)) = true from h)
      exact PT.conv (PW.pt (pw_or (soT a C h1) (pw_any (soT b C h2)))) fun σ H Q => cv_tor
  | .not a, P, X, W, ex, C, h => by
    cases ex <;> try (exact absurd h Bool.false_ne_true)
    rename_i op x p
    cases op <;> try (exact absurd h Bool.false_ne_true)
    exact PT.conv (pt_not (soT a C (show mT T P a x = true from h))) fun σ H Q => cv_tnot
  | .cmp f a b, P, X, W, ex, C, h => by
    obtain ⟨h1, h2⟩ := and2 (show (isCmp f && (match p2X T P f ex with | some (x, y) => mE T P a x && mE T P b y | none => false)) = true from by cases ex <;> exact h)
    obtain ⟨x, y, e, h'⟩ := matchO h2
    obtain ⟨h3, h4⟩ := and2 h'
    exact PT.conv (c2_ok C h1 e (soP_of C h3 (soE a C h3)) (soP_of C h4 (soE b C h4))) fun σ H Q => cv_c2
  | .eqC a b c k, P, X, W, ex, C, h => by
    have h0 : (match cmpX .Eq ex with
      | some (x, y) => (T.sps.any fun q => decide (q.c = c ∧ q.m = ("__eq__" : Str) ∧ q.k = k ∧ q.lv + 1 ≤ P.lv ∧ q.ps.length = 2)) && (mE T P a x && mE T P b y)
      | none => false) = true := by cases ex <;> exact h
    obtain ⟨x, y, e0, h1⟩ := matchO h0
    obtain ⟨h5, h6, h7⟩ := and3 h1
    obtain ⟨⟨pos, rfl⟩, hs⟩ := cmpX_some e0
    obtain ⟨q, hq, e1⟩ := List.any_eq_true.mp h5
    obtain ⟨e1, e2, e3, e4, e5⟩ := of_decide_eq_true e1
    obtain ⟨k1, kn, f, fd, k2, k3, Fk, Bk⟩ := C.tab.sps q hq
    rw [e1, e2] at k2
    rw [e1] at kn
    rw [e5, e3] at Fk
    exact PT.conv (pt_cmpR (op_eqO Fk k2 k3 kn (C.room.mono e4) Bk passL) (soE a C h6) (soE b C h7) (markP hs)) fun σ H Q => cv_teqC
  | .isN n a, P, X, W, ex, C, h => by
    cases ex <;> try (exact absurd h Bool.false_ne_true)
    rename_i x ops cs p
    match ops, cs, h with
    | [o], [.Constant .none k p2], h =>
      obtain ⟨h1, h2⟩ := and2 (show (decide (o = if n then .Is else .IsNot) && mE T P a x) = true from h)
      have e : o = if n then .Is else .IsNot := of_decide_eq_true h1
      subst e
      have hp := soP_of C h2 (soE a C h2)
      cases n with
      | true => exact PT.conv (pt_cmpR bo_isN hp pe_non rfl) fun σ H Q q => tAny_mono (cv_n1 q) fun y H1 q => ⟨rfl, q⟩
      | false => exact PT.conv (pt_cmpR bo_notN hp pe_non rfl) fun σ H Q q => tAny_mono (cv_n1 q) fun y H1 q => ⟨rfl, q⟩
  | .chn st a b c, P, X, W, ex, C, h => by
    cases ex <;> try (exact absurd h Bool.false_ne_true)
    rename_i x ops cs p
    match ops, cs, h with
    | [.LtE, o], [y, z], h =>
      have h0 : (decide (o = if st then .Lt else .LtE) && (mE T P a x && (mE T P b y && mE T P c z))) = true := h
      obtain ⟨h1, h2⟩ := and2 h0
      obtain ⟨h3, h4, h5⟩ := and3 h2
      have e : o = if st then .Lt else .LtE := of_decide_eq_true h1
      subst e
      cases st with
      | true => exact PT.conv (pt_chain op_le op_lt (soE a C h3) (soE b C h4) (soE c C h5) (nomark _)) fun σ H Q => cv_tchn
      | false => exact PT.conv (pt_chain op_le op_le (soE a C h3) (soE b C h4) (soE c C h5) (nomark _)) fun σ H Q => cv_tchn
theorem soO : ∀ (o : Option E) {P : Pl} {X : Cx} {W : WX} {ex : Option Expr}, Ctx T Φ P X W → mO T P o ex = true → PO X ex (tO Φ X W o)
  | none, P, X, W, ex, C, h => by
    cases ex with
    | none => exact ⟨fun pins s σ H Q I q => po_none.run pins s σ H Q I (cv_on q)⟩
    | some x => exact absurd h Bool.false_ne_true
  | some e, P, X, W, ex, C, h => by
    cases ex with
    | none => exact absurd h Bool.false_ne_true
    | some x => exact ⟨fun pins s σ H Q I q => (po_some (soE e C (show mE T P e x = true from h))).run pins s σ H Q I (cv_o q)⟩
theorem soAll : ∀ (es : List E), AllE T Φ es
  | [] => fun e he => by cases he
  | e :: es => fun e' he {P X W ex} C h => by
    rcases List.mem_cons.mp he with q | q
    · rw [q] at h ⊢
      exact soE e C h
    · exact soAll es e' q C h
theorem soEs : ∀ (es : List E) {P : Pl} {X : Cx} {W : WX} {xs : List Expr}, Ctx T Φ P X W → mEs T P es xs = true → PA X xs (tL Φ X W es)
  | [], P, X, W, xs, C, h => by
    cases xs with
    | nil => exact PA.conv pa_nil fun σ H Q => cv_nil
    | cons => exact absurd h Bool.false_ne_true
  | e :: es, P, X, W, xs, C, h => by
    cases xs with
    | nil => exact absurd h Bool.false_ne_true
    | cons x xs =>
      obtain ⟨h1, h2, h3⟩ := and3 (show (plainA x && (mE T P e x && mEs T P es xs)) = true from h)
      exact PA.conv (pa_cons (soE e C h2) (soEs es C h3) (starP h1)) fun σ H Q => cv_cons
end
end
end TL

set_option Elab.async false
set_option linter.all false
set_option maxRecDepth 100000
set_option maxHeartbeats 4000000
/-! LTZ: readings of statements. -/
namespace TL
open PySem PySem.Spec PyProof.Rows L2
section
variable (F : Fr) (W : WX) (D : Ends)
/-- what a statement's end must satisfy -/
def SatS (G : Hp) (A : List Addr) (r : Res Fl) : Prop := match r with
  | .ok .nx s => ∀ σ' G' A' H', Le G A G' A' → Rel F G' A' [] s σ' H' → D.nx σ' H'
  | .ok .brk s => ∀ σ' G' A' H', Le G A G' A' → Rel F G' A' [] s σ' H' → D.bk σ' H'
  | .ok (.ret v fr) s => ∀ x σ' G' A' H', Le G A G' A' → Got F [] s σ' G' A' H' v fr x → D.rt x H'
  | .ex c fs s => ∀ d σ' G' A' H', Le G A G' A' → Rel F G' A' [] s σ' H' → ExcAt F G' A' fs d → W (.ref (He.ga F.K c)) d σ' H'
  | .bad => False
end
section
variable {F : Fr} {W : WX} {D : Ends} {G G' : Hp} {A A' : List Addr} {σ : St} {H : Hp} {α β : Type}
theorem SatS.mono {r : Res Fl} (h : SatS F W D G A r) (l : Le G A G' A') : SatS F W D G' A' r := by
  cases r with
  | ok f s => cases f with
    | nx => exact fun σ' G2 A2 H' l2 => h σ' G2 A2 H' (l.trans l2)
    | brk => exact fun σ' G2 A2 H' l2 => h σ' G2 A2 H' (l.trans l2)
    | ret v fr => exact fun x σ' G2 A2 H' l2 => h x σ' G2 A2 H' (l.trans l2)
  | ex c fs s => exact fun d σ' G2 A2 H' l2 => h d σ' G2 A2 H' (l.trans l2)
  | bad => exact h
/-- an expression ahead -/
theorem SatS.bind {R : α → Sta → Hp → List Addr → Hp → β → Prop} {r : Res α} {f : α → Sta → Res Fl} (h : SatS F W D G A (r.bind f)) :
    Sat F W σ R G A r (fun y H1 => ∃ a s1 G1 A1, r = .ok a s1 ∧ Le G A G1 A1 ∧ R a s1 G1 A1 H1 y ∧ SatS F W D G1 A1 (f a s1)) := by
  cases r with
  | ok a s => exact fun y G1 A1 H1 l z => ⟨a, s, G1, A1, rfl, l, z, SatS.mono h l⟩
  | ex c fs s => exact fun d G1 A1 H1 l r1 e => h d σ G1 A1 H1 l r1 e
  | bad => exact h
theorem SatS.opt {o : Option α} {s : Sta} {f : α → Sta → Res Fl} (h : SatS F W D G A ((optR o s).bind f)) : ∃ a, o = some a ∧ SatS F W D G A (f a s) := by
  cases o with
  | none => exact h.elim
  | some a => exact ⟨a, rfl, h⟩
end
section
variable (Φ : Fns) (X : Cx) (W : WX)
def tS (f : Sta → Res Fl) : TS := fun D σ H => ∃ (F : Fr) (G : Hp) (A : List Addr) (s : Sta), F.w = X.w ∧ F.K = X.K ∧ Rel F G A [] s σ H ∧ SatS F W D G A (f s)
/-- a value that is handed over -/
abbrev tM (e : E) : TE := tAny X W RV (evM Φ e)
end
section
variable {T : Tab} {Φ : Fns} {P : Pl} {X : Cx} {W : WX} {σ : St} {H : Hp}
theorem PS.conv {st : Stmt} {t t' : TS} (h : PS X st t) (c : ∀ D σ H, t' D σ H → t D σ H) : PS X st t' := ⟨fun pins s σ H D I q => h.run pins s σ H D I (c D σ H q)⟩
theorem PSs.conv {st : List Stmt} {t t' : TS} (h : PSs X st t) (c : ∀ D σ H, t' D σ H → t D σ H) : PSs X st t' := ⟨fun pins s σ H D I q => h.run pins s σ H D I (c D σ H q)⟩
theorem cv_mvar {i : Nat} {Q : VK} (h : tM Φ X W (.var i) σ H Q) : tVar i σ H Q := by
  obtain ⟨F, G, A, τ, s, hw, hK, r, h⟩ := h
  cases hs : s.ρ[i]? with
  | none => simp only [evM, hs] at h; exact h.elim
  | some b =>
    simp only [evM, hs] at h
    cases b with
    | e => exact h.elim
    | fz v =>
      obtain ⟨x, hx, q⟩ := r.slot i _ hs
      exact ⟨x, hx, h x G A H Le.refl ⟨r, q⟩⟩
    | own v =>
      obtain ⟨a, ha, r'⟩ := r.take hs
      exact ⟨_, ha, h _ G A H Le.refl ⟨a, rfl, r'⟩⟩
theorem cv_m {e : E} (he : ∀ i, e ≠ .var i) {Q : VK} (h : tM Φ X W e σ H Q) : tV Φ X W e σ H Q := by
  obtain ⟨F, G, A, τ, s, hw, hK, r, h⟩ := h
  have e1 : evM Φ e s = ev Φ e s := by cases e <;> first | rfl | exact absurd rfl (he _)
  rw [e1] at h
  exact ⟨F, G, A, τ, s, hw, hK, r, h⟩
theorem soM (C : Ctx T Φ P X W) {e : E} {ex : Expr} (h : mE T P e ex = true) : PE X ex (tM Φ X W e) := by
  by_cases c : ∃ i, e = .var i
  · obtain ⟨i, rfl⟩ := c
    cases ex <;> try (exact absurd h Bool.false_ne_true)
    rename_i x p
    obtain ⟨h1, h2, h3, h4⟩ := rd_facts C (show rdB P i x = true from h)
    exact PE.conv (pe_var h1 h2 h3 h4) fun σ H Q => cv_mvar
  · exact PE.conv (soE e C h) fun σ H Q => cv_m fun i e => c ⟨i, e⟩
/-- a slot takes what came -/
theorem set_got {F : Fr} {G : Hp} {A : List Addr} {τ : Tmp} {s : Sta} {v : Val} {fr : Bool} {x : V} {i : Nat} (g : Got F τ s σ G A H v fr x) (hi : i < s.ρ.length) : Rel F G A τ ⟨s.ρ.set i (if fr then .own v else .fz v), s.w⟩ (σ.set i (some x)) H := by
  cases fr with
  | true => obtain ⟨a, rfl, r⟩ := g; exact r.setOwn i (by rw [← r.len]; exact hi)
  | false => exact g.1.setFz i g.2 (by rw [← g.1.len]; exact hi)
theorem cs_set {i : Nat} {e : E} {D : Ends} (h : tS X W (evS Φ (.set i e)) D σ H) : tM Φ X W e σ H fun x H1 => D.nx (σ.set i (some x)) H1 := by
  obtain ⟨F, G, A, s, hw, hK, r, h⟩ := h
  refine ⟨F, G, A, [], s, hw, hK, r, (SatS.bind (show SatS F W D G A ((evM Φ e s).bind _) from h)).imp fun x H1 ⟨⟨v, fr⟩, s1, G1, A1, _, l, g, h2⟩ => ?_⟩
  have h3 : SatS F W D G1 A1 (if i < s1.ρ.length then .ok .nx ⟨s1.ρ.set i (if fr then .own v else .fz v), s1.w⟩ else .bad) := h2
  by_cases c : i < s1.ρ.length
  · rw [if_pos c] at h3
    exact h3 _ G1 A1 H1 Le.refl (set_got g c)
  · rw [if_neg c] at h3; exact h3.elim
theorem cs_expr {e : E} {D : Ends} (h : tS X W (evS Φ (.expr e)) D σ H) : tV Φ X W e σ H fun _ H1 => D.nx σ H1 := by
  obtain ⟨F, G, A, s, hw, hK, r, h⟩ := h
  refine ⟨F, G, A, [], s, hw, hK, r, (SatS.bind (show SatS F W D G A ((ev Φ e s).bind _) from h)).imp fun x H1 ⟨p, s1, G1, A1, _, l, g, h2⟩ => ?_⟩
  exact h2 _ G1 A1 H1 Le.refl (Got.rel g)
theorem cs_ret {e : E} {D : Ends} (h : tS X W (evS Φ (.ret e)) D σ H) : tM Φ X W e σ H D.rt := by
  obtain ⟨F, G, A, s, hw, hK, r, h⟩ := h
  refine ⟨F, G, A, [], s, hw, hK, r, (SatS.bind (show SatS F W D G A ((evM Φ e s).bind _) from h)).imp fun x H1 ⟨⟨v, fr⟩, s1, G1, A1, _, l, g, h2⟩ => ?_⟩
  exact h2 x σ G1 A1 H1 Le.refl g
theorem cs_ite {c : Ts} {a b : List S} {D : Ends} (h : tS X W (evS Φ (.ite c a b)) D σ H) : tIfS (tB Φ X W c) (tS X W (evSs Φ a)) (tS X W (evSs Φ b)) D σ H := by
  obtain ⟨F, G, A, s, hw, hK, r, h⟩ := h
  refine ⟨F, G, A, [], s, hw, hK, r, (SatS.bind (show SatS F W D G A ((evT Φ c s).bind _) from h)).imp fun k H1 ⟨k', s1, G1, A1, _, l, ⟨r1, ek⟩, h2⟩ => ?_⟩
  subst ek
  cases k with
  | true => exact ⟨F, G1, A1, s1, hw, hK, r1, h2⟩
  | false => exact ⟨F, G1, A1, s1, hw, hK, r1, h2⟩
/-- one statement behind another -/
theorem cs_seq {a : S} {rest : List S} {D : Ends} (h : tS X W (evSs Φ (a :: rest)) D σ H) : tSeq (tS X W (evS Φ a)) (tS X W (evSs Φ rest)) D σ H := by
  obtain ⟨F, G, A, s, hw, hK, r, h⟩ := h
  refine ⟨F, G, A, s, hw, hK, r, ?_⟩
  have h1 : SatS F W D G A ((evS Φ a s).bind fun f s => match f with | .nx => evSs Φ rest s | f => .ok f s) := h
  cases e : evS Φ a s with
  | bad => rw [e] at h1; exact h1.elim
  | ex c fs s1 => rw [e] at h1; exact h1
  | ok f s1 =>
    rw [e] at h1
    cases f with
    | nx => exact fun σ' G' A' H' l r' => ⟨F, G', A', s1, hw, hK, r', SatS.mono h1 l⟩
    | brk => exact h1
    | ret v fr => exact h1
theorem cs_nil {D : Ends} (h : tS X W (evSs Φ []) D σ H) : tNext D σ H := by
  obtain ⟨F, G, A, s, hw, hK, r, h⟩ := h
  exact h σ G A H Le.refl r
/-- in a loop -/
theorem cs_while {c : Ts} {body : List S} {D : Ends} (h : tS X W (evS Φ (.while_ c body)) D σ H) : tWhile (tB Φ X W c) (tS X W (evSs Φ body)) D σ H := by
  obtain ⟨F, G, A, s, hw, hK, r, h⟩ := h
  have h0 : SatS F W D G A (whileN (evT Φ c) (evSs Φ body) FUEL s) := h
  refine ⟨fun n σ H => ∃ (G : Hp) (A : List Addr) (s : Sta), Rel F G A [] s σ H ∧ SatS F W D G A (whileN (evT Φ c) (evSs Φ body) n s), ⟨FUEL, G, A, s, r, h0⟩, fun n σ H ⟨G, A, s, r, h⟩ => ?_⟩
  cases n with
  | zero => exact h.elim
  | succ n =>
    refine ⟨F, G, A, [], s, hw, hK, r, (SatS.bind (show SatS F W D G A ((evT Φ c s).bind _) from h)).imp fun k H1 ⟨k', s1, G1, A1, _, l, ⟨r1, ek⟩, h2⟩ => ?_⟩
    subst ek
    cases k with
    | false =>
      rw [if_neg Bool.false_ne_true]
      exact h2 σ G1 A1 H1 Le.refl r1
    | true =>
      rw [if_pos rfl]
      have h3 : SatS F W D G1 A1 ((evSs Φ body s1).bind fun f s => (match f with | .nx => whileN (evT Φ c) (evSs Φ body) n s | .brk => .ok .nx s | .ret v fr => .ok (.ret v fr) s)) := h2
      refine ⟨fun σ H => ∃ (G : Hp) (A : List Addr) (s : Sta), Rel F G A [] s σ H ∧ SatS F W D G A (whileN (evT Φ c) (evSs Φ body) n s), fun σ' H' p => ⟨n, Nat.lt_succ_self n, p⟩, F, G1, A1, s1, hw, hK, r1, ?_⟩
      cases e : evSs Φ body s1 with
      | bad => rw [e] at h3; exact h3.elim
      | ex c fs s2 => rw [e] at h3; exact h3
      | ok f s2 =>
        rw [e] at h3
        cases f with
        | nx => exact fun σ' G' A' H' l' r' => ⟨G', A', s2, r', SatS.mono h3 l'⟩
        | brk => exact h3
        | ret v fr => exact h3
theorem cs_for {tg : Tg} {wk : Wk} {src : List E} {body : List S} {D : Ends} (h : tS X W (evS Φ (.for_ tg wk src body)) D σ H) : tFor (tW Φ X W wk src) (gTg X tg) (tS X W (evSs Φ body)) D σ H := by
  obtain ⟨F, G, A, s, hw, hK, r, h⟩ := h
  have h0 : SatS F W D G A (((evs Φ src s).bind fun vs s => optR (walk wk vs) s).bind fun its s => forN tg (evSs Φ body) its s) := by
    rw [bind_assoc]; exact h
  refine ⟨F, G, A, [], s, hw, hK, r, (SatS.bind h0).imp fun J H1 ⟨its, s1, G1, A1, _, l, ⟨r1, st⟩, h2⟩ => ?_⟩
  let Pv : Nat → St → Hp → Prop := fun i σ H => ∃ (G : Hp) (A : List Addr) (s : Sta), Le G1 A1 G A ∧ Rel F G A [] s σ H ∧ SatS F W D G A (forN tg (evSs Φ body) (its.drop i) s)
  refine ⟨fun i m σ H => m = its.length - i ∧ i ≤ its.length ∧ Pv i σ H, ⟨its.length, by simp, Nat.zero_le _, G1, A1, s1, Le.refl, r1, h2⟩, ?_⟩
  rintro i m σ2 H2 ⟨rfl, hi, G2, A2, s2, l2, r2, h3⟩
  obtain ⟨go, stop⟩ := st i H2 G2 A2 _ s2 _ l2 r2
  by_cases hlt : i < its.length
  · obtain ⟨g1, g2⟩ := go _ (List.getElem?_eq_getElem hlt)
    refine .inr ⟨g1, Pv (i + 1), fun σ' H' p => ⟨its.length - (i + 1), by omega, rfl, hlt, p⟩, fun x H' y => ?_⟩
    obtain ⟨G3, l3, r3, q3⟩ := g2 x H' y
    rw [List.drop_eq_getElem_cons hlt] at h3
    have h4 : SatS F W D G2 A2 (match setTg tg its[i] s2.ρ with | none => .bad | some ρ => (evSs Φ body ⟨ρ, s2.w⟩).bind fun f s => (match f with | .nx => forN tg (evSs Φ body) (its.drop (i + 1)) s | .brk => .ok .nx s | .ret v fr => .ok (.ret v fr) s)) := h3
    cases eρ : setTg tg its[i] s2.ρ with
    | none => rw [eρ] at h4; exact h4.elim
    | some ρ' =>
      rw [eρ] at h4
      refine ⟨F, G3, A2, [], s2, its[i], ρ', hw, hK, r3, q3, eρ, fun σ4 o4 r4 => ⟨F, G3, A2, ⟨ρ', s2.w⟩, hw, hK, r4, ?_⟩⟩
      have h5 : SatS F W D G3 A2 ((evSs Φ body ⟨ρ', s2.w⟩).bind fun f s => (match f with | .nx => forN tg (evSs Φ body) (its.drop (i + 1)) s | .brk => .ok .nx s | .ret v fr => .ok (.ret v fr) s)) := SatS.mono h4 l3
      cases e : evSs Φ body ⟨ρ', s2.w⟩ with
      | bad => rw [e] at h5; exact h5.elim
      | ex c fs s5 => rw [e] at h5; exact h5
      | ok f s5 =>
        rw [e] at h5
        cases f with
        | nx => exact fun σ' G' A' H' l' r' => ⟨G', A', s5, (l2.trans l3).trans l', r', SatS.mono h5 l'⟩
        | brk => exact h5
        | ret v fr => exact h5
  · have e : i = its.length := by omega
    subst e
    rw [List.drop_length] at h3
    exact .inl ⟨stop rfl, h3 σ2 G2 A2 H2 Le.refl r2⟩
theorem cs_kill {is : List Nat} {rest : List S} {D : Ends} (h : tS X W (evSs Φ (.kill is :: rest)) D σ H) : tS X W (evSs Φ rest) D σ H := by
  obtain ⟨F, G, A, s, hw, hK, r, h⟩ := h
  have kl : ∀ is : List Nat, ∃ G', Le G A G' A ∧ Rel F G' A [] ⟨killS s.ρ is, s.w⟩ σ H := fun is => by
    induction is with
    | nil => exact ⟨G, Le.refl, r⟩
    | cons i is ih =>
      obtain ⟨G1, l1, r1⟩ := ih
      show ∃ G', Le G A G' A ∧ Rel F G' A [] ⟨frzR i (killS s.ρ is) (killS s.ρ is)[i]?, s.w⟩ σ H
      cases e : (killS s.ρ is)[i]? with
      | none => exact ⟨G1, l1, r1⟩
      | some b =>
        cases b with
        | own v =>
          obtain ⟨_, G2, _, l2, r2, _⟩ := r1.fix e
          exact ⟨G2, l1.trans l2, r2⟩
        | _ => exact ⟨G1, l1, r1⟩
  obtain ⟨G1, l1, r1⟩ := kl is
  exact ⟨F, G1, A, _, hw, hK, r1, SatS.mono h l1⟩
end
end TL

set_option Elab.async false
set_option linter.all false
set_option maxRecDepth 100000
set_option maxHeartbeats 4000000
/-! LUA: readings of statements (2): stores. -/
namespace TL
open PySem PySem.Spec PyProof.Rows L2
section
variable {F : Fr} {G : Hp} {A : List Addr} {τ : Tmp} {s : Sta} {σ : St} {H : Hp}
/-- the two uppermost temporaries, swapped -/
theorem Rel.swap {p q : Addr × Val} (r : Rel F G A (p :: q :: τ) s σ H) : Rel F G A (q :: p :: τ) s σ H := by
  let f : Cell → Cell := fun c => match c with
    | .tmp 0 => .tmp 1
    | .tmp 1 => .tmp 0
    | c => c
  have key : ∀ c, cellAt s (q :: p :: τ) σ A c = cellAt s (p :: q :: τ) σ A (f c) := fun c => by
    cases c with
    | tmp i =>
      match i with
      | 0 => rfl
      | 1 => rfl
      | i + 2 => rfl
    | slot i => rfl
    | obj i => rfl
  have ff : ∀ c, f (f c) = c := fun c => by
    cases c with
    | tmp i => match i with
      | 0 => rfl
      | 1 => rfl
      | i + 2 => rfl
    | slot i => rfl
    | obj i => rfl
  have finj : ∀ c c', f c = f c' → c = c' := fun c c' h => by rw [← ff c, h, ff c']
  have fobj : ∀ c, (∀ i, c ≠ .obj i) → ∀ i, f c ≠ .obj i := fun c h i e => by
    cases c with
    | tmp j => match j, e with
      | 0, e => cases e
      | 1, e => cases e
      | j + 2, e => cases e
    | slot j => cases e
    | obj j => exact h j rfl
  exact ⟨r.ext, r.sub, r.len, r.wlen, r.slot, fun c a v e => r.cell (f c) a v (by rw [← key]; exact e), fun c c' a v v' e e' => finj c c' (r.inj (f c) (f c') a v v' (by rw [← key]; exact e) (by rw [← key]; exact e')), fun c a v e h => r.new (f c) a v (by rw [← key]; exact e) (fobj c h), r.old⟩
end
section
variable {T : Tab} {Φ : Fns} {P : Pl} {X : Cx} {W : WX} {σ : St} {H : Hp}
/-- two values that are handed over -/
def Two (F : Fr) (G : Hp) (A : List Addr) (s : Sta) (σ : St) (H : Hp) (v : Val) (fr : Bool) (x : V) (u : Val) (fr2 : Bool) (y : V) : Prop := match fr with
  | true => ∃ p, x = .ref p ∧ Got F [(p, v)] s σ G A H u fr2 y
  | false => Got F [] s σ G A H u fr2 y ∧ Rep F.w F.K G A v x
theorem m_two {a b : E} {f : Val × Bool → Val × Bool → Sta → Res Fl} {D : Ends} (h : tS X W (fun s => (evM Φ a s).bind fun x s => (evM Φ b s).bind fun y s => f x y s) D σ H) :
    tM Φ X W a σ H fun x H1 => tM Φ X W b σ H1 fun y H2 => ∃ (F : Fr) (G : Hp) (A : List Addr) (s : Sta) (v u : Val × Bool), F.w = X.w ∧ F.K = X.K ∧ Two F G A s σ H2 v.1 v.2 x u.1 u.2 y ∧ SatS F W D G A (f v u s) := by
  obtain ⟨F, G, A, s, hw, hK, r, h⟩ := h
  refine ⟨F, G, A, [], s, hw, hK, r, (SatS.bind h).imp fun x H1 ⟨⟨v, fr⟩, s1, G1, A1, _, l, g, h2⟩ => ?_⟩
  cases fr with
  | true =>
    obtain ⟨p, rfl, r1⟩ := g
    refine ⟨F, G1, A1, [(p, v)], s1, hw, hK, r1, ?_⟩
    cases e : evM Φ b s1 with
    | bad => rw [e] at h2; exact h2.elim
    | ex c fs s2 => rw [e] at h2; exact fun d G2 A2 H2 l2 r2 ea => h2 d σ G2 A2 H2 l2 r2 ea
    | ok u s2 =>
      rw [e] at h2
      exact fun y G2 A2 H2 l2 g2 => ⟨F, G2, A2, s2, (v, true), u, hw, hK, ⟨p, rfl, g2⟩, SatS.mono h2 l2⟩
  | false =>
    refine ⟨F, G1, A1, [], s1, hw, hK, g.1, (SatS.bind h2).imp fun y H2 ⟨u, s2, G2, A2, _, l2, g2, h3⟩ => ?_⟩
    exact ⟨F, G2, A2, s2, (v, false), u, hw, hK, ⟨g2, Rep.mono l2 _ _ g.2⟩, h3⟩
theorem cs_par {i j : Nat} {a b : E} {D : Ends} (hij : i ≠ j) (h : tS X W (evS Φ (.par i j a b)) D σ H) : tPar i j (tCons (tM Φ X W a) (tCons (tM Φ X W b) tNil)) D σ H := by
  refine tAny_mono (m_two h) fun x H1 q => tAny_mono q fun y H2 ⟨F, G, A, s, v, u, hw, hK, t, h3⟩ => ⟨x, y, rfl, ?_⟩
  have h4 : SatS F W D G A ((setV j u.1 u.2 s).bind fun _ s => setV i v.1 v.2 s) := h3
  unfold setV at h4
  by_cases cj : j < s.ρ.length
  · rw [if_pos cj] at h4
    have h5 : SatS F W D G A (if i < (s.ρ.set j (if u.2 then .own u.1 else .fz u.1)).length then .ok .nx ⟨(s.ρ.set j (if u.2 then .own u.1 else .fz u.1)).set i (if v.2 then .own v.1 else .fz v.1), s.w⟩ else .bad) := h4
    by_cases ci : i < (s.ρ.set j (if u.2 then .own u.1 else .fz u.1)).length
    · rw [if_pos ci] at h5
      rw [List.set_comm _ _ hij]
      obtain ⟨v, fr⟩ := v
      cases fr with
      | true =>
        obtain ⟨p, rfl, g⟩ := t
        exact h5 _ G A H2 Le.refl ((set_got g cj).setOwn i (by rw [← (set_got g cj).len]; exact ci))
      | false =>
        exact h5 _ G A H2 Le.refl ((set_got t.1 cj).setFz i t.2 (by rw [← (set_got t.1 cj).len]; exact ci))
    · rw [if_neg ci] at h5; exact h5.elim
  · rw [if_neg cj] at h4; exact h4.elim
theorem cs_unpack {tg : Tg} {e : E} {D : Ends} (h : tS X W (evS Φ (.unpack tg e)) D σ H) : tAsg (tV Φ X W e) (gTg X tg) D σ H := by
  obtain ⟨F, G, A, s, hw, hK, r, h⟩ := h
  refine ⟨F, G, A, [], s, hw, hK, r, (SatS.bind (show SatS F W D G A ((ev Φ e s).bind _) from h)).imp fun x H1 ⟨p, s1, G1, A1, _, l, g, h2⟩ => ?_⟩
  obtain ⟨G2, l2, r2, q2⟩ := Got.fix g
  cases eρ : setTg tg p.1 s1.ρ with
  | none => rw [eρ] at h2; exact h2.elim
  | some ρ' =>
    rw [eρ] at h2
    exact ⟨F, G2, A1, [], s1, p.1, ρ', hw, hK, r2, q2, eρ, fun σ' _ r' => h2 σ' G2 A1 H1 l2 r'⟩
/-- a target takes what came: the value, then the rest -/
def gM (X : Cx) (tg : Tg) (K : St → Hp → Prop) (x : V) (σ : St) (H : Hp) : Prop := ∃ (F : Fr) (G : Hp) (A : List Addr) (τ : Tmp) (s s' : Sta) (v : Val) (fr : Bool), F.w = X.w ∧ F.K = X.K ∧ Got F τ s σ G A H v fr x ∧ setM tg v fr s = .ok .nx s' ∧
  ∀ σ', Rel F G A τ s' σ' H → K σ' H
theorem cg_m {tg : Tg} {x : V} {Q : St → Hp → Prop} (h : gM X tg Q x σ H) : (match tg with | .nm i => gName i x σ H Q | .tup ts => gTg X (.tup ts) x σ H Q) := by
  obtain ⟨F, G, A, τ, s, s', v, fr, hw, hK, g, e, k⟩ := h
  cases tg with
  | nm i =>
    have e' : (if i < s.ρ.length then .ok .nx ⟨s.ρ.set i (if fr then .own v else .fz v), s.w⟩ else .bad) = (.ok .nx s' : Res Fl) := e
    by_cases c : i < s.ρ.length
    · rw [if_pos c] at e'
      cases e'
      exact k _ (set_got g c)
    · rw [if_neg c] at e'; cases e'
  | tup ts =>
    have e' : (if fr = true then .bad else match setTg (.tup ts) v s.ρ with | some ρ => .ok .nx ⟨ρ, s.w⟩ | none => .bad) = (.ok .nx s' : Res Fl) := e
    cases fr with
    | true => rw [if_pos rfl] at e'; cases e'
    | false =>
      rw [if_neg Bool.false_ne_true] at e'
      cases eρ : setTg (.tup ts) v s.ρ with
      | none => rw [eρ] at e'; cases e'
      | some ρ' =>
        rw [eρ] at e'
        cases e'
        exact ⟨F, G, A, τ, s, v, ρ', hw, hK, g.1, g.2, eρ, fun σ' _ r' => k σ' r'⟩
theorem setM_ok {tg : Tg} {v : Val} {fr : Bool} {s : Sta} : (∃ s', setM tg v fr s = .ok .nx s') ∨ setM tg v fr s = .bad := by
  cases tg with
  | nm i =>
    show (∃ s', (if i < s.ρ.length then Res.ok Fl.nx ⟨s.ρ.set i (if fr then .own v else .fz v), s.w⟩ else .bad) = .ok .nx s') ∨ _ = _
    by_cases c : i < s.ρ.length
    · exact .inl ⟨_, if_pos c⟩
    · exact .inr (if_neg c)
  | tup ts =>
    cases fr with
    | true => exact .inr rfl
    | false =>
      cases eρ : setTg (.tup ts) v s.ρ with
      | none => exact .inr (by simp [setM, eρ])
      | some ρ' => exact .inl ⟨⟨ρ', s.w⟩, by simp [setM, eρ]⟩
end
end TL

set_option Elab.async false
set_option linter.all false
set_option maxRecDepth 100000
set_option maxHeartbeats 4000000
/-! LUB: readings of statements (3): two at once, items, fields. -/
namespace TL
open PySem PySem.Spec PyProof.Rows L2
section
variable {T : Tab} {Φ : Fns} {P : Pl} {X : Cx} {W : WX} {σ : St} {H : Hp}
theorem Got.lay {F : Fr} {G : Hp} {A : List Addr} {τ : Tmp} {s : Sta} {v : Val} {fr : Bool} {x : V} {p : Addr} {o : HO} (g : Got F τ s σ G A H v fr x) (hp : H p = none) : Got F τ s σ G A (upd H p o) v fr x := by
  cases fr with
  | true => obtain ⟨a, e, r⟩ := g; exact ⟨a, e, r.lay hp⟩
  | false => exact ⟨g.1.lay hp, g.2⟩
theorem Two.lay {F : Fr} {G : Hp} {A : List Addr} {s : Sta} {v u : Val} {fr fr2 : Bool} {x y : V} {p : Addr} {o : HO} (t : Two F G A s σ H v fr x u fr2 y) (hp : H p = none) : Two F G A s σ (upd H p o) v fr x u fr2 y := by
  cases fr with
  | true => obtain ⟨q, e, g⟩ := t; exact ⟨q, e, g.lay hp⟩
  | false => exact ⟨t.1.lay hp, t.2⟩
theorem two_first {F : Fr} {G : Hp} {A : List Addr} {s : Sta} {v u : Val} {fr fr2 : Bool} {x y : V} (t : Two F G A s σ H v fr x u fr2 y) :
    ∃ τ, Got F τ s σ G A H v fr x ∧ ∀ s' σ', Rel F G A τ s' σ' H → Got F [] s' σ' G A H u fr2 y := by
  cases fr with
  | true =>
    obtain ⟨p, rfl, g⟩ := t
    cases fr2 with
    | true =>
      obtain ⟨q, rfl, r⟩ := g
      exact ⟨[(q, u)], ⟨p, rfl, r.swap⟩, fun s' σ' r' => ⟨q, rfl, r'⟩⟩
    | false => exact ⟨[], ⟨p, rfl, g.1⟩, fun s' σ' r' => ⟨r', g.2⟩⟩
  | false =>
    cases fr2 with
    | true =>
      obtain ⟨q, rfl, r⟩ := t.1
      exact ⟨[(q, u)], ⟨r, t.2⟩, fun s' σ' r' => ⟨q, rfl, r'⟩⟩
    | false => exact ⟨[], ⟨t.1.1, t.2⟩, fun s' σ' r' => ⟨r', t.1.2⟩⟩
/-- a target's own reading -/
def gOf (X : Cx) : Tg → TG
  | .nm i => gName i
  | .tup ts => gTg X (.tup ts)
theorem cs_unpack2 {t u : Tg} {a b : E} {D : Ends} (h : tS X W (evS Φ (.unpack2 t u a b)) D σ H) :
    tAsg (tTup (tCons (tM Φ X W a) (tCons (tM Φ X W b) tNil))) (gTup X.K 2 (gCons (gOf X t) (gCons (gOf X u) gNil))) D σ H := by
  refine tAny_mono (m_two h) fun x H1 q => tAny_mono q fun y H2 ⟨F, G, A, s, v, z, hw, hK, tw, h3⟩ => ⟨by show 2 ≤ sizeLine; rw [sizeLine_eq]; decide, fun p hp => ⟨p, [x, y], rfl, .inl (.inl upd_same), rfl, x, [y], rfl, ?_⟩⟩
  have tw := tw.lay (o := .tup [x, y]) hp
  have h4 : SatS F W D G A ((setM t v.1 v.2 s).bind fun _ s => setM u z.1 z.2 s) := h3
  obtain ⟨τ, g1, k⟩ := two_first tw
  rcases setM_ok (tg := t) (v := v.1) (fr := v.2) (s := s) with ⟨s1, e1⟩ | e1
  · rw [e1] at h4
    have h5 : SatS F W D G A (setM u z.1 z.2 s1) := h4
    have := cg_m (X := X) (tg := t) (x := x) (Q := fun σ' H' => ∃ v r, [y] = v :: r ∧ gOf X u v σ' H' fun σ2 H3 => gNil r σ2 H3 D.nx) ⟨F, G, A, τ, s, s1, v.1, v.2, hw, hK, g1, e1, fun σ1 r1 => ⟨y, [], rfl, ?_⟩⟩
    · cases t <;> exact this
    · rcases setM_ok (tg := u) (v := z.1) (fr := z.2) (s := s1) with ⟨s2, e2⟩ | e2
      · rw [e2] at h5
        have := cg_m (X := X) (tg := u) (x := y) (Q := fun σ2 H3 => gNil [] σ2 H3 D.nx) ⟨F, G, A, [], s1, s2, z.1, z.2, hw, hK, k s1 σ1 r1, e2, fun σ2 r2 => ⟨rfl, h5 σ2 G A _ Le.refl r2⟩⟩
        cases u <;> exact this
      · rw [e2] at h5; exact h5.elim
  · rw [e1] at h4; exact h4.elim
/-! ### o[k] = v -/
def tPut (X : Cx) : TSet := fun o k v H Q => (∃ p xs i j, o = .ref p ∧ k = .int i ∧ H p = some (.lst xs) ∧ ixN xs.length i = some j ∧ Q (upd H p (.lst (xs.set j v)))) ∨
  ∃ (a : Addr) (G : Hp) (A : List Addr) (t : Bool) (kvs : List (NestedKey × Val)) (kk : NestedKey) (vv : Val), o = .ref a ∧ DAt X.w X.K G A H a t kvs ∧ (∀ b u, G b = some u → H b = some u) ∧ KeyV G t kk k ∧ Rep X.w X.K G A vv v ∧ kvs.length < sizeLine ∧
    ∀ es ep, RepD X.w X.K G A t (dPut kvs kk vv) es.toList → Q (upd H a (dictHO a es ep))
theorem put_ok (hu : X.A.units + 65 < cLine) : PSet X (tPut X) := by
  intro pins s σ H o k v ov kv u Q I ro rk rv h
  rcases h with ⟨p, xs, i, j, e1, e2, e3, e4, q⟩ | ⟨a, G, A, t, kvs, kk, vv, e1, d, sub, hk, hv, hl, q⟩
  · exact set_list pins s σ H o k v ov kv u Q I ro rk rv ⟨p, xs, i, j, e1, e2, e3, e4, q⟩
  · subst e1
    cases (show ov = Value.ref a from ro)
    exact dd_set (by omega) I sub d hk rk rv hv hl fun es ep s' I' rd => ⟨_, I', q es ep rd⟩
/-- a thing that may change, and its new state -/
theorem putI_of {F : Fr} {G : Hp} {A : List Addr} {s : Sta} {o : PV} {k v : Val} {D : Ends} {x y z : V} (hw : F.w = X.w) (hK : F.K = X.K) (r : Rel F G A [] s σ H) (p : PvAt F σ G A x o) (hk : Rep F.w F.K G A k y) (hv : Rep F.w F.K G A v z) (h : SatS F W D G A (putI o k v s)) :
    tPut X x y z H fun H' => D.nx σ H' := by
  obtain ⟨w, K, H0, G0, A0, l0⟩ := F
  dsimp only at hw hK
  subst hw hK
  -- the cell
  have go : ∀ {a : Addr} {cv : Val}, x = .ref a → (∃ u, H a = some u ∧ Body X.w X.K G A cv u a) → ∀ {cv' : Val}, putI.putC cv k v = some cv' → (∀ u', Body X.w X.K G A cv' u' a → D.nx σ (upd H a u')) → tPut X x y z H fun H' => D.nx σ H' := by
    intro a cv ex ⟨u, hu, hb⟩ cv' e fin
    subst ex
    cases cv with
    | lst vs =>
      obtain ⟨xs, rfl, hr⟩ := hb
      cases k <;> try (exact absurd (show (none : Option Val) = some _ from e) nofun)
      rename_i i
      have e' : ((ixN vs.length i).map fun j => Val.lst (vs.set j v)) = some cv' := e
      obtain ⟨j, e1, rfl⟩ := Option.map_eq_some_iff.mp e'
      exact .inl ⟨a, xs, i, j, rfl, hk, hu, by rw [hr.length]; exact e1, fin _ ⟨_, rfl, hr.set j hv⟩⟩
    | dct t kvs =>
      obtain ⟨es, ep, rfl, rd, nd, ln, lo⟩ := hb
      have e' : ((keyOf t k).bind fun kk => if kvs.length < sizeLine then some (Val.dct t (dPut kvs kk v)) else none) = some cv' := e
      obtain ⟨kk, e1, e2⟩ := Option.bind_eq_some_iff.mp e'
      by_cases c : kvs.length < sizeLine
      · rw [if_pos c] at e2
        cases e2
        refine .inr ⟨a, G, A, t, kvs, kk, v, rfl, ⟨es, ep, hu, rd, nd, ln, lo⟩, r.sub, keyV (H := H) e1 (.inl hk), hv, c, fun es' ep' rd' => fin _ ⟨es', ep', rfl, rd', nodup_dPut nd, ?_, lo⟩⟩
        have := length_dPut (kvs := kvs) (k := kk) (v := v)
        omega
      · rw [if_neg c] at e2; cases e2
    | _ => cases k <;> exact absurd (show (none : Option Val) = some _ from e) nofun
  cases o with
  | bor i =>
    cases hs : s.ρ[i]? with
    | none => simp only [putI, hs] at h; exact h.elim
    | some b =>
      cases b with
      | own cv =>
        simp only [putI, hs] at h
        obtain ⟨a, ha⟩ := r.slot i _ hs
        have hx : σ[i]? = some (some x) := p
        rw [ha] at hx
        cases hx
        cases e : putI.putC cv k v with
        | none => rw [e] at h; exact h.elim
        | some cv' =>
          rw [e] at h
          exact go rfl (r.cell (.slot i) a cv (by show slotC s.ρ σ i = _; unfold slotC; rw [hs, ha])).2 e fun u' hb => h σ G A _ Le.refl (r.writeSlot hs ha hb)
      | _ => simp only [putI, hs] at h; exact h.elim
  | val ov =>
    cases ov with
    | obj n =>
      cases hs : s.w[n]? with
      | none => simp only [putI, hs] at h; exact h.elim
      | some b =>
        cases b with
        | none => simp only [putI, hs] at h; exact h.elim
        | some cv =>
          simp only [putI, hs] at h
          obtain ⟨a, rfl, ha⟩ := (show Rep X.w X.K G A (.obj n) x from p)
          cases e : putI.putC cv k v with
          | none => rw [e] at h; exact h.elim
          | some cv' =>
            rw [e] at h
            exact go rfl (r.cell (.obj n) a cv (objC_some hs ha)).2 e fun u' hb => h σ G A _ Le.refl (r.writeObj hs ha hb)
    | _ => exact h.elim
theorem cs_setI {o k e : E} {D : Ends} (h : tS X W (evS Φ (.setI o k e)) D σ H) : tAsg (tV Φ X W e) (gSub (tP Φ X W o) (tV Φ X W k) (tPut X)) D σ H := by
  obtain ⟨F, G, A, s, hw, hK, r, h⟩ := h
  refine ⟨F, G, A, [], s, hw, hK, r, (SatS.bind (show SatS F W D G A ((ev Φ e s).bind _) from h)).imp fun z H1 ⟨v, s1, G1, A1, _, l, g, h2⟩ => ?_⟩
  obtain ⟨G2, l2, r2, q2⟩ := Got.fix g
  refine ⟨F, G2, A1, [], s1, hw, hK, r2, (SatS.bind (SatS.mono h2 l2)).imp fun x H2 ⟨po, s2, G3, A3, _, l3, ⟨r3, p3⟩, h3⟩ => ?_⟩
  refine ⟨F, G3, A3, [], s2, hw, hK, r3, (SatS.bind h3).imp fun y H3 ⟨kv, s3, G4, A4, _, l4, g4, h4⟩ => ?_⟩
  obtain ⟨G5, l5, r5, q5⟩ := Got.fix g4
  exact putI_of hw hK r5 ((p3.mono l4).mono l5) q5 (Rep.mono l5 _ _ (Rep.mono l4 _ _ (Rep.mono l3 _ _ q2))) (SatS.mono h4 l5)
def rAug (op : P2) : TIp := fun x y H Q => ∃ i j k, x = .int i ∧ y = .int j ∧ prim2 op (.int i) (.int j) = some (.int k, false) ∧ Q (.int k) H
theorem aug_add : PIp X .Add (rAug .add) := by
  intro pins s σ H x y v u Q I rx ry ⟨i, j, k, e1, e2, e3, q⟩
  obtain ⟨e4, _⟩ := pr_inj e3
  cases e4
  exact iop_add pins s σ H x y v u Q I rx ry ⟨i, j, e1, e2, q⟩
theorem aug_fdiv : PIp X .FloorDiv (rAug .fdiv) := by
  intro pins s σ H x y v u Q I rx ry ⟨i, j, k, e1, e2, e3, q⟩
  obtain ⟨c, e4, _⟩ := pr_ite e3
  cases e4
  exact iop_fdivW pins s σ H x y v u Q I rx ry ⟨i, j, e1, e2, c, q⟩
/-- a list's item, at the level of values -/
theorem pget_list : PGet X (rIxL X.K) := by
  intro pins s0 σ0 H0 ov iv vo vi Q0 I ro ri h0
  obtain ⟨ad, ys, i, z, rfl, rfl, hsq, hat, hq⟩ := h0
  cases ro
  obtain ⟨tk, rfl⟩ := ri
  obtain ⟨its, rv, lst, _⟩ := I.list hsq
  obtain ⟨j, s1, s2, s3, s4, s5⟩ := atI_get hat
  obtain ⟨zv, ez, rz⟩ := rv.get s2
  have len := rv.length; have l63 := line63
  have done : EP X pins σ0 Q0 zv s0 := ⟨z, H0, I, rz, hq⟩
  rcases Int.lt_or_le i 0 with neg | pos
  · rw [seqIndex_neg neg s4] at s1
    exact wpAny_getItem_list_neg lst.isList neg (by rw [List.size_toArray]; omega) (by omega) (by rw [List.size_toArray, ← len, Option.some.inj s1]; simpa using ez) done
  · rw [seqIndex_of pos s5] at s1
    exact wpAny_getItem_list lst.isList pos (by omega) (by rw [Option.some.inj s1]; simpa using ez) done
/-- o[k] += e, of ints -/
theorem cs_augI {o k e : E} {D : Ends} (h : tS X W (evS Φ (.augI o k e)) D σ H) : tAugS (tP Φ X W o) (tV Φ X W k) (tV Φ X W e) (rIxL X.K) (rAug .add) (tPut X) D σ H := by
  obtain ⟨F, G, A, s, hw, hK, r, h⟩ := h
  refine ⟨F, G, A, [], s, hw, hK, r, (SatS.bind (show SatS F W D G A ((pkOf o (ev Φ o) s).bind _) from h)).imp fun x H1 ⟨po, s1, G1, A1, _, l, ⟨r1, p1⟩, h2⟩ => ?_⟩
  refine ⟨F, G1, A1, [], s1, hw, hK, r1, (SatS.bind h2).imp fun y H2 ⟨kv, s2, G2, A2, _, l2, g2, h3⟩ => ?_⟩
  obtain ⟨G3, l3, r3, q3⟩ := Got.fix g2
  obtain ⟨ov, e1, h4⟩ := SatS.opt h3
  obtain ⟨xv, e2, h5⟩ := SatS.opt h4
  have vx := view_of r3 ((p1.mono l2).mono l3) e1
  obtain ⟨kw, kf⟩ := kv
  cases ov <;> try (exact absurd (show (none : Option Val) = some _ from e2) nofun)
  rename_i vs
  obtain ⟨i, rfl⟩ : ∃ i, kw = .int i := by cases kw <;> first | exact ⟨_, rfl⟩ | exact absurd (show (none : Option Val) = some _ from e2) nofun
  obtain ⟨a, xs, rfl, g1, g2'⟩ := vx.lst r3
  obtain ⟨z, hz, rz⟩ := atV_get (show atV vs i = some xv from e2) g2'
  refine ⟨a, xs, i, z, rfl, q3, sqL g1, hz, ?_⟩
  refine ⟨F, G3, A2, [], s2, hw, hK, r3, (SatS.bind (SatS.mono h5 l3)).imp fun u H5 ⟨yv, s3, G6, A6, _, l6, g6, h6⟩ => ?_⟩
  obtain ⟨G7, l7, r7, q7⟩ := Got.fix g6
  obtain ⟨yw, yf⟩ := yv
  obtain ⟨i2, j2, rfl, rfl⟩ : ∃ i2 j2, xv = .int i2 ∧ yw = .int j2 := by cases xv <;> cases yw <;> first | exact ⟨_, _, rfl, rfl⟩ | exact (show False from h6).elim
  have ez : z = .int i2 := rz
  have eu : u = .int j2 := q7
  subst ez eu
  have h7 : SatS F W D G6 A6 (putI po (.int i) (.int (i2 + j2)) s3) := h6
  have L : Le G2 A2 G7 A6 := l3.trans (l6.trans l7)
  exact ⟨i2, j2, i2 + j2, rfl, rfl, rfl, putI_of hw hK r7 ((p1.mono l2).mono L) (show Rep F.w F.K G7 A6 (.int i) y from q3) (show Rep F.w F.K G7 A6 (.int (i2 + j2)) (V.int (i2 + j2)) from rfl) (SatS.mono h7 l7)⟩
/-! ### o.f = v -/
theorem repF_put {w : World} {K : PySem.W.Frag} {G : Hp} {A : List Addr} {f : Str} {v : Val} {y : V} (hv : Rep w K G A v y) : ∀ {fs : List (Str × Val)} {gs : List (Str × V)}, RepF w K G A fs gs → RepF w K G A (putF.pF f v fs) (L2.putF f y gs)
  | [], gs, h => by rw [show gs = [] from h]; exact ⟨y, [], rfl, hv, rfl⟩
  | (g, u) :: r, gs, h => by
    obtain ⟨z, ds, rfl, h1, h2⟩ := h
    show RepF w K G A (if g = f then (g, v) :: r else (g, u) :: putF.pF f v r) (if g = f then (g, y) :: ds else (g, z) :: L2.putF f y ds)
    by_cases c : g = f
    · rw [if_pos c, if_pos c]; exact ⟨y, ds, rfl, hv, h2⟩
    · rw [if_neg c, if_neg c]; exact ⟨z, _, rfl, h1, repF_put hv h2⟩
theorem repF_len {w : World} {K : PySem.W.Frag} {G : Hp} {A : List Addr} : ∀ {fs : List (Str × Val)} {gs : List (Str × V)}, RepF w K G A fs gs → gs.length = fs.length
  | [], gs, h => by rw [show gs = [] from h]; rfl
  | (g, u) :: r, gs, h => by
    obtain ⟨z, ds, rfl, h1, h2⟩ := h
    rw [List.length_cons, List.length_cons, repF_len h2]
theorem cs_setF {o e : E} {c f : Str} {D : Ends} (hC : Cls X.K (He.ga X.K c)) (hn : NoAttr X.K (He.ga X.K c) f) (h : tS X W (evS Φ (.setF o c f e)) D σ H) : sFld X.K (tP Φ X W o) (tV Φ X W e) f D σ H := by
  obtain ⟨F, G, A, s, hw, hK, r, h⟩ := h
  refine ⟨F, G, A, [], s, hw, hK, r, (SatS.bind (show SatS F W D G A ((ev Φ e s).bind _) from h)).imp fun y H1 ⟨v, s1, G1, A1, _, l, g, h2⟩ => ?_⟩
  obtain ⟨G2, l2, r2, q2⟩ := Got.fix g
  refine ⟨F, G2, A1, [], s1, hw, hK, r2, (SatS.bind (SatS.mono h2 l2)).imp fun x H2 ⟨po, s2, G3, A3, _, l3, ⟨r3, p3⟩, h3⟩ => ?_⟩
  cases po with
  | bor i => exact h3.elim
  | val ov =>
    cases ov with
    | obj n =>
      cases hs : s2.w[n]? with
      | none => simp only [putF, hs] at h3; exact h3.elim
      | some b =>
        cases b with
        | none => simp only [putF, hs] at h3; exact h3.elim
        | some cv =>
          cases cv with
          | ins c' fs =>
            simp only [putF, hs] at h3
            by_cases cc : c' = c ∧ fs.length < 1000
            · rw [if_pos cc] at h3
              obtain ⟨rfl, cl⟩ := cc
              obtain ⟨a, rfl, ha⟩ := (show Rep F.w F.K G3 A3 (.obj n) x from p3)
              obtain ⟨_, u, hu, dx, gs, rfl, hf⟩ := r3.cell (.obj n) a _ (objC_some hs ha)
              refine ⟨a, _, dx, gs, rfl, by rw [hu, hK], hC, hn, by rw [repF_len hf]; exact cl, ?_⟩
              refine h3 σ G3 A3 _ Le.refl (r3.writeObj hs ha ⟨dx, L2.putF f y gs, ?_, repF_put (Rep.mono l3 _ _ q2) hf⟩)
              rw [hK]
            · rw [if_neg cc] at h3; exact h3.elim
          | _ => simp only [putF, hs] at h3; exact h3.elim
    | _ => exact h3.elim
/-! ### x op= e -/
theorem cs_aug {i : Nat} {op : P2} {e : E} {D : Ends} (h : tS X W (evS Φ (.aug i op e)) D σ H) : tAug i (tV Φ X W e) (rAug op) D σ H := by
  obtain ⟨F, G, A, s, hw, hK, r, h⟩ := h
  cases hs : s.ρ[i]? with
  | none => simp only [evS, hs] at h; exact h.elim
  | some b =>
    cases b with
    | fz v =>
      cases v with
      | int a =>
        simp only [evS, hs] at h
        obtain ⟨x, hx, q⟩ := r.slot i _ hs
        cases (show x = .int a from q)
        refine ⟨_, hx, F, G, A, [], s, hw, hK, r, (SatS.bind h).imp fun y H1 ⟨⟨u, fr⟩, s1, G1, A1, _, l, g, h2⟩ => ?_⟩
        cases u with
        | int b =>
          obtain ⟨rfl, r1⟩ := Got.int g
          have h2' : SatS F W D G1 A1 (match prim2 op (.int a) (.int b) with | some (.int c, false) => setV i (.int c) false s1 | _ => .bad) := h2
          split at h2'
          · rename_i c e3
            refine ⟨a, b, c, rfl, rfl, e3, ?_⟩
            unfold setV at h2'
            by_cases ci : i < s1.ρ.length
            · rw [if_pos ci] at h2'
              exact h2' _ G1 A1 H1 Le.refl (r1.setFz i rfl (by rw [← r1.len]; exact ci))
            · rw [if_neg ci] at h2'; exact h2'.elim
          · exact h2'.elim
        | _ => exact h2.elim
      | _ => simp only [evS, hs] at h; exact h.elim
    | _ => simp only [evS, hs] at h; exact h.elim
/-! ### del d[k] -/
def tDel (X : Cx) (to ti : TE) : TS := fun D σ H => to σ H fun x H1 => ti σ H1 fun y H2 => ∃ (a : Addr) (G : Hp) (A : List Addr) (t : Bool) (kvs : List (NestedKey × Val)) (kk : NestedKey), x = .ref a ∧ DAt X.w X.K G A H2 a t kvs ∧ (∀ b u, G b = some u → H2 b = some u) ∧ KeyV G t kk y ∧ (dGet kvs kk).isSome = true ∧
    ∀ es ep, RepD X.w X.K G A t (dDel kvs kk) es.toList → D.nx σ (upd H2 a (dictHO a es ep))
theorem ps_delD {o i : Expr} {to ti : TE} {tpos pos : Pos} (hu : X.A.units + 65 < cLine) (ho : PE X o to) (hi : PE X i ti) : PS X (.Delete [.Subscript o i tpos] pos) (tDel X to ti) := by
  refine ⟨fun pins s σ H D I h => wpAny_Delete (wpAny_deleteEach_cons (wpAny_delete_Subscript (thn (ho.run pins s σ H _ I h) fun u s1 ⟨x, H1, I1, rx, q1⟩ => thn (hi.run pins s1 σ H1 _ I1 q1) fun iv s2 ⟨y, H2, I2, ry, a, G, A, t, kvs, kk, e1, d, sub, hk, hv, q⟩ => ?_)))⟩
  subst e1
  cases (show u = Value.ref a from rx)
  exact dd_del (by omega) I2 sub d hk ry hv fun es ep s3 I3 rd => wpAny_deleteEach_nil ⟨σ, _, I3, q es ep rd⟩
theorem cs_del {o k : E} {D : Ends} (h : tS X W (evS Φ (.del o k)) D σ H) : tDel X (tP Φ X W o) (tV Φ X W k) D σ H := by
  obtain ⟨F, G, A, s, hw, hK, r, h⟩ := h
  refine ⟨F, G, A, [], s, hw, hK, r, (SatS.bind (show SatS F W D G A ((pkOf o (ev Φ o) s).bind _) from h)).imp fun x H2 ⟨po, s2, G3, A3, _, l3, ⟨r3, p3⟩, h3⟩ => ?_⟩
  refine ⟨F, G3, A3, [], s2, hw, hK, r3, (SatS.bind h3).imp fun y H3 ⟨kv, s3, G4, A4, _, l4, g4, h4⟩ => ?_⟩
  obtain ⟨G5, l5, r5, q5⟩ := Got.fix g4
  have p5 := (p3.mono l4).mono l5
  have h5 := SatS.mono h4 l5
  obtain ⟨w, K, H0, G0, A0, l0⟩ := F
  dsimp only at hw hK
  subst hw hK
  cases po with
  | val ov => exact h5.elim
  | bor i =>
    cases hs : s3.ρ[i]? with
    | none => simp only [delI, hs] at h5; exact h5.elim
    | some b =>
      cases b with
      | own cv =>
        cases cv with
        | dct t kvs =>
          simp only [delI, hs] at h5
          cases e : keyOf t kv.1 with
          | none => rw [e] at h5; exact h5.elim
          | some kk =>
            rw [e] at h5
            have h6 : SatS _ W D G5 A4 (if (dGet kvs kk).isSome then .ok .nx ⟨s3.ρ.set i (.own (.dct t (dDel kvs kk))), s3.w⟩ else .bad) := h5
            by_cases c : (dGet kvs kk).isSome = true
            · rw [if_pos c] at h6
              obtain ⟨a, ha⟩ := r5.slot i _ hs
              have hx : σ[i]? = some (some x) := p5
              rw [ha] at hx
              cases hx
              obtain ⟨_, u, hu, es, ep, rfl, rd, nd, ln, lo⟩ := r5.cell (.slot i) a _ (by show slotC s3.ρ σ i = _; unfold slotC; rw [hs, ha])
              refine ⟨a, G5, A4, t, kvs, kk, rfl, ⟨es, ep, hu, rd, nd, ln, lo⟩, r5.sub, keyV (H := H3) e (.inl q5), c, fun es' ep' rd' => h6 σ G5 A4 _ Le.refl (r5.writeSlot hs ha ⟨es', ep', rfl, rd', nodup_dDel nd, ?_, lo⟩)⟩
              exact Nat.le_trans (List.length_filter_le _ _) ln
            · rw [if_neg c] at h6; exact h6.elim
        | _ => simp only [delI, hs] at h5; exact h5.elim
      | _ => simp only [delI, hs] at h5; exact h5.elim
end
end TL

set_option Elab.async false
set_option linter.all false
set_option maxRecDepth 100000
set_option maxHeartbeats 8000000
/-! LUCa: the texts of statements; a def: the look. -/
namespace TL
open PySem PySem.Spec PyProof.Rows L2
/-! ### the look -/
def noLC : Expr → Bool
  | .ListComp .. => false
  | .SetComp .. => false
  | .DictComp .. => false
  | _ => true
def isComp : E → Bool
  | .comp .. => true
  | .dcomp .. => true
  | _ => false
def locB (P : Pl) (i : Nat) (x : Str) : Bool := decide (P.N[i]? = some x) && kindB P.sc x .local
def noTup : Expr → Bool
  | .Tuple .. => false
  | _ => true
/-- two names that are stored from the right -/
def swB (P : Pl) (x : Str) (px : Pos) (y : Str) (py : Pos) (a b : Expr) : Bool :=
  kindB P.sc x .local && (kindB P.sc y .local && (decide (py.line = px.line) && (!decide (x = y) && (!([a, b].all (foldedForSure 8)) && !([a, b].all (constantsAlone 8))))))
/-- two targets that are stored from the left -/
def locN (P : Pl) : Expr → Bool
  | .Name x _ => kindB P.sc x .local
  | _ => false
def nswB (P : Pl) (t u : Expr) (a b : Expr) : Bool := [a, b].all (foldedForSure 8) || !(locN P t && locN P u)
def augO : P2 → Operator → Bool
  | .add, .Add => true
  | .fdiv, .FloorDiv => true
  | _, _ => false
def cstB : E → Expr → Bool
  | .bl b, .Constant (.bool c) _ _ => decide (b = c)
  | .non, .Constant .none _ _ => true
  | .str z, .Constant (.str y) _ _ => decide (z = y)
  | .int i, .Constant (.int j) _ _ => decide (i = j)
  | _, _ => false
mutual
def mS (T : Tab) (P : Pl) : S → Stmt → Bool
  | .set i e, .Assign [.Name x _] ex _ => stB P i x && ((noLC ex || isComp e) && mE T P e ex)
  | .par i j a b, .Assign [.Tuple [.Name x px, .Name y py] _ _] (.Tuple [ea, eb] _ _) _ => decide (P.N[i]? = some x) && (decide (P.N[j]? = some y) && (swB P x px y py ea eb && ((plainA ea && plainA eb) && (mE T P a ea && mE T P b eb))))
  | .unpack2 t u a b, .Assign [.Tuple [et, eu] _ _] (.Tuple [ea, eb] _ _) _ => nswB P et eu ea eb && ((plainA ea && plainA eb) && ((mTg P t et && mTg P u eu) && (mE T P a ea && mE T P b eb)))
  | .unpack (.tup ts) e, .Assign [.Tuple es k p] ex _ => noTup ex && (mTg P (.tup ts) (.Tuple es k p) && mE T P e ex)
  | .setI o k e, .Assign [.Subscript eo ek _] ex _ => noSlice ek && (mE T P o eo && (mE T P k ek && mE T P e ex))
  | .setF o c f e, .Assign [.Attribute eo g _] ex _ => decide (f = g) && (T.flds.contains (c, f) && (mE T P o eo && mE T P e ex))
  | .aug i op e, .AugAssign (.Name x _) op' ex _ => stB P i x && (augO op op' && mE T P e ex)
  | .augI o k e, .AugAssign (.Subscript eo ek _) .Add ex _ => noSlice ek && (mE T P o eo && (mE T P k ek && mE T P e ex))
  | .del o k, .Delete [.Subscript eo ek _] _ => mE T P o eo && mE T P k ek
  | .expr e, .Expr ex _ => noLC ex && mE T P e ex
  | .ite c a b, .If ec sa sb _ => mT T P c ec && (mSs T P a sa && mSs T P b sb)
  | .for_ tg wk src body, .For t it sb [] _ => wkTg wk t && (noSet it && (mTg P tg t && ((match wkX T P wk it with
      | some xs => mEs T P src xs
      | none => false) && mSs T P body sb)))
  | .while_ c body, .While ec sb [] _ => mT T P c ec && mSs T P body sb
  | .ret e, .Return (some ex) _ => mE T P e ex
  | .retN, .Return none _ => true
  | .brk, .Break _ => true
  | .pass, .Pass _ => true
  | .dead, _ => true
  | .raise c [] [], .Raise (some (.Call (.Name x _) [] [] _)) none _ => decide (c = x) && (glB P x && T.excs.any fun q => decide (q.1 = x))
  | .tryR body x cs e, .Try sb [.ExceptHandler (some (.Name y _)) none [.Return (some er) _] _] [] [] _ => decide (x = y) && (glB P y && ((T.excs.any fun q => decide (q.1 = y)) && ((cs.all fun c => T.excs.any fun q => decide (q.1 = c)) && (cstB e er && mSs T P body sb))))
  | _, _ => false
def mSs (T : Tab) (P : Pl) : List S → List Stmt → Bool
  | [], [] => true
  | .kill _ :: r, xs => mSs T P r xs
  | a :: r, x :: xs => mS T P a x && mSs T P r xs
  | _, _ => false
end
def plOf (N : List Str) (sc : Scope) (k : Nat) : Pl := ⟨N, sc, fun _ => true, k⟩
def Tab.addF (T : Tab) (x : Str) (k : Nat) (ps : List Str) : Tab := { T with fns := (x, k, ps) :: T.fns }
def Tab.addM (T : Tab) (x : Str) (k : Nat) (ps : List Str) : Tab := { T with mks := (x, k, ps) :: T.mks }
def Tab.addP (T : Tab) (q : MRow) : Tab := { T with prs := q :: T.prs }
def Tab.addS (T : Tab) (q : MRow) : Tab := { T with sps := q :: T.sps }
end TL

set_option Elab.async false
set_option linter.all false
set_option maxRecDepth 100000
set_option maxHeartbeats 8000000
/-! LUC: the texts of statements; a def. -/
namespace TL
open PySem PySem.Spec PyProof.Rows L2
section
variable {T : Tab} {Φ : Fns} {P : Pl} {X : Cx} {W : WX}
structure CtxS (T : Tab) (Φ : Fns) (P : Pl) (X : Cx) (W : WX) : Prop extends Ctx T Φ P X W where
  own : PassesOwn (model X.prog X.w) X.A X.env X.xe
  kind : P.sc.kind = .function
  stk : X.stack = X.env :: X.outer
  frm : X.env.frame = some X.env.locals
theorem swapN {e : Expr} {t : Option Expr} {line : Nat} {env : Env} (h : noLC e = true) : swapsWith e t line env = pure false := by
  cases e <;> first | rfl | exact absurd h Bool.false_ne_true
def swV (env : Env) (y : Str) (py : Pos) (scope : Scope) (pos : Pos) : Bool := env.blockKind == .function && env.kindOf y == some .local && py.line == pos.line && !(scope.names.any fun (n, k) => n == y && (k == .local || k == .cell))
theorem swapV {elt : Expr} {gens : List Comprehension} {scope : Scope} {pos py : Pos} {y : Str} {line : Nat} {env : Env} : swapsWith (.ListComp elt gens scope pos) (some (.Name y py)) line env = pure (swV env y py scope pos) := rfl
theorem swapVd {kx vx : Expr} {gens : List Comprehension} {scope : Scope} {pos py : Pos} {y : Str} {line : Nat} {env : Env} : swapsWith (.DictComp kx vx gens scope pos) (some (.Name y py)) line env = pure (swV env y py scope pos) := rfl
theorem swapT {e t : Expr} {line : Nat} {env : Env} (h : (match t with | .Name .. => false | _ => true) = true) : swapsWith e (some t) line env = pure false := by
  cases t <;> first | exact absurd h Bool.false_ne_true | (cases e <;> rfl)
theorem blk_fn {env : Env} (h : env.scope.kind = .function) : env.blockKind = .function := by
  unfold Env.blockKind; rw [h]; rfl
theorem sw_two (C : CtxS T Φ P X W) {x y : Str} {px py pt pt2 : Pos} {k k2 : Nat} {a b : Expr} (h : swB P x px y py a b = true) (ha : plainA a = true) (hb : plainA b = true) :
    swappedStores [.Tuple [.Name x px, .Name y py] k pt] (.Tuple [a, b] k2 pt2) X.env = pure (some [x, y]) := by
  simp only [swB, Bool.and_eq_true, Bool.not_eq_true', decide_eq_true_eq, decide_eq_false_iff_not, kindB] at h
  obtain ⟨h1, h2, h3, h4, h5, h6⟩ := h
  have hk : X.env.blockKind = .function := blk_fn (by rw [C.eS]; exact C.kind)
  have n1 : X.env.kindOf x = some .local := by show X.env.scope.names.lookup x = _; rw [C.eS]; exact h1
  have n2 : X.env.kindOf y = some .local := by show X.env.scope.names.lookup y = _; rw [C.eS]; exact h2
  have st : ([a, b].any fun | .Starred .. => true | _ => false) = false := by
    have : ∀ e : Expr, plainA e = true → (match e with | .Starred .. => true | _ => false) = false := fun e he => by cases e <;> first | rfl | exact absurd he Bool.false_ne_true
    have e1 := this a ha
    have e2 := this b hb
    rw [List.any_cons, List.any_cons, List.any_nil]
    cases a <;> first | (exact absurd ha Bool.false_ne_true) | (cases b <;> first | rfl | exact absurd hb Bool.false_ne_true)
  have q1 : (Expr.Name x px).pos.line = px.line := rfl
  have dd : ([x, y] : List Str).eraseDups = [x, y] := by
    have : (y == x) = false := beq_eq_false_iff_ne.mpr (Ne.symm h4)
    simp [List.eraseDups_cons, this]
  unfold swappedStores
  simp only [hk, h5, h6, List.filterMap_cons, List.filterMap_nil, n1, n2, h3, q1]
  simp [dd, q1]
  intro hh
  rcases hh with hh | hh
  · cases a <;> first | exact absurd hh Bool.false_ne_true | exact absurd ha Bool.false_ne_true
  · cases b <;> first | exact absurd hh Bool.false_ne_true | exact absurd hb Bool.false_ne_true
theorem sw_none (C : CtxS T Φ P X W) {t u : Expr} {pt pt2 : Pos} {k k2 : Nat} {a b : Expr} (h : nswB P t u a b = true) (ha : plainA a = true) (hb : plainA b = true) :
    swappedStores [.Tuple [t, u] k pt] (.Tuple [a, b] k2 pt2) X.env = pure none := by
  have hk : X.env.blockKind = .function := blk_fn (by rw [C.eS]; exact C.kind)
  have st : ([a, b].any fun | .Starred .. => true | _ => false) = false := by
    cases a <;> first | (exact absurd ha Bool.false_ne_true) | (cases b <;> first | rfl | exact absurd hb Bool.false_ne_true)
  unfold swappedStores
  simp only [hk, st]
  simp only [nswB, Bool.or_eq_true, Bool.not_eq_true'] at h
  rcases h with h | h
  · simp [h]
  · have len1 : ∀ (f : Expr → Option Str), (f t = none ∨ f u = none) → ([t, u].filterMap f).length ≠ 2 := fun f hf => by
      rcases hf with e | e
      · rw [List.filterMap_cons, e]
        have := List.length_filterMap_le f [u]
        rw [show [u].length = 1 from rfl] at this
        show ([u].filterMap f).length ≠ 2
        omega
      · rw [List.filterMap_cons, List.filterMap_cons, e]
        cases f t <;> simp
    have no : ∀ (l : Nat) (e : Expr), locN P e = false → (match e with | .Name id pos => if (X.env.kindOf id == some .local && pos.line == l) then some id else none | _ => (none : Option Str)) = none := fun l e h => by
      cases e <;> try rfl
      rename_i x p
      have hk : ¬ X.env.kindOf x = some .local := by
        show ¬ X.env.scope.names.lookup x = _
        rw [C.eS]
        exact of_decide_eq_false h
      have : (X.env.kindOf x == some .local) = false := by
        cases q : (X.env.kindOf x == some .local) with
        | false => rfl
        | true => exact absurd (beq_iff_eq.mp q) hk
      simp [this]
    have key : ∀ (l : Nat), (match t with | .Name id pos => if (X.env.kindOf id == some .local && pos.line == l) then some id else none | _ => (none : Option Str)) = none ∨ (match u with | .Name id pos => if (X.env.kindOf id == some .local && pos.line == l) then some id else none | _ => (none : Option Str)) = none := fun l => by
      cases ht : locN P t with
      | false => exact .inl (no l t ht)
      | true =>
        cases hu : locN P u with
        | false => exact .inr (no l u hu)
        | true => simp [ht, hu] at h
    have := len1 (fun e => match e with | .Name id pos => if (X.env.kindOf id == some .local && pos.line == t.pos.line) then some id else none | _ => (none : Option Str)) (key t.pos.line)
    simp at this
    simp [this]
    intro _ _ h3
    exact absurd h3 this
/-! ### raise, try -/
theorem any_mem {xs : List (Str × List Str)} {x : Str} (h : (xs.any fun q => decide (q.1 = x)) = true) : ∃ q ∈ xs, q.1 = x := by
  obtain ⟨q, hq, e⟩ := List.any_eq_true.mp h
  exact ⟨q, hq, of_decide_eq_true e⟩
theorem excB1_ok {K : PySem.W.Frag} {x : Str} (h : excB1 K x = true) : PySem.W.keepIn K (.ref (He.ga K x)) = true ∧ PySem.W.excIn K (He.ga K x) veB "ValueError.__new__" = true ∧ PySem.W.subIn K (.ref (He.ga K x)) (.type "BaseException") = some true ∧ PySem.W.typeIn K (.ref (He.ga K x)) = some (.type "type") := by
  simp only [excB1, Bool.and_eq_true, decide_eq_true_eq] at h
  exact h
/-- an own error made without a word -/
theorem pmk0 {x : Str} {p pos : Pos} {C : Addr} (q : PySem.W.excIn X.K C veB "ValueError.__new__" = true) (gC : X.mg x = some (.ref C)) (kC : PySem.W.keepIn X.K (.ref C) = true) (r : Raises X (.ref C)) (hg : Gl X x) (hd : (x == ("__debug__" : Str)) = false) :
    PMk X (.Call (.Name x p) [] [] pos) (fun _ H Q => Q (.ref C) none H) := by
  intro pins sh σ0 H Q I h
  refine wpAny_Call_Name_kw (ld_glob I hg gC (PySem.W.callWith_K0 I.kIn kC ?_) hd)
  obtain ⟨bm, N, nm, qn, bs, hdct, sn, sub, ab, col, dd, k0, k1, k2, k3, k5, mN, hC, hN, hni, T⟩ := exc_obj I.kIn q
  obtain ⟨hp, g, dr, tk, os⟩ := sh
  exact wpAny_call_exc_subT PySem.F.excBase_ValueError T hC hN hni (fun h' e hm => mk_of I hm r h (I.hok.gone hm.new)) (Nat.zero_le _)
theorem so_raise (C : CtxS T Φ P X W) {c x : Str} {p pos pos2 : Pos} (h : (decide (c = x) && (glB P x && T.excs.any fun q => decide (q.1 = x))) = true) : PS X (.Raise (some (.Call (.Name x p) [] [] pos)) none pos2) (tS X W (evS Φ (.raise c [] []))) := by
  obtain ⟨h1, h2, h3⟩ := and3 h
  have h1 := of_decide_eq_true h1
  subst h1
  obtain ⟨q, hq, e⟩ := any_mem h3
  obtain ⟨f1, f2, _⟩ := C.tab.excs q hq
  rw [e] at f1 f2
  obtain ⟨g1, g2, g3, g4⟩ := excB1_ok f2
  have hg := gl_facts C.toCtx h2
  refine PS.conv (ps_raise C.calm C.tk (pmk0 g2 f1 g1 (raises_own g3 g4) hg.1 hg.2)) fun D σ H q => ?_
  obtain ⟨F, G, A, s, hw, hK, r, z⟩ := q
  have z' : SatS F W D G A (.ex c [] s) := z
  have := z' none σ G A H Le.refl r (.inl ⟨rfl, rfl⟩)
  rw [hK] at this
  exact this
/-- a constant's value -/
def cstV : E → V
  | .bl b => .bl b
  | .str z => .str z
  | .int i => .int i
  | _ => .non
theorem pe_cst {X : Cx} {e : E} {er : Expr} (h : cstB e er = true) : PE X er (tC (cstV e)) := by
  cases e <;> cases er <;> try (exact absurd h Bool.false_ne_true)
  all_goals (rename_i c _ _; cases c <;> try (exact absurd h Bool.false_ne_true))
  all_goals first
    | exact pe_non
    | (have e := of_decide_eq_true h; subst e; first | exact pe_int | exact pe_str | exact pe_bl)
theorem cst_rep {e : E} {er : Expr} (h : cstB e er = true) {w : World} {K : PySem.W.Frag} {G : Hp} {A : List Addr} : ∃ v, constE e = some v ∧ Rep w K G A v (cstV e) := by
  cases e <;> cases er <;> try (exact absurd h Bool.false_ne_true)
  all_goals exact ⟨_, rfl, rfl⟩
theorem so_tryR (C : CtxS T Φ P X W) {body : List S} {x : Str} {cs : List Str} {e : E} {sb : List Stmt} {y : Str} {p p2 p3 p4 : Pos} {er : Expr} (hb : ∀ {X' : Cx} {W' : WX}, CtxS T Φ P X' W' → PSs X' sb (tS X' W' (evSs Φ body)))
    (h : (decide (x = y) && (glB P y && ((T.excs.any fun q => decide (q.1 = y)) && ((cs.all fun c => T.excs.any fun q => decide (q.1 = c)) && cstB e er)))) = true) :
    PS X (.Try sb [.ExceptHandler (some (.Name y p)) none [.Return (some er) p2] p3] [] [] p4) (tS X W (evS Φ (.tryR body x cs e))) := by
  obtain ⟨h1, h2, h3⟩ := and3 h
  obtain ⟨h3, h4, h5⟩ := and3 h3
  have h1 := of_decide_eq_true h1
  subst h1
  obtain ⟨q, hq, eq⟩ := any_mem h3
  obtain ⟨f1, f2, f3⟩ := C.tab.excs q hq
  rw [eq] at f1
  have hg := gl_facts C.toCtx h2
  refine PS.conv (ps_try_only (c := .ref (He.ga X.K x)) (tb := fun W' => tS X W' (evSs Φ body)) (ts := fun _ _ _ D σ H => D.rt (cstV e) H) (Wout := W) C.stk C.frm ⟨hg.1, hg.2, .inl f1⟩ C.tk
    (fun W' pn xe tk own => hb (X' := X.tr pn xe) ⟨⟨C.calm, C.nd, C.eN, C.eS, C.cells, tk, C.room, C.tab⟩, own, C.kind, C.stk, C.frm⟩) (fun a oe cls d pn hz hf => ?_)) fun D σ H z => ?_
  · exact PSs.conv (pss_cons (ps_ret (pe_cst h5)) pss_nil) fun D σ H z => z
  · obtain ⟨F, G, A, s, hw, hK, r, z⟩ := z
    refine ⟨F, G, A, s, hw, hK, r, ?_⟩
    have z' : SatS F W D G A (tryRes x cs e (evSs Φ body s)) := z
    cases e1 : evSs Φ body s with
    | bad => rw [e1] at z'; exact z'.elim
    | ok f s1 => rw [e1] at z'; cases f <;> exact z'
    | ex c fs s1 =>
      rw [e1] at z'
      by_cases hc : cs.contains c = true
      · have z2 : SatS F W D G A (if hand c x then (match constE e with | some v => .ok (.ret v false) s1 | none => .bad) else .ex c fs s1) := by
          simp only [tryRes, hc, if_true] at z'
          exact z'
        obtain ⟨q2, hq2, e2⟩ := any_mem (List.all_eq_true.mp h4 c (List.contains_iff_mem.mp hc))
        have hm := (C.tab.excs q2 hq2).2.2 q hq
        rw [e2, eq] at hm
        intro d σ' G' A' H' l r' ea
        rw [hK]
        refine ⟨hand c x, hm, fun hh a ha => ?_, fun hh => ?_⟩
        · rw [hh] at z2
          obtain ⟨v, ev, rv⟩ := cst_rep h5 (w := F.w) (K := F.K) (G := G') (A := A')
          simp only [ev, if_true] at z2
          exact z2 (cstV e) σ' G' A' H' l ⟨r', rv⟩
        · rw [hh] at z2
          have := z2 d σ' G' A' H' l r' ea
          rw [hK] at this
          exact this
      · have z2 : SatS F W D G A .bad := by
          simp only [tryRes, hc] at z'
          exact z'
        exact z2.elim
end
end TL

set_option Elab.async false
set_option linter.all false
set_option maxRecDepth 100000
set_option maxHeartbeats 8000000
/-! LUD: statements are done right. -/
namespace TL
open PySem PySem.Spec PyProof.Rows L2
section
variable {T : Tab} {Φ : Fns}
theorem or_two {a b : Bool} (h : (a || b) = true) : a = true ∨ b = true := Bool.or_eq_true_iff.mp h
theorem tS_bad {X : Cx} {W : WX} {f : Sta → Res Fl} (hf : ∀ s, f s = .bad) {D : Ends} {σ : St} {H : Hp} (h : tS X W f D σ H) : False := by
  obtain ⟨F, G, A, s, hw, hK, r, h⟩ := h
  rw [hf] at h
  exact h
theorem so_set {P : Pl} {X : Cx} {W : WX} (C : CtxS T Φ P X W) {i : Nat} {e : E} {x : Str} {px : Pos} {ex : Expr} {pos : Pos} (h : (stB P i x && ((noLC ex || isComp e) && mE T P e ex)) = true) : PS X (.Assign [.Name x px] ex pos) (tS X W (evS Φ (.set i e))) := by
  obtain ⟨h1, h2, h3⟩ := and3 h
  obtain ⟨s1, s2, s3⟩ := st_facts C.toCtx h1
  cases hn : noLC ex with
  | true => exact PS.conv (ps_set C.nd s1 s2 (soM C.toCtx h3) (swapN hn) s3) fun D σ H => cs_set
  | false =>
    rw [hn] at h2
    cases e <;> try (exact absurd h2 Bool.false_ne_true)
    · rename_i elt tg wk src cond own
      cases ex <;> try (exact absurd h3 Bool.false_ne_true)
      rename_i x' gens scope p
      match gens, h3 with
      | [⟨t, it, ifs, 0⟩], h3 =>
        cases hsw : swV X.env x px scope p with
        | false =>
          exact PS.conv (ps_set C.nd s1 s2 (soM C.toCtx h3) (swapV.trans (by rw [hsw])) s3) fun D σ H => cs_set
        | true =>
          have hyl : X.env.scope.names.lookup x = some .local := by
            simp only [swV, Bool.and_eq_true, beq_iff_eq] at hsw
            exact hsw.1.1.2
          have h0 : (blkC P.N P.sc scope own && (tgIn tg (own.map (·.2)) && (wkTg wk t && (noSet it && (mTg (P.blk scope) tg t && ((match wkX T P wk it with
            | some xs => mEs T P src xs
            | none => false) && (mC T (P.blk scope) cond ifs && mE T (P.blk scope) elt x'))))))) = true := h3
          obtain ⟨g1, g2, h0⟩ := and3 h0
          obtain ⟨g3, g4, h0⟩ := and3 h0
          obtain ⟨g5, g6, h0⟩ := and3 h0
          obtain ⟨g7, g8⟩ := and2 h0
          refine PS.conv (ps_setLc (tt := tCond Φ X cond) C.calm C.nd s1 hyl (swapV.trans (by rw [hsw])) (soW_of C.toCtx (soAll src) g3 g6) (blkOk_by (by rw [C.eN, C.eS]; exact g1)) (fun sh H Ca cl fp => soTg (C.toCtx.blk sh H scope Ca cl fp) tg t g5) (fun sh H Ca cl fp => ?_)
            (fun sh H Ca cl fp => soE elt (C.toCtx.blk sh H scope Ca cl fp) g8) (foldP g4)) fun D σ H h => cv_comp g2 (cv_m (fun _ e => by cases e) (cs_set h))
          cases cond with
          | none =>
            cases ifs with
            | nil => exact pts_nil
            | cons a b => exact absurd g7 Bool.false_ne_true
          | some c =>
            match ifs, g7 with
            | [i], g7 => exact pts_one (soT c (C.toCtx.blk sh H scope Ca cl fp) g7)
    · rename_i t0 key elt tg wk src cond own
      cases ex <;> try (exact absurd h3 Bool.false_ne_true)
      rename_i kx x' gens scope p
      match gens, h3 with
      | [⟨t, it, ifs, 0⟩], h3 =>
        cases hsw : swV X.env x px scope p with
        | false =>
          exact PS.conv (ps_set C.nd s1 s2 (soM C.toCtx h3) (swapVd.trans (by rw [hsw])) s3) fun D σ H => cs_set
        | true =>
          have hyl : X.env.scope.names.lookup x = some .local := by
            simp only [swV, Bool.and_eq_true, beq_iff_eq] at hsw
            exact hsw.1.1.2
          have h0 : (blkC P.N P.sc scope own && (tgIn tg (own.map (·.2)) && (wkTg wk t && (noSet it && (mTg (P.blk scope) tg t && ((match wkX T P wk it with
            | some xs => mEs T P src xs
            | none => false) && (mC T (P.blk scope) cond ifs && (mE T (P.blk scope) key kx && mE T (P.blk scope) elt x')))))))) = true := h3
          obtain ⟨g1, g2, h0⟩ := and3 h0
          obtain ⟨g3, g4, h0⟩ := and3 h0
          obtain ⟨g5, g6, h0⟩ := and3 h0
          obtain ⟨g7, g8, g9⟩ := and3 h0
          refine PS.conv (ps_setDcD (tt := tCond Φ X cond) C.un C.calm C.nd s1 hyl (swapVd.trans (by rw [hsw])) (soW_of C.toCtx (soAll src) g3 g6) (blkOk_by (by rw [C.eN, C.eS]; exact g1)) (fun sh H Ca cl fp => soTg (C.toCtx.blk sh H scope Ca cl fp) tg t g5) (fun sh H Ca cl fp => ?_)
            (fun sh H Ca cl fp => soE key (C.toCtx.blk sh H scope Ca cl fp) g8) (fun sh H Ca cl fp => soE elt (C.toCtx.blk sh H scope Ca cl fp) g9) (foldP g4)) fun D σ H h => cv_dcomp g2 (cv_m (fun _ e => by cases e) (cs_set h))
          cases cond with
          | none =>
            cases ifs with
            | nil => exact pts_nil
            | cons a b => exact absurd g7 Bool.false_ne_true
          | some c =>
            match ifs, g7 with
            | [i], g7 => exact pts_one (soT c (C.toCtx.blk sh H scope Ca cl fp) g7)
theorem sw_non {t ex : Expr} {env : Env} (h : noTup ex = true) : swappedStores [t] ex env = pure none := by
  cases ex <;> first | exact absurd h Bool.false_ne_true | (cases t <;> rfl)
theorem sw_sub {o i ex : Expr} {p : Pos} {env : Env} : swappedStores [.Subscript o i p] ex env = pure none := by cases ex <;> rfl
theorem pgOf {P : Pl} {X : Cx} {W : WX} (C : Ctx T Φ P X W) {t : Tg} {e : Expr} (h : mTg P t e = true) : PG X e (gOf X t) := by
  cases t with
  | nm i =>
    cases e <;> try (exact absurd h Bool.false_ne_true)
    rename_i x p
    obtain ⟨h1, h2, h3⟩ := st_facts C (show stB P i x = true from h)
    exact pg_name C.nd h1 h2 h3
  | tup ts => exact soTg C _ e h
mutual
theorem soS : ∀ (a : S) {P : Pl} {X : Cx} {W : WX} {st : Stmt}, CtxS T Φ P X W → mS T P a st = true → PS X st (tS X W (evS Φ a))
  | .dead, P, X, W, st, C, h => ⟨fun pins s σ H D I q => (tS_bad (fun _ => rfl) q).elim⟩
  | .set i e, P, X, W, st, C, h => by
    cases st <;> try (exact absurd h Bool.false_ne_true)
    rename_i ts ex pos
    match ts, h with
    | [.Name x px], h => exact so_set C h
  | .par i j a b, P, X, W, st, C, h => by
    cases st <;> try (exact absurd h Bool.false_ne_true)
    rename_i ts ex pos
    match ts, ex, h with
    | [.Tuple [.Name x px, .Name y py] kt pt], .Tuple [ea, eb] k2 pt2, h =>
      obtain ⟨h1, h2, h3⟩ := and3 (show (decide (P.N[i]? = some x) && (decide (P.N[j]? = some y) && (swB P x px y py ea eb && ((plainA ea && plainA eb) && (mE T P a ea && mE T P b eb))))) = true from h)
      obtain ⟨h3, h4, h5⟩ := and3 h3
      obtain ⟨h4, h4b⟩ := and2 h4
      obtain ⟨h5, h6⟩ := and2 h5
      have h1 := of_decide_eq_true h1
      have h2 := of_decide_eq_true h2
      have w := sw_two C (x := x) (y := y) (px := px) (py := py) (pt := pt) (pt2 := pt2) (k := kt) (k2 := k2) h3 h4 h4b
      have h3' := h3
      simp only [swB, Bool.and_eq_true, Bool.not_eq_true', decide_eq_true_eq, decide_eq_false_iff_not, kindB] at h3'
      obtain ⟨k1, k2', k3, k4, k5, k6⟩ := h3'
      have hij : i ≠ j := fun e => by
        subst e
        rw [h1] at h2
        cases h2
        exact k4 rfl
      exact PS.conv (ps_par C.calm C.nd (by rw [C.eN]; exact h1) (by rw [C.eN]; exact h2) hij (by rw [C.eS]; exact k1) (by rw [C.eS]; exact k2') (pa_cons (soM C.toCtx h5) (pa_cons (soM C.toCtx h6) pa_nil (starP h4b)) (starP h4)) w) fun D σ H => cs_par hij
  | .unpack2 t u a b, P, X, W, st, C, h => by
    cases st <;> try (exact absurd h Bool.false_ne_true)
    rename_i ts ex pos
    match ts, ex, h with
    | [.Tuple [et, eu] kt pt], .Tuple [ea, eb] k2 pt2, h =>
      obtain ⟨h1, h2, h3⟩ := and3 (show (nswB P et eu ea eb && ((plainA ea && plainA eb) && ((mTg P t et && mTg P u eu) && (mE T P a ea && mE T P b eb)))) = true from h)
      obtain ⟨h2, h2b⟩ := and2 h2
      obtain ⟨h3, h4⟩ := and2 h3
      obtain ⟨h3, h3b⟩ := and2 h3
      obtain ⟨h4, h4b⟩ := and2 h4
      have s1 : ∀ es, assignEach (et :: es) X.env = (false, assign et X.env) :: assignEach es X.env := fun es => mTg_star h3
      have s2 : ∀ es, assignEach (eu :: es) X.env = (false, assign eu X.env) :: assignEach es X.env := fun es => mTg_star h3b
      refine PS.conv (ps_asg (pe_tup (pa_cons (soM C.toCtx h4) (pa_cons (soM C.toCtx h4b) pa_nil (starP h2b)) (starP h2))) (pg_tup C.calm (pgs_cons (pgOf C.toCtx h3) (pgs_cons (pgOf C.toCtx h3b) pgs_nil (by rw [s2]; rfl)) (by rw [s1]; rfl)) (by rw [s1, s2]; rfl) (by rw [s1, s2]; rfl)) rfl (sw_none C h1 h2 h2b)) fun D σ H => cs_unpack2
  | .unpack tg e, P, X, W, st, C, h => by
    cases tg <;> cases st <;> try (exact absurd h Bool.false_ne_true)
    rename_i ts tgs ex pos
    match tgs, h with
    | [.Tuple es k p], h =>
      obtain ⟨h1, h2, h3⟩ := and3 (show (noTup ex && (mTg P (.tup ts) (.Tuple es k p) && mE T P e ex)) = true from h)
      exact PS.conv (ps_asg (soE e C.toCtx h3) (soTg C.toCtx _ _ h2) (show swapsWithSole [.Tuple es k p] ex pos.line X.env = pure false from swapT (t := .Tuple es k p) (line := pos.line) (env := X.env) rfl) (sw_non h1)) fun D σ H => cs_unpack
  | .setI o k e, P, X, W, st, C, h => by
    cases st <;> try (exact absurd h Bool.false_ne_true)
    rename_i ts ex pos
    match ts, h with
    | [.Subscript eo ek p], h =>
      obtain ⟨h0, h1, h2⟩ := and3 (show (noSlice ek && (mE T P o eo && (mE T P k ek && mE T P e ex))) = true from h)
      obtain ⟨h2, h3⟩ := and2 h2
      exact PS.conv (ps_asg (soE e C.toCtx h3) (pg_sub (soP_of C.toCtx h1 (soE o C.toCtx h1)) (soE k C.toCtx h2) (put_ok C.un) (fun v => by cases ek <;> first | rfl | exact absurd h0 Bool.false_ne_true)) (show swapsWithSole [.Subscript eo ek p] ex pos.line X.env = pure false from swapT (t := .Subscript eo ek p) (line := pos.line) (env := X.env) rfl) sw_sub) fun D σ H => cs_setI
  | .setF o c f e, P, X, W, st, C, h => by
    cases st <;> try (exact absurd h Bool.false_ne_true)
    rename_i ts ex pos
    match ts, h with
    | [.Attribute eo g p], h =>
      obtain ⟨h1, h2, h3⟩ := and3 (show (decide (f = g) && (T.flds.contains (c, f) && (mE T P o eo && mE T P e ex))) = true from h)
      obtain ⟨h3, h4⟩ := and2 h3
      have h1 := of_decide_eq_true h1
      subst h1
      have g := C.tab.flds _ (List.contains_iff_mem.mp h2)
      exact PS.conv (ps_fld (soP_of C.toCtx h3 (soE o C.toCtx h3)) (soE e C.toCtx h4) (swapT rfl)) fun D σ H => cs_setF g.1 g.2
  | .aug i op e, P, X, W, st, C, h => by
    cases st <;> try (exact absurd h Bool.false_ne_true)
    rename_i t op' ex pos
    cases t <;> try (exact absurd h Bool.false_ne_true)
    rename_i x p
    obtain ⟨h1, h2, h3⟩ := and3 (show (stB P i x && (augO op op' && mE T P e ex)) = true from h)
    obtain ⟨s1, s2, s3⟩ := st_facts C.toCtx h1
    have ho : PIp X op' (rAug op) := by
      cases op <;> cases op' <;> first | exact absurd h2 Bool.false_ne_true | exact aug_add | exact aug_fdiv
    exact PS.conv (ps_aug C.nd s1 s2 (soE e C.toCtx h3) ho s3) fun D σ H => cs_aug
  | .augI o k e, P, X, W, st, C, h => by
    cases st <;> try (exact absurd h Bool.false_ne_true)
    rename_i t op ex pos
    cases t <;> try (exact absurd h Bool.false_ne_true)
    rename_i eo ek p
    cases op <;> try (exact absurd h Bool.false_ne_true)
    obtain ⟨h0, h1, h2⟩ := and3 (show (noSlice ek && (mE T P o eo && (mE T P k ek && mE T P e ex))) = true from h)
    obtain ⟨h2, h3⟩ := and2 h2
    exact PS.conv (ps_augS (soP_of C.toCtx h1 (soE o C.toCtx h1)) (soE k C.toCtx h2) pget_list (soE e C.toCtx h3) aug_add (put_ok C.un) (fun ov iv new => by cases ek <;> first | rfl | exact absurd h0 Bool.false_ne_true)) fun D σ H => cs_augI
  | .raise c fs es, P, X, W, st, C, h => by
    cases fs with
    | cons f fs => cases es <;> cases st <;> exact absurd h Bool.false_ne_true
    | nil =>
      cases es with
      | cons e es => cases st <;> exact absurd h Bool.false_ne_true
      | nil =>
        cases st <;> try (exact absurd h Bool.false_ne_true)
        rename_i ex cause pos
        match ex, cause, h with
        | some (.Call (.Name x p) [] [] p2), none, h => exact so_raise C h
  | .tryR body x cs e, P, X, W, st, C, h => by
    cases st <;> try (exact absurd h Bool.false_ne_true)
    rename_i sb hs orelse fin pos
    match hs, orelse, fin, h with
    | [.ExceptHandler (some (.Name y p)) none [.Return (some er) p2] p3], [], [], h =>
      obtain ⟨h1, h2, h3⟩ := and3 (show (decide (x = y) && (glB P y && ((T.excs.any fun q => decide (q.1 = y)) && ((cs.all fun c => T.excs.any fun q => decide (q.1 = c)) && (cstB e er && mSs T P body sb))))) = true from h)
      obtain ⟨h3, h4, h5⟩ := and3 h3
      obtain ⟨h5, h6⟩ := and2 h5
      exact so_tryR C (fun {X' W'} C' => soSs body C' h6) (by simp [h1, h2, h3, h4, h5])
  | .kill _, P, X, W, st, C, h => by cases st <;> exact absurd h Bool.false_ne_true
  | .del o k, P, X, W, st, C, h => by
    cases st <;> try (exact absurd h Bool.false_ne_true)
    rename_i ts pos
    match ts, h with
    | [.Subscript eo ek p], h =>
      obtain ⟨h1, h2⟩ := and2 (show (mE T P o eo && mE T P k ek) = true from h)
      exact PS.conv (ps_delD C.un (soP_of C.toCtx h1 (soE o C.toCtx h1)) (soE k C.toCtx h2)) fun D σ H => cs_del
  | .expr e, P, X, W, st, C, h => by
    cases st <;> try (exact absurd h Bool.false_ne_true)
    rename_i ex pos
    obtain ⟨h1, h2⟩ := and2 (show (noLC ex && mE T P e ex) = true from h)
    exact PS.conv (ps_expr (soE e C.toCtx h2) (swapN h1)) fun D σ H => cs_expr
  | .ite c a b, P, X, W, st, C, h => by
    cases st <;> try (exact absurd h Bool.false_ne_true)
    rename_i ec sa sb pos
    obtain ⟨h1, h2, h3⟩ := and3 (show (mT T P c ec && (mSs T P a sa && mSs T P b sb)) = true from h)
    exact PS.conv (ps_if (soT c C.toCtx h1) (soSs a C h2) (soSs b C h3)) fun D σ H => cs_ite
  | .for_ tg wk src body, P, X, W, st, C, h => by
    cases st <;> try (exact absurd h Bool.false_ne_true)
    rename_i t it sb el pos
    match el, h with
    | [], h =>
      obtain ⟨h1, h2, h3⟩ := and3 (show (wkTg wk t && (noSet it && (mTg P tg t && ((match wkX T P wk it with
      | some xs => mEs T P src xs
      | none => false) && mSs T P body sb)))) = true from h)
      obtain ⟨h3, h4, h5⟩ := and3 h3
      exact PS.conv (ps_for C.own C.calm (soW_of C.toCtx (soAll src) h1 h4) (soTg C.toCtx tg t h3) (soSs body C h5) (foldP h2)) fun D σ H => cs_for
  | .while_ c body, P, X, W, st, C, h => by
    cases st <;> try (exact absurd h Bool.false_ne_true)
    rename_i ec sb el pos
    match el, h with
    | [], h =>
      obtain ⟨h1, h2⟩ := and2 (show (mT T P c ec && mSs T P body sb) = true from h)
      exact PS.conv (ps_while C.own (soT c C.toCtx h1) (soSs body C h2)) fun D σ H => cs_while
  | .ret e, P, X, W, st, C, h => by
    cases st <;> try (exact absurd h Bool.false_ne_true)
    rename_i o pos
    match o, h with
    | some ex, h => exact PS.conv (ps_ret (soM C.toCtx h)) fun D σ H => cs_ret
  | .retN, P, X, W, st, C, h => by
    cases st <;> try (exact absurd h Bool.false_ne_true)
    rename_i o pos
    match o, h with
    | none, h => exact PS.conv ps_retN fun D σ H ⟨F, G, A, s, hw, hK, r, q⟩ => q .non σ G A H Le.refl ⟨r, rfl⟩
  | .brk, P, X, W, st, C, h => by
    cases st <;> try (exact absurd h Bool.false_ne_true)
    exact PS.conv ps_break fun D σ H ⟨F, G, A, s, hw, hK, r, q⟩ => q σ G A H Le.refl r
  | .pass, P, X, W, st, C, h => by
    cases st <;> try (exact absurd h Bool.false_ne_true)
    exact PS.conv ps_pass fun D σ H ⟨F, G, A, s, hw, hK, r, q⟩ => q σ G A H Le.refl r
theorem soSs : ∀ (a : List S) {P : Pl} {X : Cx} {W : WX} {sts : List Stmt}, CtxS T Φ P X W → mSs T P a sts = true → PSs X sts (tS X W (evSs Φ a))
  | [], P, X, W, [], C, h => PSs.conv pss_nil fun D σ H => cs_nil
  | [], P, X, W, _ :: _, C, h => absurd h Bool.false_ne_true
  | a :: r, P, X, W, sts, C, h => by
    by_cases ck : ∃ is, a = .kill is
    · obtain ⟨is, rfl⟩ := ck
      exact PSs.conv (soSs r C (show mSs T P r sts = true by cases sts <;> exact h)) fun D σ H => cs_kill
    · cases sts with
      | nil => cases a <;> first | exact absurd h Bool.false_ne_true | exact absurd ⟨_, rfl⟩ ck
      | cons x xs =>
        have h' : (mS T P a x && mSs T P r xs) = true := by cases a <;> first | exact h | exact absurd ⟨_, rfl⟩ ck
        obtain ⟨h1, h2⟩ := and2 h'
        exact PSs.conv (pss_cons (soS a C h1) (soSs r C h2)) fun D σ H => cs_seq
end
end
end TL

set_option Elab.async false
set_option linter.all false
set_option maxRecDepth 100000
set_option maxHeartbeats 8000000
/-! LUE: a def is done right; the defs of a text, one behind another. -/
namespace TL
open PySem PySem.Spec PyProof.Rows L2
section
variable {T : Tab} {Φ : Fns} {P : Program} {w : World} {K : PySem.W.Frag} {mg : Str → Option Value} {base : Heap}
theorem fn_ok (tab : TabOk T Φ P w K mg base) {x qual : Str} {st : Stmt} {f : Addr} {fd : FuncData} {N ps : List Str} {k : Nat} {body : List S} (Fu : Fun K x qual st f fd) (Sc : FnScope N ps (defScope st))
    (m : mSs T (plOf N (defScope st) k) body (defBody st) = true) : FnOk P w K mg base (L2.CX P w) (k + 1) f fd ps (SpD w K ps.length (runDef Φ N.length body)) := by
  refine Fu.okX Sc SpD.len fun cdv A outer s H vs Q E hr hsp => ?_
  refine ⟨tS (cxOf (L2.CX P w) P w K mg base N qual (defScope st) f cdv A outer s H E) (fun cls d _ H => E cls d H) (evSs Φ body), soSs body ⟨⟨rfl, Sc.nd, rfl, rfl, fun _ _ => rfl, takes_of rfl rfl rfl rfl, hr, tab⟩, passes_of rfl, Sc.kind, rfl, rfl⟩ m, ?_⟩
  obtain ⟨F, G, A1, τ, s1, σ, args, hw, hK, r, hl, hx, h⟩ := hsp
  refine ⟨F.sub G A1 s1.w H, G, A1, ⟨slots0 N.length args, s1.w⟩, hw, hK, r.enter (by rw [hw, hK]; exact hx), ?_⟩
  unfold runDef at h
  cases e : evSs Φ body ⟨slots0 N.length args, s1.w⟩ with
  | bad => rw [e] at h; exact h.elim
  | ex c fs s2 =>
    rw [e] at h
    exact fun d σ' G' A' H' l r' ea => by
      have := h d G' A' H' [] s2 σ' rfl l r' ea
      rw [show (F.sub G A1 s1.w H).K = K from hK]
      exact this
  | ok fl s2 =>
    rw [e] at h
    cases fl with
    | nx => exact fun σ' G' A' H' l r' => h .non G' A' H' [] s2 σ' rfl l ⟨r', rfl⟩
    | brk => exact h.elim
    | ret v fr => exact fun x σ' G' A' H' l g => h x G' A' H' [] s2 σ' rfl l g
/-- what the defs of a text do; the last first -/
def phi : List (Str × Nat × List S) → Fns
  | [] => fun _ _ _ => .bad
  | (x, n, b) :: r => fun y => if y = x then runDef (phi r) n b else phi r y
end
end TL

set_option Elab.async false
set_option linter.all false
set_option maxRecDepth 100000
set_option maxHeartbeats 8000000
/-! LUF: what the top's run tells; tables of defs. -/
namespace TL
open PySem PySem.Spec PyProof.Rows L2
/-! ### one more word about an own class -/
def tyNs : List String := ["NoneType", "bool", "int", "str", "tuple", "list", "dict"]
def insB (K : PySem.W.Frag) (x : Str) : Bool := He.eqO (PySem.W.findIn K (.ref (He.ga K x)) "__class__") (some (some (.builtin "object.__class__"))) && (decide (PySem.W.specialIn K (.builtin "object.__class__") "__get__" = some (some (.builtin "getset_descriptor.__get__"))) && (decide (PySem.W.takesIn K (.builtin "object.__class__") = some true) &&
  (decide (PySem.W.mroIn K (He.ga K x) (.type "object") = some true) && (decide (PySem.W.kitOne K (.ref (He.ga K x)) (.ref (He.ga K x)) = some true) && tyNs.all fun t => decide (PySem.W.kitOne K (.type t) (.ref (He.ga K x)) = some false)))))
theorem insB_ok {K : PySem.W.Frag} {x : Str} (c : Cls K (He.ga K x)) (h : insB K x = true) : C8.InsC K (He.ga K x) ∧ ∀ t ∈ tyNs, PySem.W.kitOne K (.type t) (.ref (He.ga K x)) = some false := by
  simp only [insB, Bool.and_eq_true, decide_eq_true_eq, List.all_eq_true] at h
  obtain ⟨h1, h2, h3, h4, h5, h6⟩ := h
  exact ⟨⟨c, He.eqO_ok h1, h2, h3, h4, h5⟩, h6⟩
/-! ### properties -/
/-- a property of a class: where its getter stands -/
def gtA (K : PySem.W.Frag) (c m : Str) : Addr := match PySem.W.recIn K (He.ma K (He.ga K c) m) "property" with
  | some (.ref g :: _) => g
  | _ => 0
def prB (K : PySem.W.Frag) (c m : Str) : Bool := He.eqO (PySem.W.findIn K (.ref (He.ga K c)) m) (some (some (.ref (He.ma K (He.ga K c) m)))) && (decide (PySem.W.specialIn K (.ref (He.ma K (He.ga K c) m)) "__get__" = some (some (.builtin "property.__get__"))) && (decide (PySem.W.takesIn K (.ref (He.ma K (He.ga K c) m)) = some true) && match PySem.W.recIn K (He.ma K (He.ga K c) m) "property" with
  | some (.ref _ :: _) => true
  | _ => false))
theorem prB_ok {K : PySem.W.Frag} {c m : Str} (h : prB K c m = true) : PropOf K (He.ga K c) m (He.ma K (He.ga K c) m) (gtA K c m) := by
  simp only [prB, Bool.and_eq_true, decide_eq_true_eq] at h
  obtain ⟨h1, h2, h3, h4⟩ := h
  refine ⟨He.eqO_ok h1, h2, h3, ?_⟩
  unfold gtA
  split at h4
  · rename_i g r e; rw [e]; exact ⟨r, rfl⟩
  · exact absurd h4 Bool.false_ne_true
/-- what stands at a, of a def -/
def atA (K : PySem.W.Frag) (a : Addr) : He.FnW := match K.lookup a with
  | some ⟨_, _, .func e, _⟩ => some (e.name, e.qualname, e.params, e.body, e.scope, e.globals, e.closure, e.builtins)
  | _ => none
/-- .. and that nothing is odd about it -/
def gtB (K : PySem.W.Frag) (a : Addr) (qual : Str) : Bool := PySem.W.keepIn K (.ref a) && match K.lookup a with
  | some ⟨_, _, .func e, _⟩ => PySem.W.codeIn K e.code qual && He.dflB K e.defaults []
  | _ => false
theorem fun_at {K : PySem.W.Frag} {a : Addr} {d : He.DefD} (e : atA K a = d.val) (c : gtB K a d.qual = true) : ∃ fd, FunD K d.name d.qual d.params d.body d.scope [] [] a fd := by
  simp only [gtB, Bool.and_eq_true] at c
  obtain ⟨kp, c⟩ := c
  unfold atA at e
  split at e
  · rename_i oc od g osl lk
    rw [lk] at c
    obtain ⟨n1, n2, n3, n4, n5, n6, n7, n8, n9, n10, n11, n12, n13, n14, n15⟩ := g
    have e2 : (some (n1, n2, n3, n4, n5, n6, n7, n15) : He.FnW) = some (d.name, d.qual, d.params, .stmts d.body, d.scope, mainGlobals, [], builtinsNs) := e
    simp only [Option.some.injEq, Prod.mk.injEq] at e2
    obtain ⟨rfl, rfl, rfl, rfl, rfl, rfl, rfl, rfl⟩ := e2
    obtain ⟨k1, k2⟩ := Bool.and_eq_true_iff.mp c
    exact ⟨_, ⟨oc, od, n8, n9, n10, n11, n12, n13, n14, osl, rfl, lk, k1, He.dflB_ok k2, .inl rfl⟩, kp⟩
  · cases e
/-- a getter, by class and name -/
def gtOf (K : PySem.W.Frag) (d : He.DefD) : Addr := gtA K d.at_.1 (d.at_.2.getD d.name)
def gtAll (K : PySem.W.Frag) (gs : List He.DefD) : Bool := gs.all fun d => prB K d.at_.1 (d.at_.2.getD d.name) && gtB K (gtOf K d) d.qual
/-- a method that == or len asks -/
def spB (K : PySem.W.Frag) (q : Str × Str) : Bool := He.eqO (PySem.W.findIn K (.ref (He.ga K q.1)) q.2) (some (some (.ref (He.ma K (He.ga K q.1) q.2)))) && (PySem.W.isFn K (.ref (He.ma K (He.ga K q.1) q.2)) && PySem.W.notFirst K (He.ga K q.1) (.type "tuple"))
abbrev AlT : Type := He.AlD × Bool × List He.FnW
def SaysT (fa : List He.Fa) (fn gs : List He.DefD) (ex : PySem.W.Frag → Bool) (K : PySem.W.Frag) : Prop := He.SaysD fa fn K ∧ (ex K && gtAll K gs) = true ∧ gs.map (fun d => atA K (gtOf K d)) = gs.map He.DefD.val
def obsTG (n : Nat) (fa : List He.Fa) (fn gs : List He.DefD) (ex : PySem.W.Frag → Bool) (g : Addr → Option Obj) : AlT := (He.obsDG n fa fn g, (ex (He.frG g (He.asD g n)) && gtAll (He.frG g (He.asD g n)) gs), gs.map fun d => atA (He.frG g (He.asD g n)) (gtOf (He.frG g (He.asD g n)) d))
def hookT (n : Nat) (fa : List He.Fa) (fn gs : List He.DefD) (ex : PySem.W.Frag → Bool) : PySem.W.Hook where
  α := AlT
  obs := fun s => obsTG n fa fn gs ex s.heap.get?
  val := fun _ => (He.valD fn, true, gs.map He.DefD.val)
  says := fun _ h => ∃ K : PySem.W.Frag, K.In h ∧ SaysT fa fn gs ex K
  of := fun _ _ e => ⟨_, He.frG_in, congrArg (fun z : AlT => z.1) e, congrArg (fun z : AlT => z.2.1) e, congrArg (fun z : AlT => z.2.2) e⟩
  keeps := fun _ _ _ ⟨K, hK, c⟩ k => ⟨K, PySem.W.Frag.In.keeps hK k, c⟩
theorem obsTG_eq {n : Nat} {fa : List He.Fa} {fn gs : List He.DefD} {ex : PySem.W.Frag → Bool} {g : Addr → Option Obj} {s : Shared} (h : ∀ a, g a = s.heap.get? a) : obsTG n fa fn gs ex g = (hookT n fa fn gs ex).obs s := by
  have e : g = s.heap.get? := funext h
  rw [e] <;> rfl
/-! ### a def of the top -/
theorem SaysT.gt {fa : List He.Fa} {fn gs : List He.DefD} {ex : PySem.W.Frag → Bool} {K : PySem.W.Frag} (c : SaysT fa fn gs ex K) {j : Nat} {d : He.DefD} (e : gs[j]? = some d) : ∃ fd, FunD K d.name d.qual d.params d.body d.scope [] [] (gtOf K d) fd := by
  have h1 := (Bool.and_eq_true_iff.mp c.2.1).2
  have h2 := Bool.and_eq_true_iff.mp (List.all_eq_true.mp h1 d (List.mem_of_getElem? e))
  have h3 : (gs.map fun d => atA K (gtOf K d))[j]? = (gs.map He.DefD.val)[j]? := by rw [c.2.2]
  rw [List.getElem?_map, List.getElem?_map, e] at h3
  exact fun_at (Option.some.inj h3) h2.2
theorem SaysT.pr {fa : List He.Fa} {fn gs : List He.DefD} {ex : PySem.W.Frag → Bool} {K : PySem.W.Frag} (c : SaysT fa fn gs ex K) {j : Nat} {d : He.DefD} (e : gs[j]? = some d) : prB K d.at_.1 (d.at_.2.getD d.name) = true :=
  (Bool.and_eq_true_iff.mp (List.all_eq_true.mp (Bool.and_eq_true_iff.mp c.2.1).2 d (List.mem_of_getElem? e))).1
theorem fun_of {K : PySem.W.Frag} {x qual : Str} {st : Stmt} {f : Addr} {fd : FuncData} (F : FunD K x qual (defArgs st) (defBody st) (defScope st) [] [] f fd) : Fun K x qual st f fd := by
  obtain ⟨oc, od, dV, kV, doc, pm, an, cdv, ct, osl, e, lk, hcd, hD, hK⟩ := F.ex
  rcases hD with ⟨_, rfl⟩ | ⟨ne, _⟩
  · exact ⟨⟨oc, od, kV, doc, pm, an, cdv, ct, osl, e, lk, hcd⟩, F.kp⟩
  · exact absurd rfl ne
/-! ### tables -/
section
variable {T : Tab} {Φ : Fns} {P : Program} {w : World} {K : PySem.W.Frag} {mg : Str → Option Value} {base : Heap}
def newB (T : Tab) (x : Str) : Bool := (T.fns.all fun q => !decide (q.1 = x)) && ((T.mks.all fun q => !decide (q.1 = x)) && ((T.mts.all fun q => !decide (q.k = x)) && ((T.prs.all fun q => !decide (q.k = x)) && T.sps.all fun q => !decide (q.k = x))))
theorem tab_more (tab : TabOk T Φ P w K mg base) {x : Str} {n : Nat} {b : List S} (hn : newB T x = true) : TabOk T (more Φ x n b) P w K mg base := by
  simp only [newB, Bool.and_eq_true, List.all_eq_true, Bool.not_eq_true', decide_eq_false_iff_not] at hn
  obtain ⟨h1, h2, h3, h4, h5⟩ := hn
  exact { tab with
    fns := fun q hq => by rw [more_ne (h1 q hq)]; exact tab.fns q hq
    mks := fun q hq => by rw [more_ne (h2 q hq)]; exact tab.mks q hq
    mts := fun q hq => by rw [more_ne (h3 q hq)]; exact tab.mts q hq
    prs := fun q hq => by rw [more_ne (h4 q hq)]; exact tab.prs q hq
    sps := fun q hq => by rw [more_ne (h5 q hq)]; exact tab.sps q hq }
theorem tab_fn (tab : TabOk T Φ P w K mg base) {x : Str} {st : Stmt} {fd : FuncData} {N ps : List Str} {k : Nat} {body : List S} (hn : newB T x = true) (hm : mg x = some (.ref (He.ga K x))) (Fu : Fun K x x st (He.ga K x) fd) (hb : Binds K fd ps []) (Sc : FnScope N ps (defScope st))
    (m : mSs T (plOf N (defScope st) k) body (defBody st) = true) : TabOk (T.addF x (k + 1) ps) (more Φ x N.length body) P w K mg base := by
  have t := tab_more tab (n := N.length) (b := body) hn
  refine { t with fns := fun q hq => ?_ }
  rcases List.mem_cons.mp hq with rfl | hq
  · exact ⟨hm, Fu.kp, fd, by rw [more_at]; exact fn_ok tab Fu Sc m, hb⟩
  · exact t.fns q hq
theorem tab_mk (tab : TabOk T Φ P w K mg base) {x qual : Str} {st : Stmt} {fd : FuncData} {N ps : List Str} {k : Nat} {body : List S} (hn : newB T x = true) (hm : mg x = some (.ref (He.ga K x))) (hc : Cls K (He.ga K x)) (hi : insB K x = true) {fI : Addr} (hk : Mk K (He.ga K x) fI) (Fu : Fun K "__init__" qual st fI fd) (hb : Binds K fd ps [])
    (Sc : FnScope N ps (defScope st)) (m : mSs T (plOf N (defScope st) k) body (defBody st) = true) : TabOk (T.addM x (k + 1) ps) (more Φ x N.length body) P w K mg base := by
  have t := tab_more tab (n := N.length) (b := body) hn
  refine { t with isc := fun q hq => ?_, mks := fun q hq => ?_ }
  · rcases List.mem_cons.mp hq with rfl | hq
    · exact insB_ok hc hi
    · exact t.isc q hq
  · rcases List.mem_cons.mp hq with rfl | hq
    · exact ⟨hm, hc, fI, fd, hk, by rw [more_at]; exact fn_ok tab Fu Sc m, hb⟩
    · exact t.mks q hq
/-- a def that calls itself, once more -/
theorem tab_re {x : Str} {k0 : Nat} {ps : List Str} (tab : TabOk (T.addF x k0 ps) Φ P w K mg base) {st : Stmt} {fd : FuncData} {N : List Str} {k : Nat} {body : List S} (hn : newB T x = true) (hm : mg x = some (.ref (He.ga K x))) (Fu : Fun K x x st (He.ga K x) fd) (hb : Binds K fd ps []) (Sc : FnScope N ps (defScope st))
    (m : mSs (T.addF x k0 ps) (plOf N (defScope st) k) body (defBody st) = true) : TabOk (T.addF x (k + 1) ps) (more Φ x N.length body) P w K mg base := by
  have t0 : TabOk T Φ P w K mg base := { tab with fns := fun q hq => tab.fns q (List.mem_cons_of_mem _ hq) }
  have t := tab_more t0 (n := N.length) (b := body) hn
  refine { t with fns := fun q hq => ?_ }
  rcases List.mem_cons.mp hq with rfl | hq
  · exact ⟨hm, Fu.kp, fd, by rw [more_at]; exact fn_ok tab Fu Sc m, hb⟩
  · exact t.fns q hq
theorem tab_pr (tab : TabOk T Φ P w K mg base) {c m x qual : Str} {st : Stmt} {fd : FuncData} {N ps : List Str} {k : Nat} {body : List S} (hn : newB T x = true) (hc : Cls K (He.ga K c)) (hp : prB K c m = true) (Fu : Fun K m qual st (gtA K c m) fd) (hb : Binds K fd ps [])
    (Sc : FnScope N ps (defScope st)) (mm : mSs T (plOf N (defScope st) k) body (defBody st) = true) : TabOk (T.addP ⟨c, m, x, k + 1, ps⟩) (more Φ x N.length body) P w K mg base := by
  have t := tab_more tab (n := N.length) (b := body) hn
  refine { t with prs := fun q hq => ?_ }
  rcases List.mem_cons.mp hq with rfl | hq
  · exact ⟨hc, _, _, fd, prB_ok hp, by rw [more_at]; exact fn_ok tab Fu Sc mm, hb⟩
  · exact t.prs q hq
theorem tab_sp (tab : TabOk T Φ P w K mg base) {c m x qual : Str} {st : Stmt} {fd : FuncData} {N ps : List Str} {k : Nat} {body : List S} (hn : newB T x = true) (hc : Cls K (He.ga K c)) (hp : spB K (c, m) = true) (Fu : Fun K m qual st (He.ma K (He.ga K c) m) fd) (hb : Binds K fd ps [])
    (Sc : FnScope N ps (defScope st)) (mm : mSs T (plOf N (defScope st) k) body (defBody st) = true) : TabOk (T.addS ⟨c, m, x, k + 1, ps⟩) (more Φ x N.length body) P w K mg base := by
  have t := tab_more tab (n := N.length) (b := body) hn
  simp only [spB, Bool.and_eq_true] at hp
  obtain ⟨h1, h2, h3⟩ := hp
  refine { t with sps := fun q hq => ?_ }
  rcases List.mem_cons.mp hq with rfl | hq
  · exact ⟨hc, h3, _, fd, He.eqO_ok h1, h2, by rw [more_at]; exact fn_ok tab Fu Sc mm, hb⟩
  · exact t.sps q hq
end
end TL

set_option Elab.async false
set_option linter.all false
set_option maxRecDepth 100000
set_option maxHeartbeats 8000000
/-! LUG: the law's def, called. -/
namespace TL
open PySem PySem.Spec PyProof.Rows L2
def noLst (K : PySem.W.Frag) : Bool := K.all fun q => !decide (q.2.cls = .type "list")
theorem noLst_ok {K : PySem.W.Frag} (h : noLst K = true) {a : Addr} {o : Obj} (e : K.lookup a = some o) : o.cls ≠ .type "list" := fun c => by
  have : ∃ b, (b, o) ∈ K := by
    clear h
    induction K with
    | nil => cases e
    | cons p r ih =>
      obtain ⟨b, u⟩ := p
      rw [List.lookup_cons] at e
      split at e
      · cases e; exact ⟨b, List.mem_cons_self⟩
      · obtain ⟨c, hc⟩ := ih e; exact ⟨c, List.mem_cons_of_mem _ hc⟩
  obtain ⟨b, hb⟩ := this
  have := List.all_eq_true.mp h _ hb
  simp [c] at this
theorem sp_law {w : World} {K : PySem.W.Frag} {φ : List Val → List (Option Val) → FR} {H : Hp} {a : Addr} {ns : List Int} {E : XK} (nl : noLst K = true) (hS : SqL K H a (ns.map V.int)) (q : ∃ w', φ [.lst (ns.map .int)] [] = .ok (.bl true) false w') :
    SpD w K 1 φ [.ref a] H (fun v _ => v = .bl true) E := by
  have hr : Rd H a (.lst (ns.map V.int)) := hS.elim id fun ⟨o, its, n, h1, h2, _⟩ => absurd h2 (noLst_ok nl h1)
  have rel : Rel ⟨w, K, H, H, [], fun _ => false⟩ H [] [] ⟨[], []⟩ [] H := by
    have no : ∀ c a v, cellAt ⟨[], []⟩ [] [] [] c ≠ some (a, v) := fun c a v => by
      cases c with
      | slot i => simp [cellAt, slotC]
      | tmp i => simp [cellAt]
      | obj i => simp [cellAt, objC]
    exact ⟨⟨Le.refl, fun a h => .inl h, fun a u h _ _ => h, fun a h => h, fun n a _ e => absurd e (by simp)⟩, fun a u h => h, rfl, rfl, fun i b e => absurd e (by simp), fun c a v e => absurd e (no c a v), fun c c' a v v' e _ => absurd e (no c a v), fun c a v e _ => absurd e (no c a v), fun i v h _ => absurd h (by simp)⟩
  obtain ⟨w', e⟩ := q
  refine ⟨_, H, [], [], ⟨[], []⟩, [], [.lst (ns.map .int)], rfl, rfl, rel, rfl, ⟨_, _, rfl, ⟨a, _, rfl, hr, _, rfl, reps_of_ints ns⟩, rfl⟩, ?_⟩
  show match φ [.lst (ns.map .int)] [] with | .ok v fr w' => _ | .ex c fs w' => _ | .bad => False
  rw [e]
  exact fun x G' A' H' τ' s' σ' _ _ g => g.2
/-! ### what is asked of the top -/
def faOf (bs : List Str) (is : List (Str × Int)) (gs cl : List Str) (fl : List (Str × Str)) : List He.Fa := bs.map .free ++ ((is.map fun p => .int p.1 p.2) ++ (gs.map .glo ++ (cl.map .cls ++ (cl.map .mkr ++ fl.map fun p => .noat p.1 p.2))))
def exOf (cl xs : List Str) (ss : List (Str × Str)) (K : PySem.W.Frag) : Bool := ((cl.all (insB K) && ss.all (spB K)) && (xs.all fun x => excB1 K x && xs.all fun y => decide (PySem.W.exmOne K (.ref (He.ga K x)) (.ref (He.ga K y)) = some (hand x y)))) && noLst K
section
variable {bs : List Str} {is : List (Str × Int)} {gs cl : List Str} {fl : List (Str × Str)} {fn : List He.DefD} {P : Program} {w : World} {K : PySem.W.Frag} {h : Heap} {mg : Str → Option Value} {base : Heap}
theorem fact_of {fa : List He.Fa} (c : He.SaysD fa fn K) {f : He.Fa} (hf : f ∈ fa) : f.ok K = true := by
  obtain ⟨i, hi, e⟩ := List.mem_iff_getElem.mp hf
  exact c.fact i (f := f) (by rw [List.getElem?_eq_getElem hi, e])
theorem glo_of (X : K.In h) (G : h.Ns mainGlobals mg) (c : He.SaysD (faOf bs is gs cl fl) fn K) {x : Str} (hx : x ∈ gs) : mg x = some (.ref (He.ga K x)) :=
  He.glo_ok X G (fact_of c (List.mem_append_right _ (List.mem_append_right _ (List.mem_append_left _ (List.mem_map_of_mem hx)))))
theorem cls_of (c : He.SaysD (faOf bs is gs cl fl) fn K) {x : Str} (hx : x ∈ cl) : Cls K (He.ga K x) :=
  He.cls_ok (fact_of c (List.mem_append_right _ (List.mem_append_right _ (List.mem_append_right _ (List.mem_append_left _ (List.mem_map_of_mem hx))))))
theorem mk_of (c : He.SaysD (faOf bs is gs cl fl) fn K) {x : Str} (hx : x ∈ cl) : Mk K (He.ga K x) (He.ma K (He.ga K x) "__init__") :=
  He.mkr_ok (fact_of c (List.mem_append_right _ (List.mem_append_right _ (List.mem_append_right _ (List.mem_append_right _ (List.mem_append_left _ (List.mem_map_of_mem hx)))))))
theorem ins_of {xs : List Str} {ss : List (Str × Str)} (c : exOf cl xs ss K = true) {x : Str} (hx : x ∈ cl) : insB K x = true := List.all_eq_true.mp (Bool.and_eq_true_iff.mp (Bool.and_eq_true_iff.mp (Bool.and_eq_true_iff.mp c).1).1).1 x hx
theorem sp_of {xs : List Str} {ss : List (Str × Str)} (c : exOf cl xs ss K = true) {q : Str × Str} (hq : q ∈ ss) : spB K q = true := List.all_eq_true.mp (Bool.and_eq_true_iff.mp (Bool.and_eq_true_iff.mp (Bool.and_eq_true_iff.mp c).1).1).2 q hq
theorem exc_of {xs : List Str} {ss : List (Str × Str)} (c : exOf cl xs ss K = true) {x : Str} (hx : x ∈ xs) : excB1 K x = true ∧ ∀ y ∈ xs, PySem.W.exmOne K (.ref (He.ga K x)) (.ref (He.ga K y)) = some (hand x y) := by
  have := List.all_eq_true.mp (Bool.and_eq_true_iff.mp (Bool.and_eq_true_iff.mp c).1).2 x hx
  obtain ⟨h1, h2⟩ := Bool.and_eq_true_iff.mp this
  exact ⟨h1, fun y hy => of_decide_eq_true (List.all_eq_true.mp h2 y hy)⟩
theorem tab0 {xs : List Str} {ss : List (Str × Str)} (X : K.In h) (G : h.Ns mainGlobals mg) (c : He.SaysD (faOf bs is gs cl fl) fn K) (cx : exOf cl xs ss K = true) (hfl : ∀ q ∈ fl, q.1 ∈ cl) (hxs : ∀ x ∈ xs, x ∈ gs) : TabOk ⟨bs, is, [], [], [], [], [], fl, xs.map fun x => (x, [])⟩ (fun _ _ _ => .bad) P w K mg base :=
  ⟨fun x hx => He.free_ok X G (fact_of c (List.mem_append_left _ (List.mem_map_of_mem hx))), fun x i hx => He.int_ok X G (fact_of c (List.mem_append_right _ (List.mem_append_left _ (List.mem_map.mpr ⟨(x, i), hx, rfl⟩)))), nofun, nofun, nofun, nofun, nofun, nofun,
    fun q hq => ⟨cls_of c (hfl q hq), He.noat_ok (fact_of c (List.mem_append_right _ (List.mem_append_right _ (List.mem_append_right _ (List.mem_append_right _ (List.mem_append_right _ (List.mem_map.mpr ⟨q, hq, rfl⟩)))))))⟩,
    fun q hq => by
      obtain ⟨x, hx, rfl⟩ := List.mem_map.mp hq
      have e := exc_of cx hx
      exact ⟨glo_of X G c (hxs x hx), e.1, fun r hr => by
        obtain ⟨y, hy, rfl⟩ := List.mem_map.mp hr
        exact e.2 y hy⟩⟩
/-- the law's def lets nothing out that is not asked for -/
theorem no_out {outer : List Env} {H : Hp} {s : Shared} {e : Value} {s' : Shared} (h : L2.CX P w outer H s (fun _ _ _ => False) e s') : False := by
  obtain ⟨_, _, _, _, _, _, _, _, _, _, _, _, z⟩ := h
  exact z
end
theorem walk_w {l : PySem.W.OpenLaw} {n k : Nat} {q : Program} {loose : List Str} {XP : (Str → Option Value) → Heap → Prop} {YP : World → Heap → Prop} {d : DefRec} {x : Str} (hn : l.most = some n) (hz : n ≤ sizeLine) (hd : d.params.defaults = []) (hr : Room k callerA)
    (F : ∀ (w : World) (mg : Str → Option Value) (fa : Addr) (h : Heap), YP w h → h.Ns mainGlobals mg → mg d.name = some (.ref fa) → ∃ (K : PySem.W.Frag) (fd : FuncData) (sp : Sp), K.In h ∧ (∀ (s : Shared) (u : Value), BindsTo s fd ⟨[u], []⟩ [(x, u)]) ∧
        (∀ (H : Hp) (a : Addr) (ns : List Int), ns.length ≤ n → SqL K H a (ns.map V.int) → sp [.ref a] H (fun v _ => v = .bl true) fun _ _ _ => False) ∧ ∀ base : Heap, K.In base → base.Ns mainGlobals mg → FnOk l.prog w K mg base (L2.CX l.prog w) k fa fd [x] sp) :
    PySem.W.WalkO q loose XP YP l.row.toRowW d [] (fun f vs => PySem.call f vs) :=
  Att.attach_call hn hd fun w _ s mg _ fa _ _ _ _ a _ ns G Y h1 h2 h3 h4 h5 h6 h7 h8 => by
    obtain ⟨K, fd, sp, k1, k2, k3, k4⟩ := F w mg fa _ Y G.T.g h4
    exact law_call k1 G.T.g G.T.b G.T.builtins G.T.nolimit h8 h5 h6 (Nat.le_trans h7 hz) hr k4 k2 (fun H _ z => k3 H a ns h7 z) fun _ _ _ => no_out
end TL

set_option Elab.async false
set_option linter.all false
set_option maxRecDepth 100000
/-! LVA: running trees by rewriting; loops by invariants. -/
namespace TL
open PySem PySem.Spec PyProof.Rows L2

theorem r_ok {α β : Type} {a : α} {s : Sta} {f : α → Sta → Res β} : (Res.ok a s).bind f = f a s := rfl
theorem r_ex {α β : Type} {c : Str} {fs : List (Str × Val)} {s : Sta} {f : α → Sta → Res β} : (Res.ex c fs s : Res α).bind f = .ex c fs s := rfl
abbrev EP := Str → List (Str × Val) → Sta → Prop
def noE : EP := fun _ _ _ => False
/-- a run ends well -/
def Res.W {α : Type} (r : Res α) (Q : α → Sta → Prop) (E : EP) : Prop := match r with
  | .ok a s => Q a s
  | .ex c fs s => E c fs s
  | .bad => False
abbrev EF := Str → List (Str × Val) → List (Option Val) → Prop
def noF : EF := fun _ _ _ => False
def FR.W (r : FR) (Q : Val → Bool → List (Option Val) → Prop) (E : EF) : Prop := match r with
  | .ok v fr w => Q v fr w
  | .ex c fs w => E c fs w
  | .bad => False
section
variable {α β : Type} {Q Q' : α → Sta → Prop} {E E' : EP}
theorem W_bind {r : Res α} {f : α → Sta → Res β} {Q : β → Sta → Prop} : (r.bind f).W Q E ↔ r.W (fun a s => (f a s).W Q E) E := by cases r <;> rfl
theorem W_mono {r : Res α} (h : r.W Q E) (q : ∀ a s, Q a s → Q' a s) (e : ∀ c fs s, E c fs s → E' c fs s) : r.W Q' E' := by
  cases r with
  | ok a s => exact q _ _ h
  | ex c fs s => exact e _ _ _ h
  | bad => exact h
theorem W_imp {r : Res α} (h : r.W Q E) (q : ∀ a s, Q a s → Q' a s) : r.W Q' E := W_mono h q fun _ _ _ h => h
theorem W_ok {a : α} {s : Sta} : (Res.ok a s).W Q E ↔ Q a s := Iff.rfl
theorem W_ex {c : Str} {fs : List (Str × Val)} {s : Sta} : (Res.ex c fs s : Res α).W Q E ↔ E c fs s := Iff.rfl
theorem W_eq {r : Res α} {a : α} {s : Sta} (h : r = .ok a s) (q : Q a s) : r.W Q E := h ▸ q
theorem W_get {r : Res α} (h : r.W Q noE) : ∃ a s, r = .ok a s ∧ Q a s := by
  cases r with
  | ok a s => exact ⟨a, s, rfl, h⟩
  | ex c fs s => exact h.elim
  | bad => exact h.elim
theorem FW_get {r : FR} {Q : Val → Bool → List (Option Val) → Prop} (h : r.W Q noF) : ∃ v fr w, r = .ok v fr w ∧ Q v fr w := by
  cases r with
  | ok v fr w => exact ⟨v, fr, w, rfl, h⟩
  | ex c fs s => exact h.elim
  | bad => exact h.elim
theorem FW_eq {r : FR} {v : Val} {b : Bool} {w : List (Option Val)} (h : r.W (fun v' b' w' => v' = v ∧ b' = b ∧ w' = w) noF) : r = .ok v b w := by
  obtain ⟨_, _, _, e, rfl, rfl, rfl⟩ := FW_get h
  exact e
theorem run_W {Φ : Fns} {n : Nat} {body : List S} {vs : List Val} {w : List (Option Val)} {Q : Val → Bool → List (Option Val) → Prop} {E : EF}
    (h : (evSs Φ body ⟨slots0 n vs, w⟩).W (fun f s => match f with | .ret v fr => Q v fr s.w | .nx => Q .non false s.w | .brk => False) (fun c fs s => E c fs s.w)) : (runDef Φ n body vs w).W Q E := by
  unfold runDef
  cases e : evSs Φ body ⟨slots0 n vs, w⟩ with
  | ok f s => rw [e] at h; cases f <;> exact h
  | ex c fs s => rw [e] at h; exact h
  | bad => rw [e] at h; exact h
end
/-! ### loops -/
section
variable {E : EP}
theorem forN_W {tg : Tg} {body : Sta → Res Fl} {Q : Fl → Sta → Prop} (I : List Val → Sta → Prop) : ∀ (vs : List Val) (s : Sta), I vs s →
    (∀ v vs s, I (v :: vs) s → ∃ ρ, setTg tg v s.ρ = some ρ ∧ (body ⟨ρ, s.w⟩).W (fun f s' => match f with | .nx => I vs s' | .brk => Q .nx s' | .ret v fr => Q (.ret v fr) s') E) →
    (∀ s, I [] s → Q .nx s) → (forN tg body vs s).W Q E
  | [], s, h, _, e => e s h
  | v :: vs, s, h, st, e => by
    obtain ⟨ρ, hρ, hb⟩ := st v vs s h
    unfold forN
    rw [hρ]
    show ((body ⟨ρ, s.w⟩).bind _).W Q E
    rw [W_bind]
    refine W_imp hb fun f s' q => ?_
    cases f with
    | nx => exact forN_W I vs s' q st e
    | brk => exact q
    | ret v fr => exact q
/-- over items of a kind -/
theorem forL_W {α : Type} {g : α → Val} {tg : Tg} {body : Sta → Res Fl} {Q : Fl → Sta → Prop} {xs : List α} {s : Sta} (I : List α → List α → Sta → Prop) (h : I [] xs s)
    (st : ∀ d x r s, xs = d ++ x :: r → I d (x :: r) s → ∃ ρ, setTg tg (g x) s.ρ = some ρ ∧ (body ⟨ρ, s.w⟩).W (fun f s' => match f with | .nx => I (d ++ [x]) r s' | .brk => Q .nx s' | .ret v fr => Q (.ret v fr) s') E)
    (e : ∀ s, I xs [] s → Q .nx s) : (forN tg body (xs.map g) s).W Q E := by
  refine forN_W (fun vs s => ∃ d r, xs = d ++ r ∧ vs = r.map g ∧ I d r s) _ _ ⟨[], xs, rfl, rfl, h⟩ (fun v vs s ⟨d, r, h1, h2, h3⟩ => ?_) (fun s ⟨d, r, h1, h2, h3⟩ => ?_)
  · cases r with
    | nil => cases h2
    | cons x r =>
      cases h2
      obtain ⟨ρ, hρ, hb⟩ := st d x r s h1 h3
      refine ⟨ρ, hρ, W_imp hb fun f s' q => ?_⟩
      cases f with
      | nx => exact ⟨d ++ [x], r, by simp [h1], rfl, q⟩
      | brk => exact q
      | ret v fr => exact q
  · cases r with
    | nil => rw [List.append_nil] at h1; subst h1; exact e s h3
    | cons x r => cases h2
theorem whileN_W {α : Type} {c : Sta → Res Bool} {body : Sta → Res Fl} {Q : Fl → Sta → Prop} (I : α → Sta → Prop) (μ : α → Nat)
    (st : ∀ a s, I a s → (c s).W (fun b s' => if b then (body s').W (fun f s2 => match f with | .nx => ∃ a', μ a' < μ a ∧ I a' s2 | .brk => Q .nx s2 | .ret v fr => Q (.ret v fr) s2) E else Q .nx s') E) :
    ∀ (n : Nat) (a : α) (s : Sta), I a s → μ a < n → (whileN c body n s).W Q E
  | 0, a, s, _, h => absurd h (Nat.not_lt_zero _)
  | n + 1, a, s, h, hn => by
    unfold whileN
    rw [W_bind]
    refine W_imp (st a s h) fun b s' q => ?_
    cases b with
    | false => exact q
    | true =>
      simp only [if_true] at q ⊢
      rw [W_bind]
      refine W_imp q fun f s2 q => ?_
      cases f with
      | nx => obtain ⟨a', h1, h2⟩ := q; exact whileN_W I μ st n a' s2 h2 (by omega)
      | brk => exact q
      | ret v fr => exact q
theorem foldR_W {α β : Type} {f : α → β → Sta → Res β} {Q : β → Sta → Prop} {xs : List α} {b : β} {s : Sta} (I : List α → List α → β → Sta → Prop) (h : I [] xs b s)
    (st : ∀ d x r b s, xs = d ++ x :: r → I d (x :: r) b s → (f x b s).W (fun b' s' => I (d ++ [x]) r b' s') E) (e : ∀ b s, I xs [] b s → Q b s) : (foldR f xs b s).W Q E := by
  have key : ∀ (r : List α) (d : List α) (b : β) (s : Sta), xs = d ++ r → I d r b s → (foldR f r b s).W Q E := fun r => by
    induction r with
    | nil => intro d b s h1 h2; rw [List.append_nil] at h1; subst h1; exact e b s h2
    | cons x r ih =>
      intro d b s h1 h2
      unfold foldR
      rw [W_bind]
      exact W_imp (st d x r b s h1 h2) fun b' s' q => ih (d ++ [x]) b' s' (by simp [h1]) q
  exact key xs [] b s rfl h
theorem noEx_W {α : Type} {r : Res α} {Q : α → Sta → Prop} (h : r.W Q noE) : (noEx r).W Q E := by
  obtain ⟨a, s, e, q⟩ := W_get h
  subst e
  exact q
end
/-! ### comprehensions of values -/
section
variable {Φ : Fns}
theorem foldR_map {f : Val → List Val → Sta → Res (List Val)} {g : Val → Val} {s : Sta} : ∀ (vs acc : List Val), (∀ v ∈ vs, ∀ acc : List Val, acc.length < sizeLine → f v acc s = .ok (acc ++ [g v]) s) → acc.length + vs.length ≤ sizeLine →
    foldR f vs acc s = .ok (acc ++ vs.map g) s
  | [], acc, _, _ => by simp [foldR]
  | v :: vs, acc, h, hl => by
    simp only [List.length_cons] at hl
    unfold foldR
    rw [h v List.mem_cons_self acc (by omega)]
    show foldR f vs (acc ++ [g v]) s = _
    rw [foldR_map vs _ (fun u hu => h u (List.mem_cons_of_mem _ hu)) (by simp; omega)]
    simp
theorem foldR_filt {f : Val → List Val → Sta → Res (List Val)} {p : Val → Bool} {g : Val → Val} {s : Sta} : ∀ (vs acc : List Val), (∀ v ∈ vs, ∀ acc : List Val, acc.length < sizeLine → f v acc s = .ok (if p v then acc ++ [g v] else acc) s) → acc.length + vs.length ≤ sizeLine →
    foldR f vs acc s = .ok (acc ++ (vs.filter p).map g) s
  | [], acc, _, _ => by simp [foldR]
  | v :: vs, acc, h, hl => by
    simp only [List.length_cons] at hl
    unfold foldR
    rw [h v List.mem_cons_self acc (by omega)]
    cases hp : p v with
    | true =>
      show foldR f vs (acc ++ [g v]) s = _
      rw [foldR_filt vs _ (fun u hu => h u (List.mem_cons_of_mem _ hu)) (by simp; omega)]
      simp [hp]
    | false =>
      show foldR f vs acc s = _
      rw [foldR_filt vs _ (fun u hu => h u (List.mem_cons_of_mem _ hu)) (by omega)]
      simp [hp]
/-- a comprehension whose parts change nothing -/
theorem comp_map {α : Type} {elt : E} {tg : Tg} {wk : Wk} {src : List E} {own : List (Str × Nat)} {s s1 : Sta} {vs : List Val} {xs : List α} {k g : α → Val}
    (h1 : evs Φ src s = .ok vs s1) (h2 : walk wk vs = some (xs.map k)) (hl : xs.length ≤ sizeLine)
    (h : ∀ x ∈ xs, ∃ ρ fr ρ', setTg tg (k x) (wipeS s1.ρ (own.map (·.2))) = some ρ ∧ ev Φ elt ⟨ρ, s1.w⟩ = .ok (g x, fr) ⟨ρ', s1.w⟩ ∧ wipeS ρ' (own.map (·.2)) = wipeS s1.ρ (own.map (·.2))) :
    ev Φ (.comp elt tg wk src none own) s = .ok (.lst (xs.map g), true) ⟨backS s1.ρ (wipeS s1.ρ (own.map (·.2))) (own.map (·.2)), s1.w⟩ := by
  have hf : ∀ (xs : List α) (acc : List Val), (∀ x ∈ xs, ∃ ρ fr ρ', setTg tg (k x) (wipeS s1.ρ (own.map (·.2))) = some ρ ∧ ev Φ elt ⟨ρ, s1.w⟩ = .ok (g x, fr) ⟨ρ', s1.w⟩ ∧ wipeS ρ' (own.map (·.2)) = wipeS s1.ρ (own.map (·.2))) → acc.length + xs.length ≤ sizeLine →
      foldR (fun v (acc : List Val) s => match setTg tg v s.ρ with
        | none => .bad
        | some ρ => (ev Φ elt ⟨ρ, s.w⟩).bind fun x s => if acc.length < sizeLine then .ok (acc ++ [x.1]) ⟨wipeS s.ρ (own.map (·.2)), s.w⟩ else .bad) (xs.map k) acc ⟨wipeS s1.ρ (own.map (·.2)), s1.w⟩ = .ok (acc ++ xs.map g) ⟨wipeS s1.ρ (own.map (·.2)), s1.w⟩ := fun xs => by
    induction xs with
    | nil => intro acc _ _; simp [foldR]
    | cons x xs ih =>
      intro acc h hl
      simp only [List.length_cons] at hl
      obtain ⟨ρ, fr, ρ', e1, e2, e3⟩ := h x List.mem_cons_self
      simp only [List.map_cons, foldR, e1, e2, r_ok, e3]
      rw [if_pos (by omega)]
      simp only [r_ok]
      rw [ih _ (fun y hy => h y (List.mem_cons_of_mem _ hy)) (by simp; omega)]
      simp
  simp only [ev, h1, r_ok, h2, optR]
  exact (congrArg (fun z => (noEx z).bind fun acc s' => Res.ok (Val.lst acc, true) ⟨backS s1.ρ s'.ρ (own.map (·.2)), s'.w⟩) (hf xs [] h (by simpa using hl)))
/-- .. with a test -/
theorem comp_filt {α : Type} {elt : E} {c : Ts} {tg : Tg} {wk : Wk} {src : List E} {own : List (Str × Nat)} {s s1 : Sta} {vs : List Val} {xs : List α} {k g : α → Val} {p : α → Bool}
    (h1 : evs Φ src s = .ok vs s1) (h2 : walk wk vs = some (xs.map k)) (hl : xs.length ≤ sizeLine)
    (h : ∀ x ∈ xs, ∃ ρ ρ', setTg tg (k x) (wipeS s1.ρ (own.map (·.2))) = some ρ ∧ evT Φ c ⟨ρ, s1.w⟩ = .ok (p x) ⟨ρ', s1.w⟩ ∧ wipeS ρ' (own.map (·.2)) = wipeS s1.ρ (own.map (·.2)) ∧
      (p x = true → ∃ fr ρ2, ev Φ elt ⟨ρ', s1.w⟩ = .ok (g x, fr) ⟨ρ2, s1.w⟩ ∧ wipeS ρ2 (own.map (·.2)) = wipeS s1.ρ (own.map (·.2)))) :
    ev Φ (.comp elt tg wk src (some c) own) s = .ok (.lst ((xs.filter p).map g), true) ⟨backS s1.ρ (wipeS s1.ρ (own.map (·.2))) (own.map (·.2)), s1.w⟩ := by
  have hf : ∀ (xs : List α) (acc : List Val), (∀ x ∈ xs, ∃ ρ ρ', setTg tg (k x) (wipeS s1.ρ (own.map (·.2))) = some ρ ∧ evT Φ c ⟨ρ, s1.w⟩ = .ok (p x) ⟨ρ', s1.w⟩ ∧ wipeS ρ' (own.map (·.2)) = wipeS s1.ρ (own.map (·.2)) ∧
      (p x = true → ∃ fr ρ2, ev Φ elt ⟨ρ', s1.w⟩ = .ok (g x, fr) ⟨ρ2, s1.w⟩ ∧ wipeS ρ2 (own.map (·.2)) = wipeS s1.ρ (own.map (·.2)))) → acc.length + xs.length ≤ sizeLine →
      foldR (fun v (acc : List Val) s => match setTg tg v s.ρ with
        | none => .bad
        | some ρ => (evT Φ c ⟨ρ, s.w⟩).bind fun b s => if b then (ev Φ elt s).bind fun x s => if acc.length < sizeLine then .ok (acc ++ [x.1]) ⟨wipeS s.ρ (own.map (·.2)), s.w⟩ else .bad
              else .ok acc ⟨wipeS s.ρ (own.map (·.2)), s.w⟩) (xs.map k) acc ⟨wipeS s1.ρ (own.map (·.2)), s1.w⟩ = .ok (acc ++ (xs.filter p).map g) ⟨wipeS s1.ρ (own.map (·.2)), s1.w⟩ := fun xs => by
    induction xs with
    | nil => intro acc _ _; simp [foldR]
    | cons x xs ih =>
      intro acc h hl
      simp only [List.length_cons] at hl
      obtain ⟨ρ, ρ', e1, e2, e3, e4⟩ := h x List.mem_cons_self
      cases hp : p x with
      | true =>
        obtain ⟨fr, ρ2, e5, e6⟩ := e4 hp
        simp only [List.map_cons, foldR, e1, e2, r_ok, hp, if_true, e5, e6]
        rw [if_pos (by omega)]
        simp only [r_ok]
        rw [ih _ (fun y hy => h y (List.mem_cons_of_mem _ hy)) (by simp; omega)]
        simp [hp]
      | false =>
        simp only [List.map_cons, foldR, e1, e2, r_ok, hp, e3]
        simp only [Bool.false_eq_true, if_false, r_ok]
        rw [ih _ (fun y hy => h y (List.mem_cons_of_mem _ hy)) (by omega)]
        simp [hp]
  simp only [ev, h1, r_ok, h2, optR]
  exact (congrArg (fun z => (noEx z).bind fun acc s' => Res.ok (Val.lst acc, true) ⟨backS s1.ρ s'.ρ (own.map (·.2)), s'.w⟩) (hf xs [] h (by simpa using hl)))
/-- a comprehension that changes the world -/
theorem W_comp_eff {α : Type} {elt : E} {tg : Tg} {wk : Wk} {src : List E} {own : List (Str × Nat)} {s : Sta} {Q : Val × Bool → Sta → Prop} {E : EP} (xs : List α) (k : α → Val) (I : List α → List Val → List (Option Val) → Prop)
    (h : (evs Φ src s).W (fun vs s1 => walk wk vs = some (xs.map k) ∧ xs.length ≤ sizeLine ∧ I [] [] s1.w ∧
      (∀ d x r acc w, xs = d ++ x :: r → acc.length = d.length → I d acc w → ((optR (setTg tg (k x) (wipeS s1.ρ (own.map (·.2)))) ⟨[], w⟩).bind fun ρ _ => ev Φ elt ⟨ρ, w⟩).W (fun r s' => wipeS s'.ρ (own.map (·.2)) = wipeS s1.ρ (own.map (·.2)) ∧ I (d ++ [x]) (acc ++ [r.1]) s'.w) noE) ∧
      (∀ acc w, acc.length = xs.length → I xs acc w → Q (.lst acc, true) ⟨backS s1.ρ (wipeS s1.ρ (own.map (·.2))) (own.map (·.2)), w⟩)) noE) :
    (ev Φ (.comp elt tg wk src none own) s).W Q E := by
  obtain ⟨vs, s1, h1, h2, h3, h4, h5, h6⟩ := W_get h
  simp only [ev, h1, r_ok, h2, optR]
  have key : ∀ (r d : List α) (acc : List Val) (w : List (Option Val)), xs = d ++ r → acc.length = d.length → I d acc w → ∃ acc' w', acc'.length = xs.length ∧ I xs acc' w' ∧
      foldR (fun v (acc : List Val) s => match setTg tg v s.ρ with
        | none => .bad
        | some ρ => (ev Φ elt ⟨ρ, s.w⟩).bind fun x s => if acc.length < sizeLine then .ok (acc ++ [x.1]) ⟨wipeS s.ρ (own.map (·.2)), s.w⟩ else .bad) (r.map k) acc ⟨wipeS s1.ρ (own.map (·.2)), w⟩ = .ok acc' ⟨wipeS s1.ρ (own.map (·.2)), w'⟩ := fun r => by
    induction r with
    | nil => intro d acc w e l i; rw [List.append_nil] at e; subst e; exact ⟨acc, w, l, i, rfl⟩
    | cons x r ih =>
      intro d acc w e l i
      have := h5 d x r acc w e l i
      cases e1 : setTg tg (k x) (wipeS s1.ρ (own.map (·.2))) with
      | none => rw [e1] at this; exact this.elim
      | some ρ =>
        rw [e1] at this
        obtain ⟨⟨v, fr⟩, ⟨ρ', w'⟩, e2, e3, e4⟩ := W_get this
        replace e2 : ev Φ elt ⟨ρ, w⟩ = .ok (v, fr) ⟨ρ', w'⟩ := e2
        simp only at e3 e4
        obtain ⟨acc2, w2, f1, f2, f3⟩ := ih (d ++ [x]) (acc ++ [v]) w' (by simp [e]) (by simp [l]) e4
        refine ⟨acc2, w2, f1, f2, ?_⟩
        simp only [List.map_cons, foldR, e1, e2, r_ok, e3]
        rw [if_pos (by rw [e] at h3; simp only [List.length_append, List.length_cons] at h3; omega)]
        exact f3
  obtain ⟨acc, w', l, i, e⟩ := key xs [] [] s1.w rfl rfl h4
  have := congrArg (fun z => (noEx z).bind fun acc s' => Res.ok (Val.lst acc, true) ⟨backS s1.ρ s'.ρ (own.map (·.2)), s'.w⟩) e
  exact W_eq this (h6 acc w' l i)
/-- the same, as ends -/
def bodyW (Φ : Fns) (elt : E) (tg : Tg) (own : List Nat) (ρ0 : List Slot) (w : List (Option Val)) (v g : Val) : Prop :=
  ((optR (setTg tg v ρ0) ⟨ρ0, w⟩).bind fun ρ _ => ev Φ elt ⟨ρ, w⟩).W (fun r s' => r.1 = g ∧ s'.w = w ∧ wipeS s'.ρ own = ρ0) noE
def bodyF (Φ : Fns) (elt : E) (c : Ts) (tg : Tg) (own : List Nat) (ρ0 : List Slot) (w : List (Option Val)) (v g : Val) (p : Bool) : Prop :=
  ((optR (setTg tg v ρ0) ⟨ρ0, w⟩).bind fun ρ _ => evT Φ c ⟨ρ, w⟩).W (fun b s' => b = p ∧ s'.w = w ∧ wipeS s'.ρ own = ρ0 ∧ (p = true → (ev Φ elt s').W (fun r s' => r.1 = g ∧ s'.w = w ∧ wipeS s'.ρ own = ρ0) noE)) noE
theorem bodyW_get {elt : E} {tg : Tg} {own : List Nat} {ρ0 : List Slot} {w : List (Option Val)} {v g : Val} (h : bodyW Φ elt tg own ρ0 w v g) :
    ∃ ρ fr ρ', setTg tg v ρ0 = some ρ ∧ ev Φ elt ⟨ρ, w⟩ = .ok (g, fr) ⟨ρ', w⟩ ∧ wipeS ρ' own = ρ0 := by
  unfold bodyW at h
  cases e : setTg tg v ρ0 with
  | none => rw [e] at h; exact h.elim
  | some ρ =>
    rw [e] at h
    obtain ⟨⟨r, fr⟩, ⟨ρ', w'⟩, h1, h2, h3, h4⟩ := W_get h
    simp only at h2 h3 h4
    subst h2 h3
    exact ⟨ρ, fr, ρ', rfl, h1, h4⟩
theorem W_comp_map {α : Type} {elt : E} {tg : Tg} {wk : Wk} {src : List E} {own : List (Str × Nat)} {s : Sta} {Q : Val × Bool → Sta → Prop} {E : EP} (xs : List α) (k g : α → Val)
    (h : (evs Φ src s).W (fun vs s1 => walk wk vs = some (xs.map k) ∧ xs.length ≤ sizeLine ∧ (∀ x ∈ xs, bodyW Φ elt tg (own.map (·.2)) (wipeS s1.ρ (own.map (·.2))) s1.w (k x) (g x)) ∧ Q (.lst (xs.map g), true) ⟨backS s1.ρ (wipeS s1.ρ (own.map (·.2))) (own.map (·.2)), s1.w⟩) noE) :
    (ev Φ (.comp elt tg wk src none own) s).W Q E := by
  obtain ⟨vs, s1, h1, h2, h3, h4, h5⟩ := W_get h
  rw [comp_map h1 h2 h3 fun x hx => bodyW_get (h4 x hx)]
  exact h5
theorem W_comp_filt {α : Type} {elt : E} {c : Ts} {tg : Tg} {wk : Wk} {src : List E} {own : List (Str × Nat)} {s : Sta} {Q : Val × Bool → Sta → Prop} {E : EP} (xs : List α) (k g : α → Val) (p : α → Bool)
    (h : (evs Φ src s).W (fun vs s1 => walk wk vs = some (xs.map k) ∧ xs.length ≤ sizeLine ∧ (∀ x ∈ xs, bodyF Φ elt c tg (own.map (·.2)) (wipeS s1.ρ (own.map (·.2))) s1.w (k x) (g x) (p x)) ∧ Q (.lst ((xs.filter p).map g), true) ⟨backS s1.ρ (wipeS s1.ρ (own.map (·.2))) (own.map (·.2)), s1.w⟩) noE) :
    (ev Φ (.comp elt tg wk src (some c) own) s).W Q E := by
  obtain ⟨vs, s1, h1, h2, h3, h4, h5⟩ := W_get h
  rw [comp_filt h1 h2 h3 fun x hx => ?_]
  · exact h5
  · have := h4 x hx
    unfold bodyF at this
    cases e : setTg tg (k x) (wipeS s1.ρ (own.map (·.2))) with
    | none => rw [e] at this; exact this.elim
    | some ρ =>
      rw [e] at this
      obtain ⟨b, ⟨ρ', w'⟩, e1, e2, e3, e4, e5⟩ := W_get this
      simp only at e3 e4 e5
      subst e2 e3
      refine ⟨ρ, ρ', rfl, e1, e4, fun hp => ?_⟩
      obtain ⟨⟨r, fr⟩, ⟨ρ2, w2⟩, f1, f2, f3, f4⟩ := W_get (e5 hp)
      simp only at f2 f3 f4
      subst f2 f3
      exact ⟨fr, ρ2, f1, f4⟩
/-- a dict comprehension -/
def bodyD (Φ : Fns) (t : Bool) (key elt : E) (tg : Tg) (own : List Nat) (ρ0 : List Slot) (w : List (Option Val)) (v : Val) (k : NestedKey) (g : Val) : Prop :=
  ((optR (setTg tg v ρ0) ⟨ρ0, w⟩).bind fun ρ _ => (ev Φ key ⟨ρ, w⟩).bind fun kv s => (ev Φ elt s).bind fun x s => .ok (kv.1, x.1) s).W (fun r s' => keyOf t r.1 = some k ∧ r.2 = g ∧ s'.w = w ∧ wipeS s'.ρ own = ρ0) noE
theorem bodyD_get {t : Bool} {key elt : E} {tg : Tg} {own : List Nat} {ρ0 : List Slot} {w : List (Option Val)} {v g : Val} {k : NestedKey} (h : bodyD Φ t key elt tg own ρ0 w v k g) :
    ∃ ρ kv f1 s1 f2 ρ', setTg tg v ρ0 = some ρ ∧ ev Φ key ⟨ρ, w⟩ = .ok (kv, f1) s1 ∧ ev Φ elt s1 = .ok (g, f2) ⟨ρ', w⟩ ∧ keyOf t kv = some k ∧ wipeS ρ' own = ρ0 := by
  unfold bodyD at h
  cases e : setTg tg v ρ0 with
  | none => rw [e] at h; exact h.elim
  | some ρ =>
    rw [e] at h
    have h' : ((ev Φ key ⟨ρ, w⟩).bind fun kv s => (ev Φ elt s).bind fun x s => .ok (kv.1, x.1) s).W (fun r s' => keyOf t r.1 = some k ∧ r.2 = g ∧ s'.w = w ∧ wipeS s'.ρ own = ρ0) noE := h
    rw [W_bind] at h'
    obtain ⟨⟨kv, f1⟩, s1, h1, h2⟩ := W_get h'
    rw [W_bind] at h2
    obtain ⟨⟨x, f2⟩, ⟨ρ', w'⟩, h3, h4, h5, h6, h7⟩ := W_get h2
    simp only at h4 h5 h6 h7
    subst h5 h6
    exact ⟨ρ, kv, f1, s1, f2, ρ', rfl, h1, h3, h4, h7⟩
theorem W_dcomp {α : Type} {t : Bool} {key elt : E} {tg : Tg} {wk : Wk} {src : List E} {own : List (Str × Nat)} {s : Sta} {Q : Val × Bool → Sta → Prop} {E : EP} (xs : List α) (k : α → Val) (kf : α → NestedKey) (g : α → Val)
    (h : (evs Φ src s).W (fun vs s1 => walk wk vs = some (xs.map k) ∧ xs.length ≤ sizeLine ∧ (∀ x ∈ xs, bodyD Φ t key elt tg (own.map (·.2)) (wipeS s1.ρ (own.map (·.2))) s1.w (k x) (kf x) (g x)) ∧ Q (.dct t (xs.foldl (fun acc x => dPut acc (kf x) (g x)) []), true) ⟨backS s1.ρ (wipeS s1.ρ (own.map (·.2))) (own.map (·.2)), s1.w⟩) noE) :
    (ev Φ (.dcomp t key elt tg wk src none own) s).W Q E := by
  obtain ⟨vs, s1, h1, h2, h3, h4, h5⟩ := W_get h
  simp only [ev, h1, r_ok, h2, optR]
  have hf : ∀ (xs : List α) (acc : List (NestedKey × Val)), (∀ x ∈ xs, bodyD Φ t key elt tg (own.map (·.2)) (wipeS s1.ρ (own.map (·.2))) s1.w (k x) (kf x) (g x)) → acc.length + xs.length ≤ sizeLine →
      foldR (fun v (acc : List (NestedKey × Val)) s => match setTg tg v s.ρ with
        | none => .bad
        | some ρ => (ev Φ key ⟨ρ, s.w⟩).bind fun k s => (ev Φ elt s).bind fun x s => match keyOf t k.1 with
            | some k => if acc.length < sizeLine then .ok (dPut acc k x.1) ⟨wipeS s.ρ (own.map (·.2)), s.w⟩ else .bad
            | none => .bad) (xs.map k) acc ⟨wipeS s1.ρ (own.map (·.2)), s1.w⟩ = .ok (xs.foldl (fun acc x => dPut acc (kf x) (g x)) acc) ⟨wipeS s1.ρ (own.map (·.2)), s1.w⟩ := fun xs => by
    induction xs with
    | nil => intro acc _ _; simp [foldR]
    | cons x xs ih =>
      intro acc h hl
      simp only [List.length_cons] at hl
      obtain ⟨ρ, kv, f1, s2, f2, ρ', e1, e2, e3, e4, e5⟩ := bodyD_get (h x List.mem_cons_self)
      simp only [List.map_cons, foldR, e1, e2, r_ok, e3, e4, e5]
      rw [if_pos (by omega)]
      simp only [r_ok, List.foldl_cons]
      exact ih _ (fun y hy => h y (List.mem_cons_of_mem _ hy)) (by have := length_dPut (kvs := acc) (k := kf x) (v := g x); omega)
  have := congrArg (fun z => (noEx z).bind fun acc s' => Res.ok (Val.dct t acc, true) ⟨backS s1.ρ s'.ρ (own.map (·.2)), s'.w⟩) (hf xs [] h4 (by simpa using h3))
  exact W_eq this h5
end
/-- a dict that is lent -/
theorem W_lend {Φ : Fns} {i : Nat} {e : E} {s : Sta} {Q : Val × Bool → Sta → Prop} {E : EP} {t : Bool} {kvs : List (NestedKey × Val)} (hi : s.ρ[i]? = some (.own (.dct t kvs)))
    (h : (ev Φ e ⟨(s.ρ.map unown).set i (.fz (.dct t kvs)), s.w.map fun _ => none⟩).W (fun x s' => noD x.1 = true ∧ s'.w.length = s.w.length ∧ Q x s) noE) : (ev Φ (.lend i e) s).W Q E := by
  obtain ⟨x, s', e1, h1, h2, h3⟩ := W_get h
  simp only [ev, hi, e1, noEx, Res.bind, h1, h2, and_self, if_true]
  exact h3
end TL

set_option Elab.async false
set_option linter.all false
set_option maxRecDepth 100000
/-! LVB: rewriting rules: a tree at a known state. -/
namespace TL
open PySem PySem.Spec PyProof.Rows L2
def varR (i : Nat) (o : Option Slot) (ρ : List Slot) (w : List (Option Val)) : Res (Val × Bool) := match o with
  | some (.own v) => .ok (v, false) ⟨ρ.set i (.fz v), w⟩
  | some (.fz v) => .ok (v, false) ⟨ρ, w⟩
  | _ => .bad
def pkR (i : Nat) (o : Option Slot) (ρ : List Slot) (w : List (Option Val)) : Res PV := match o with
  | some (.own v) => .ok (.bor i) ⟨ρ, w⟩
  | some (.fz v) => .ok (.val v) ⟨ρ, w⟩
  | _ => .bad
def mvR (i : Nat) (o : Option Slot) (ρ : List Slot) (w : List (Option Val)) : Res (Val × Bool) := match o with
  | some (.own v) => .ok (v, true) ⟨ρ.set i .e, w⟩
  | some (.fz v) => .ok (v, false) ⟨ρ, w⟩
  | _ => .bad
def jn : Option (Option Val) → Option Val
  | some (some v) => some v
  | _ => none
def isLs : Option Val → Option Unit
  | some (.lst _) => some ()
  | _ => none
def isDc : Option Val → Option Unit
  | some (.dct _ _) => some ()
  | _ => none
def slV : Option Slot → Option Val
  | some (.own v) => some v
  | some (.fz v) => some v
  | _ => none
section
variable {Φ : Fns} {b : Slot} {ρ : List Slot} {w : List (Option Val)} {i : Nat} {v u : Val} {α β : Type}
theorem varR_own : varR i (some (.own v)) ρ w = .ok (v, false) ⟨ρ.set i (.fz v), w⟩ := (rfl)
theorem varR_fz : varR i (some (.fz v)) ρ w = .ok (v, false) ⟨ρ, w⟩ := (rfl)
theorem pkR_own : pkR i (some (.own v)) ρ w = .ok (.bor i) ⟨ρ, w⟩ := (rfl)
theorem pkR_fz : pkR i (some (.fz v)) ρ w = .ok (.val v) ⟨ρ, w⟩ := (rfl)
theorem mvR_own : mvR i (some (.own v)) ρ w = .ok (v, true) ⟨ρ.set i .e, w⟩ := (rfl)
theorem mvR_fz : mvR i (some (.fz v)) ρ w = .ok (v, false) ⟨ρ, w⟩ := (rfl)
theorem slV_own : slV (some (.own v)) = some v := (rfl)
theorem slV_fz : slV (some (.fz v)) = some v := (rfl)
theorem optR_some {a : α} {s : Sta} : optR (some a) s = .ok a s := (rfl)
/-! names -/
theorem x_var : ev Φ (.var i) ⟨b :: ρ, w⟩ = varR i ((b :: ρ)[i]?) (b :: ρ) w := by
  simp only [ev, varR] <;> split <;> rename_i h <;> simp [h]
theorem m_var : evM Φ (.var i) ⟨b :: ρ, w⟩ = mvR i ((b :: ρ)[i]?) (b :: ρ) w := by
  simp only [evM, mvR] <;> split <;> rename_i h <;> simp [h]
theorem p_var {r : Sta → Res (Val × Bool)} : pkOf (.var i) r ⟨b :: ρ, w⟩ = pkR i ((b :: ρ)[i]?) (b :: ρ) w := by
  simp only [pkOf, pkR] <;> split <;> rename_i h <;> simp [h]
/-! values looked at -/
theorem jn_some : jn (some (some v)) = some v := (rfl)
theorem rd_obj {n : Nat} : rdv ⟨ρ, w⟩ (.val (.obj n)) = jn w[n]? := by
  rcases h : w[n]? with _ | (_ | v) <;> simp [rdv, jn, h]
theorem rd_bor : rdv ⟨b :: ρ, w⟩ (.bor i) = slV ((b :: ρ)[i]?) := by
  simp only [rdv, slV] <;> split <;> rename_i h <;> simp [h]
theorem rd_non : rdv ⟨ρ, w⟩ (.val .non) = some .non := (rfl)
theorem rd_bl {k : Bool} : rdv ⟨ρ, w⟩ (.val (.bl k)) = some (.bl k) := (rfl)
theorem rd_int {k : Int} : rdv ⟨ρ, w⟩ (.val (.int k)) = some (.int k) := (rfl)
theorem rd_str {k : Str} : rdv ⟨ρ, w⟩ (.val (.str k)) = some (.str k) := (rfl)
theorem rd_tup {k : List Val} : rdv ⟨ρ, w⟩ (.val (.tup k)) = some (.tup k) := (rfl)
theorem rd_lst {k : List Val} : rdv ⟨ρ, w⟩ (.val (.lst k)) = some (.lst k) := (rfl)
theorem rd_dct {t : Bool} {k : List (NestedKey × Val)} : rdv ⟨ρ, w⟩ (.val (.dct t k)) = some (.dct t k) := (rfl)
theorem rd_ins {c : Str} {k : List (Str × Val)} : rdv ⟨ρ, w⟩ (.val (.ins c k)) = some (.ins c k) := (rfl)
/-! constants -/
theorem x_int {k : Int} : ev Φ (.int k) ⟨b :: ρ, w⟩ = .ok (.int k, false) ⟨b :: ρ, w⟩ := (rfl)
theorem x_str {k : Str} : ev Φ (.str k) ⟨b :: ρ, w⟩ = .ok (.str k, false) ⟨b :: ρ, w⟩ := (rfl)
theorem x_bl {k : Bool} : ev Φ (.bl k) ⟨b :: ρ, w⟩ = .ok (.bl k, false) ⟨b :: ρ, w⟩ := (rfl)
theorem x_non : ev Φ .non ⟨b :: ρ, w⟩ = .ok (.non, false) ⟨b :: ρ, w⟩ := (rfl)
theorem x_gint {x : Str} {k : Int} : ev Φ (.gint x k) ⟨b :: ρ, w⟩ = .ok (.int k, false) ⟨b :: ρ, w⟩ := (rfl)
theorem x_dnew {t : Bool} : ev Φ (.dnew t) ⟨b :: ρ, w⟩ = .ok (.dct t [], true) ⟨b :: ρ, w⟩ := (rfl)
/-! a thing looked at -/
def E.isVar : E → Bool
  | .var _ => true
  | _ => false
theorem pk_of {e : E} {r : Sta → Res (Val × Bool)} {s : Sta} (h : e.isVar = false) : pkOf e r s = (r s).bind fun p s => .ok (.val p.1) s := by
  cases e <;> first | rfl | cases h
theorem em_of {e : E} {s : Sta} (h : e.isVar = false) : evM Φ e s = ev Φ e s := by
  cases e <;> first | rfl | cases h
variable {e a c d l k x y z : E} {es : List E}
theorem p_p1 {f : P1} {r : Sta → Res (Val × Bool)} : pkOf (.p1 f a) r ⟨b :: ρ, w⟩ = (r ⟨b :: ρ, w⟩).bind fun p s => .ok (.val p.1) s := (rfl)
theorem p_p2 {f : P2} {r : Sta → Res (Val × Bool)} : pkOf (.p2 f a c) r ⟨b :: ρ, w⟩ = (r ⟨b :: ρ, w⟩).bind fun p s => .ok (.val p.1) s := (rfl)
theorem p_int {k : Int} {r : Sta → Res (Val × Bool)} : pkOf (.int k) r ⟨b :: ρ, w⟩ = (r ⟨b :: ρ, w⟩).bind fun p s => .ok (.val p.1) s := (rfl)
theorem p_str {k : Str} {r : Sta → Res (Val × Bool)} : pkOf (.str k) r ⟨b :: ρ, w⟩ = (r ⟨b :: ρ, w⟩).bind fun p s => .ok (.val p.1) s := (rfl)
theorem p_bl {k : Bool} {r : Sta → Res (Val × Bool)} : pkOf (.bl k) r ⟨b :: ρ, w⟩ = (r ⟨b :: ρ, w⟩).bind fun p s => .ok (.val p.1) s := (rfl)
theorem p_non {r : Sta → Res (Val × Bool)} : pkOf .non r ⟨b :: ρ, w⟩ = (r ⟨b :: ρ, w⟩).bind fun p s => .ok (.val p.1) s := (rfl)
theorem p_gint {x : Str} {k : Int} {r : Sta → Res (Val × Bool)} : pkOf (.gint x k) r ⟨b :: ρ, w⟩ = (r ⟨b :: ρ, w⟩).bind fun p s => .ok (.val p.1) s := (rfl)
theorem p_cut {lo hi : Option E} {r : Sta → Res (Val × Bool)} : pkOf (.cut a lo hi) r ⟨b :: ρ, w⟩ = (r ⟨b :: ρ, w⟩).bind fun p s => .ok (.val p.1) s := (rfl)
theorem p_and {r : Sta → Res (Val × Bool)} : pkOf (.and a c) r ⟨b :: ρ, w⟩ = (r ⟨b :: ρ, w⟩).bind fun p s => .ok (.val p.1) s := (rfl)
theorem p_or {r : Sta → Res (Val × Bool)} : pkOf (.or a c) r ⟨b :: ρ, w⟩ = (r ⟨b :: ρ, w⟩).bind fun p s => .ok (.val p.1) s := (rfl)
theorem p_not {r : Sta → Res (Val × Bool)} : pkOf (.not a) r ⟨b :: ρ, w⟩ = (r ⟨b :: ρ, w⟩).bind fun p s => .ok (.val p.1) s := (rfl)
theorem p_ife {t : Ts} {r : Sta → Res (Val × Bool)} : pkOf (.ife t a c) r ⟨b :: ρ, w⟩ = (r ⟨b :: ρ, w⟩).bind fun p s => .ok (.val p.1) s := (rfl)
theorem p_chain {st : Bool} {r : Sta → Res (Val × Bool)} : pkOf (.chain st a c d) r ⟨b :: ρ, w⟩ = (r ⟨b :: ρ, w⟩).bind fun p s => .ok (.val p.1) s := (rfl)
theorem p_tup {r : Sta → Res (Val × Bool)} : pkOf (.tup es) r ⟨b :: ρ, w⟩ = (r ⟨b :: ρ, w⟩).bind fun p s => .ok (.val p.1) s := (rfl)
theorem p_lst {r : Sta → Res (Val × Bool)} : pkOf (.lst es) r ⟨b :: ρ, w⟩ = (r ⟨b :: ρ, w⟩).bind fun p s => .ok (.val p.1) s := (rfl)
theorem p_dnew {t : Bool} {r : Sta → Res (Val × Bool)} : pkOf (.dnew t) r ⟨b :: ρ, w⟩ = (r ⟨b :: ρ, w⟩).bind fun p s => .ok (.val p.1) s := (rfl)
theorem p_call {f : Str} {r : Sta → Res (Val × Bool)} : pkOf (.call f es) r ⟨b :: ρ, w⟩ = (r ⟨b :: ρ, w⟩).bind fun p s => .ok (.val p.1) s := (rfl)
theorem p_make {f : Str} {t : Bool} {r : Sta → Res (Val × Bool)} : pkOf (.make f t es) r ⟨b :: ρ, w⟩ = (r ⟨b :: ρ, w⟩).bind fun p s => .ok (.val p.1) s := (rfl)
theorem p_fld {x y : Str} {r : Sta → Res (Val × Bool)} : pkOf (.fld a x y) r ⟨b :: ρ, w⟩ = (r ⟨b :: ρ, w⟩).bind fun p s => .ok (.val p.1) s := (rfl)
theorem p_get {r : Sta → Res (Val × Bool)} : pkOf (.get a c d) r ⟨b :: ρ, w⟩ = (r ⟨b :: ρ, w⟩).bind fun p s => .ok (.val p.1) s := (rfl)
theorem p_index {r : Sta → Res (Val × Bool)} : pkOf (.index a c) r ⟨b :: ρ, w⟩ = (r ⟨b :: ρ, w⟩).bind fun p s => .ok (.val p.1) s := (rfl)
theorem p_comp {tg : Tg} {wk : Wk} {c : Option Ts} {o : List (Str × Nat)} {r : Sta → Res (Val × Bool)} : pkOf (.comp e tg wk es c o) r ⟨b :: ρ, w⟩ = (r ⟨b :: ρ, w⟩).bind fun p s => .ok (.val p.1) s := (rfl)
theorem m_p1 {f : P1} : evM Φ (.p1 f a) ⟨b :: ρ, w⟩ = ev Φ (.p1 f a) ⟨b :: ρ, w⟩ := (rfl)
theorem m_p2 {f : P2} : evM Φ (.p2 f a c) ⟨b :: ρ, w⟩ = ev Φ (.p2 f a c) ⟨b :: ρ, w⟩ := (rfl)
theorem m_int {k : Int} : evM Φ (.int k) ⟨b :: ρ, w⟩ = ev Φ (.int k) ⟨b :: ρ, w⟩ := (rfl)
theorem m_str {k : Str} : evM Φ (.str k) ⟨b :: ρ, w⟩ = ev Φ (.str k) ⟨b :: ρ, w⟩ := (rfl)
theorem m_bl {k : Bool} : evM Φ (.bl k) ⟨b :: ρ, w⟩ = ev Φ (.bl k) ⟨b :: ρ, w⟩ := (rfl)
theorem m_non : evM Φ .non ⟨b :: ρ, w⟩ = ev Φ .non ⟨b :: ρ, w⟩ := (rfl)
theorem m_gint {x : Str} {k : Int} : evM Φ (.gint x k) ⟨b :: ρ, w⟩ = ev Φ (.gint x k) ⟨b :: ρ, w⟩ := (rfl)
theorem m_cut {lo hi : Option E} : evM Φ (.cut a lo hi) ⟨b :: ρ, w⟩ = ev Φ (.cut a lo hi) ⟨b :: ρ, w⟩ := (rfl)
theorem m_and : evM Φ (.and a c) ⟨b :: ρ, w⟩ = ev Φ (.and a c) ⟨b :: ρ, w⟩ := (rfl)
theorem m_or : evM Φ (.or a c) ⟨b :: ρ, w⟩ = ev Φ (.or a c) ⟨b :: ρ, w⟩ := (rfl)
theorem m_not : evM Φ (.not a) ⟨b :: ρ, w⟩ = ev Φ (.not a) ⟨b :: ρ, w⟩ := (rfl)
theorem m_ife {t : Ts} : evM Φ (.ife t a c) ⟨b :: ρ, w⟩ = ev Φ (.ife t a c) ⟨b :: ρ, w⟩ := (rfl)
theorem m_chain {st : Bool} : evM Φ (.chain st a c d) ⟨b :: ρ, w⟩ = ev Φ (.chain st a c d) ⟨b :: ρ, w⟩ := (rfl)
theorem m_tup : evM Φ (.tup es) ⟨b :: ρ, w⟩ = ev Φ (.tup es) ⟨b :: ρ, w⟩ := (rfl)
theorem m_lst : evM Φ (.lst es) ⟨b :: ρ, w⟩ = ev Φ (.lst es) ⟨b :: ρ, w⟩ := (rfl)
theorem m_dnew {t : Bool} : evM Φ (.dnew t) ⟨b :: ρ, w⟩ = ev Φ (.dnew t) ⟨b :: ρ, w⟩ := (rfl)
theorem m_call {f : Str} : evM Φ (.call f es) ⟨b :: ρ, w⟩ = ev Φ (.call f es) ⟨b :: ρ, w⟩ := (rfl)
theorem m_make {f : Str} {t : Bool} : evM Φ (.make f t es) ⟨b :: ρ, w⟩ = ev Φ (.make f t es) ⟨b :: ρ, w⟩ := (rfl)
theorem m_fld {x y : Str} : evM Φ (.fld a x y) ⟨b :: ρ, w⟩ = ev Φ (.fld a x y) ⟨b :: ρ, w⟩ := (rfl)
theorem m_get : evM Φ (.get a c d) ⟨b :: ρ, w⟩ = ev Φ (.get a c d) ⟨b :: ρ, w⟩ := (rfl)
theorem m_index : evM Φ (.index a c) ⟨b :: ρ, w⟩ = ev Φ (.index a c) ⟨b :: ρ, w⟩ := (rfl)
theorem p_dcomp {tg : Tg} {wk : Wk} {t : Bool} {k2 : E} {c : Option Ts} {o : List (Str × Nat)} {r : Sta → Res (Val × Bool)} : pkOf (.dcomp t k2 e tg wk es c o) r ⟨b :: ρ, w⟩ = (r ⟨b :: ρ, w⟩).bind fun p s => .ok (.val p.1) s := (rfl)
theorem m_dcomp {tg : Tg} {wk : Wk} {t : Bool} {k2 : E} {c : Option Ts} {o : List (Str × Nat)} : evM Φ (.dcomp t k2 e tg wk es c o) ⟨b :: ρ, w⟩ = ev Φ (.dcomp t k2 e tg wk es c o) ⟨b :: ρ, w⟩ := (rfl)
theorem m_comp {tg : Tg} {wk : Wk} {c : Option Ts} {o : List (Str × Nat)} : evM Φ (.comp e tg wk es c o) ⟨b :: ρ, w⟩ = ev Φ (.comp e tg wk es c o) ⟨b :: ρ, w⟩ := (rfl)
theorem m_d1 {t : Bool} : evM Φ (.d1 t k x) ⟨b :: ρ, w⟩ = ev Φ (.d1 t k x) ⟨b :: ρ, w⟩ := (rfl)
theorem m_nobj : evM Φ (.nobj e) ⟨b :: ρ, w⟩ = ev Φ (.nobj e) ⟨b :: ρ, w⟩ := (rfl)
theorem m_isC {c : Str} : evM Φ (.isC a c) ⟨b :: ρ, w⟩ = ev Φ (.isC a c) ⟨b :: ρ, w⟩ := (rfl)
theorem m_pop : evM Φ (.pop l) ⟨b :: ρ, w⟩ = ev Φ (.pop l) ⟨b :: ρ, w⟩ := (rfl)
theorem p_isC {c : Str} {r : Sta → Res (Val × Bool)} : pkOf (.isC a c) r ⟨b :: ρ, w⟩ = (r ⟨b :: ρ, w⟩).bind fun p s => .ok (.val p.1) s := (rfl)
theorem p_pop {r : Sta → Res (Val × Bool)} : pkOf (.pop l) r ⟨b :: ρ, w⟩ = (r ⟨b :: ρ, w⟩).bind fun p s => .ok (.val p.1) s := (rfl)
theorem p_d1 {t : Bool} {r : Sta → Res (Val × Bool)} : pkOf (.d1 t k x) r ⟨b :: ρ, w⟩ = (r ⟨b :: ρ, w⟩).bind fun p s => .ok (.val p.1) s := (rfl)
/-! expressions -/
theorem x_p1 {f : P1} : ev Φ (.p1 f a) ⟨b :: ρ, w⟩ = (pkOf a (ev Φ a) ⟨b :: ρ, w⟩).bind fun x s => (optR (rdv s x) s).bind fun v s => optR (prim1 f v) s := (rfl)
theorem x_p2 {f : P2} : ev Φ (.p2 f a c) ⟨b :: ρ, w⟩ = (pkOf a (ev Φ a) ⟨b :: ρ, w⟩).bind fun x s => (pkOf c (ev Φ c) s).bind fun y s => (optR (rdv s x) s).bind fun v s => (optR (rdv s y) s).bind fun u s => optR (prim2 f v u) s := (rfl)
theorem x_cut {lo hi : Option E} : ev Φ (.cut a lo hi) ⟨b :: ρ, w⟩ = (pkOf a (ev Φ a) ⟨b :: ρ, w⟩).bind fun x s => (evO Φ lo s).bind fun l s => (evO Φ hi s).bind fun h s => (optR (rdv s x) s).bind fun v s => optR (primCut v l h) s := (rfl)
def andR (r : Sta → Res (Val × Bool)) : Val → Sta → Res (Val × Bool)
  | .bl true, s => r s
  | .bl false, s => .ok (.bl false, false) s
  | _, _ => .bad
def orR (r : Sta → Res (Val × Bool)) : Val → Sta → Res (Val × Bool)
  | .bl false, s => r s
  | .bl true, s => .ok (.bl true, false) s
  | _, _ => .bad
theorem x_and : ev Φ (.and a c) ⟨b :: ρ, w⟩ = (ev Φ a ⟨b :: ρ, w⟩).bind fun x s => andR (ev Φ c) x.1 s := by
  simp only [ev]
  congr 1
  funext x s
  unfold andR
  split <;> simp_all
theorem x_or : ev Φ (.or a c) ⟨b :: ρ, w⟩ = (ev Φ a ⟨b :: ρ, w⟩).bind fun x s => orR (ev Φ c) x.1 s := by
  simp only [ev]
  congr 1
  funext x s
  unfold orR
  split <;> simp_all
theorem andR_t {r : Sta → Res (Val × Bool)} {s : Sta} : andR r (.bl true) s = r s := (rfl)
theorem andR_f {r : Sta → Res (Val × Bool)} {s : Sta} : andR r (.bl false) s = .ok (.bl false, false) s := (rfl)
theorem orR_f {r : Sta → Res (Val × Bool)} {s : Sta} : orR r (.bl false) s = r s := (rfl)
theorem orR_t {r : Sta → Res (Val × Bool)} {s : Sta} : orR r (.bl true) s = .ok (.bl true, false) s := (rfl)
theorem x_not : ev Φ (.not a) ⟨b :: ρ, w⟩ = (pkOf a (ev Φ a) ⟨b :: ρ, w⟩).bind fun x s => (optR (rdv s x) s).bind fun v s => (optR (vTruth v) s).bind fun k s => .ok (.bl (!k), false) s := (rfl)
theorem x_ife {t : Ts} : ev Φ (.ife t a c) ⟨b :: ρ, w⟩ = (evT Φ t ⟨b :: ρ, w⟩).bind fun k s => if k then ev Φ a s else ev Φ c s := (rfl)
theorem x_tup : ev Φ (.tup es) ⟨b :: ρ, w⟩ = (evs Φ es ⟨b :: ρ, w⟩).bind fun vs s => if vs.length ≤ sizeLine then .ok (.tup vs, false) s else .bad := (rfl)
theorem x_lst : ev Φ (.lst es) ⟨b :: ρ, w⟩ = (evs Φ es ⟨b :: ρ, w⟩).bind fun vs s => if vs.length ≤ sizeLine then .ok (.lst vs, true) s else .bad := (rfl)
theorem x_d1 {t : Bool} : ev Φ (.d1 t k x) ⟨b :: ρ, w⟩ = (ev Φ k ⟨b :: ρ, w⟩).bind fun k s => (ev Φ x s).bind fun v s => (optR (keyOf t k.1) s).bind fun k s => .ok (.dct t [(k, v.1)], true) s := (rfl)
theorem x_nobj : ev Φ (.nobj e) ⟨b :: ρ, w⟩ = (ev Φ e ⟨b :: ρ, w⟩).bind fun x s => if x.2 then .ok (.obj s.w.length, false) ⟨s.ρ, s.w ++ [some x.1]⟩ else .bad := (rfl)
theorem x_call {f : Str} : ev Φ (.call f es) ⟨b :: ρ, w⟩ = (evs Φ es ⟨b :: ρ, w⟩).bind fun vs s => ofFR s.ρ (Φ f vs s.w) := (rfl)
theorem ofFR_ok {fr : Bool} : ofFR ρ (.ok v fr w) = .ok (v, fr) ⟨ρ, w⟩ := (rfl)
theorem ofFR_ex {c : Str} {fs : List (Str × Val)} : ofFR ρ (.ex c fs w) = .ex c fs ⟨ρ, w⟩ := (rfl)
def mkR (i : Nat) (t : Bool) (ρ : List Slot) : FR → Res (Val × Bool)
  | .ok .non _ w => if t then (match w[i]? with
        | some (some v) => .ok (v, false) ⟨ρ, w.set i none⟩
        | _ => .bad) else .ok (.obj i, false) ⟨ρ, w⟩
  | _ => .bad
def mkI (i : Nat) (ρ : List Slot) (w : List (Option Val)) : Option Val → Res (Val × Bool)
  | some v => .ok (v, false) ⟨ρ, w.set i none⟩
  | none => .bad
theorem mkR_f {fr : Bool} : mkR i false ρ (.ok .non fr w) = .ok (.obj i, false) ⟨ρ, w⟩ := (rfl)
theorem mkR_t {fr : Bool} : mkR i true ρ (.ok .non fr w) = mkI i ρ w (jn w[i]?) := by
  simp only [mkR, if_true]
  cases h : w[i]? with
  | none => rfl
  | some o => cases o <;> rfl
theorem mkI_some : mkI i ρ w (some v) = .ok (v, false) ⟨ρ, w.set i none⟩ := (rfl)
theorem x_make {f : Str} {t : Bool} : ev Φ (.make f t es) ⟨b :: ρ, w⟩ = (evs Φ es ⟨b :: ρ, w⟩).bind fun vs s => mkR s.w.length t s.ρ (Φ f (.obj s.w.length :: vs) (s.w ++ [some (.ins f [])])) := (rfl)
def fldR (c f : Str) (s : Sta) : Val → Res (Val × Bool)
  | .ins c' fs => if c' = c then (optR (fs.lookup f) s).bind fun u s => .ok (u, false) s else .bad
  | _ => .bad
theorem x_fld {c f : Str} : ev Φ (.fld a c f) ⟨b :: ρ, w⟩ = (pkOf a (ev Φ a) ⟨b :: ρ, w⟩).bind fun x s => (optR (rdv s x) s).bind fun v s => fldR c f s v := by
  simp only [ev, fldR] <;> rfl
theorem fldR_ins {c f : Str} {s : Sta} {r : List (Str × Val)} : fldR c f s (.ins c ((f, v) :: r)) = .ok (v, false) s := by
  simp [fldR, List.lookup, optR, Res.bind]
def isCR (c : Str) (s : Sta) : Val → Res (Val × Bool)
  | .ins c' _ => if c' = c then .ok (.bl true, false) s else .bad
  | .obj _ => .bad
  | .fn _ => .bad
  | _ => .ok (.bl false, false) s
theorem isCR_ins {c : Str} {s : Sta} {fs : List (Str × Val)} : isCR c s (.ins c fs) = .ok (.bl true, false) s := if_pos rfl
theorem isCR_tup {c : Str} {s : Sta} {fs : List Val} : isCR c s (.tup fs) = .ok (.bl false, false) s := (rfl)
theorem isCR_lst {c : Str} {s : Sta} {fs : List Val} : isCR c s (.lst fs) = .ok (.bl false, false) s := (rfl)
theorem isCR_int {c : Str} {s : Sta} {i : Int} : isCR c s (.int i) = .ok (.bl false, false) s := (rfl)
theorem isCR_non {c : Str} {s : Sta} : isCR c s .non = .ok (.bl false, false) s := (rfl)
theorem isCR_bl {c : Str} {s : Sta} {k : Bool} : isCR c s (.bl k) = .ok (.bl false, false) s := (rfl)
theorem isCR_str {c : Str} {s : Sta} {k : Str} : isCR c s (.str k) = .ok (.bl false, false) s := (rfl)
theorem isCR_dct {c : Str} {s : Sta} {t : Bool} {kvs : List (NestedKey × Val)} : isCR c s (.dct t kvs) = .ok (.bl false, false) s := (rfl)
theorem x_isC {c : Str} : ev Φ (.isC a c) ⟨b :: ρ, w⟩ = (pkOf a (ev Φ a) ⟨b :: ρ, w⟩).bind fun x s => (optR (rdv s x) s).bind fun v s => isCR c s v := (rfl)
def getR (t : Bool) (kvs : List (NestedKey × Val)) (k x : Val) (s : Sta) : Res (Val × Bool) := (optR (keyOf t k) s).bind fun k s => .ok ((dGet kvs k).getD x, false) s
def getRV (k x : Val) (s : Sta) : Val → Res (Val × Bool)
  | .dct t kvs => getR t kvs k x s
  | _ => .bad
theorem x_get : ev Φ (.get d k x) ⟨b :: ρ, w⟩ = (pkOf d (ev Φ d) ⟨b :: ρ, w⟩).bind fun d s => (optR (chk s d 1) s).bind fun _ s => (ev Φ k s).bind fun kv s => (ev Φ x s).bind fun xv s => (optR (rdv s d) s).bind fun dv s => getRV kv.1 xv.1 s dv := by
  simp only [ev, getRV, getR] <;> rfl
theorem getRV_d {t : Bool} {kvs : List (NestedKey × Val)} {s : Sta} : getRV v u s (.dct t kvs) = getR t kvs v u s := (rfl)
def idxRV (k : Val) (s : Sta) : Val → Res (Val × Bool)
  | .lst vs => (optR (vIndex k vs) s).bind fun n s => .ok (.int n, false) s
  | _ => .bad
theorem idxRV_l {vs : List Val} {s : Sta} : idxRV v s (.lst vs) = (optR (vIndex v vs) s).bind fun n s => .ok (.int n, false) s := (rfl)
theorem x_index0 : ev Φ (.index l x) ⟨b :: ρ, w⟩ = (pkOf l (ev Φ l) ⟨b :: ρ, w⟩).bind fun l s => (optR (chk s l 0) s).bind fun _ s => (ev Φ x s).bind fun xv s => (optR (rdv s l) s).bind fun lv s => match lv with
    | .lst vs => (optR (vIndex xv.1 vs) s).bind fun n s => .ok (.int n, false) s
    | _ => .bad := (rfl)
theorem x_index : ev Φ (.index l x) ⟨b :: ρ, w⟩ = (pkOf l (ev Φ l) ⟨b :: ρ, w⟩).bind fun l s => (optR (chk s l 0) s).bind fun _ s => (ev Φ x s).bind fun xv s => (optR (rdv s l) s).bind fun lv s => idxRV xv.1 s lv := (rfl)
theorem x_app : ev Φ (.app l e) ⟨b :: ρ, w⟩ = (pkOf l (ev Φ l) ⟨b :: ρ, w⟩).bind fun o s => (optR (chk s o 0) s).bind fun _ s => (ev Φ e s).bind fun x s => putL o (fun vs => if vs.length < sizeLine then some (vs ++ [x.1], .non) else none) s := (rfl)
def extR (o : PV) (s : Sta) : Val → Res (Val × Bool)
  | .lst us => putL o (fun vs => if vs.length + us.length ≤ sizeLine then some (vs ++ us, .non) else none) s
  | _ => .bad
theorem x_ext : ev Φ (.ext l e) ⟨b :: ρ, w⟩ = (pkOf l (ev Φ l) ⟨b :: ρ, w⟩).bind fun o s => (optR (chk s o 0) s).bind fun _ s => (ev Φ e s).bind fun x s => extR o s x.1 := (rfl)
theorem extR_l {o : PV} {s : Sta} {us : List Val} : extR o s (.lst us) = putL o (fun vs => if vs.length + us.length ≤ sizeLine then some (vs ++ us, .non) else none) s := (rfl)
theorem x_pop : ev Φ (.pop l) ⟨b :: ρ, w⟩ = (pkOf l (ev Φ l) ⟨b :: ρ, w⟩).bind fun o s => putL o (fun vs => match vs.getLast? with | some v => some (vs.dropLast, v) | none => none) s := (rfl)
def putLR (i : Nat) (f : List Val → Option (List Val × Val)) (ρ : List Slot) (w : List (Option Val)) : Option Slot → Res (Val × Bool)
  | some (.own (.lst vs)) => (match f vs with
      | some (us, r) => .ok (r, false) ⟨ρ.set i (.own (.lst us)), w⟩
      | none => .bad)
  | _ => .bad
theorem put_bor {f : List Val → Option (List Val × Val)} : putL (.bor i) f ⟨b :: ρ, w⟩ = putLR i f (b :: ρ) w ((b :: ρ)[i]?) := by
  cases h : (b :: ρ)[i]? with
  | none => simp only [putL, putLR, h]
  | some q => cases q with
    | own v => cases v <;> simp only [putL, putLR, h] <;> rfl
    | _ => simp only [putL, putLR, h]
def putLX (i : Nat) (ρ : List Slot) (w : List (Option Val)) : Option (List Val × Val) → Res (Val × Bool)
  | some (us, r) => .ok (r, false) ⟨ρ.set i (.own (.lst us)), w⟩
  | none => .bad
theorem putLR_own {f : List Val → Option (List Val × Val)} {vs : List Val} : putLR i f ρ w (some (.own (.lst vs))) = putLX i ρ w (f vs) := by
  simp only [putLR, putLX]
theorem putLX_some {us : List Val} : putLX i ρ w (some (us, v)) = .ok (v, false) ⟨ρ.set i (.own (.lst us)), w⟩ := (rfl)
def putOX (n : Nat) (ρ : List Slot) (w : List (Option Val)) : Option (List Val × Val) → Res (Val × Bool)
  | some (us, r) => .ok (r, false) ⟨ρ, w.set n (some (.lst us))⟩
  | none => .bad
def putOR (n : Nat) (f : List Val → Option (List Val × Val)) (ρ : List Slot) (w : List (Option Val)) : Option Val → Res (Val × Bool)
  | some (.lst vs) => putOX n ρ w (f vs)
  | _ => .bad
theorem put_obj {f : List Val → Option (List Val × Val)} {n : Nat} : putL (.val (.obj n)) f ⟨b :: ρ, w⟩ = putOR n f (b :: ρ) w (jn w[n]?) := by
  simp only [putL]
  cases h : w[n]? with
  | none => simp only [jn, putOR]
  | some o => cases o with
    | none => simp only [jn, putOR]
    | some v => cases v <;> simp only [jn, putOR, putOX] <;> rfl
theorem putOR_l {f : List Val → Option (List Val × Val)} {n : Nat} {vs : List Val} : putOR n f ρ w (some (.lst vs)) = putOX n ρ w (f vs) := (rfl)
theorem putOX_some {us : List Val} {n : Nat} : putOX n ρ w (some (us, v)) = .ok (v, false) ⟨ρ, w.set n (some (.lst us))⟩ := (rfl)
theorem chk_d {p : PV} {s : Sta} : chk s p 1 = isDc (rdv s p) := by
  unfold chk
  cases rdv s p with
  | none => rfl
  | some v => cases v <;> rfl
theorem chk_l {p : PV} {s : Sta} : chk s p 0 = isLs (rdv s p) := by
  unfold chk
  cases rdv s p with
  | none => rfl
  | some v => cases v <;> rfl
theorem isLs_l {vs : List Val} : isLs (some (.lst vs)) = some () := (rfl)
theorem isDc_d {t : Bool} {kvs : List (NestedKey × Val)} : isDc (some (.dct t kvs)) = some () := (rfl)
/-! a thing by its place, stored -/
def putCV (f : Val → Res Fl) : Option Val → Res Fl
  | some u => f u
  | none => .bad
def putIR (i : Nat) (k v : Val) (ρ : List Slot) (w : List (Option Val)) : Option Slot → Res Fl
  | some (.own u) => putCV (fun u => .ok .nx ⟨ρ.set i (.own u), w⟩) (putI.putC u k v)
  | _ => .bad
theorem puti_bor {k : Val} : putI (.bor i) k v ⟨b :: ρ, w⟩ = putIR i k v (b :: ρ) w ((b :: ρ)[i]?) := by
  cases h : (b :: ρ)[i]? with
  | none => simp only [putI, putIR, h]
  | some q => cases q with
    | own u => simp only [putI, putIR, putCV, h] <;> (cases putI.putC u k v <;> rfl)
    | _ => simp only [putI, putIR, h]
theorem putIR_own {k : Val} : putIR i k v ρ w (some (.own u)) = putCV (fun u => .ok .nx ⟨ρ.set i (.own u), w⟩) (putI.putC u k v) := (rfl)
theorem putCV_some {f : Val → Res Fl} : putCV f (some u) = f u := (rfl)
def putIO (n : Nat) (k v : Val) (ρ : List Slot) (w : List (Option Val)) : Option Val → Res Fl
  | some u => putCV (fun u => .ok .nx ⟨ρ, w.set n (some u)⟩) (putI.putC u k v)
  | none => .bad
theorem puti_obj {k : Val} {n : Nat} : putI (.val (.obj n)) k v ⟨b :: ρ, w⟩ = putIO n k v (b :: ρ) w (jn w[n]?) := by
  simp only [putI]
  cases h : w[n]? with
  | none => simp only [jn, putIO]
  | some o => cases o with
    | none => simp only [jn, putIO]
    | some u => simp only [jn, putIO, putCV] <;> (cases putI.putC u k v <;> rfl)
theorem putIO_some {k : Val} {n : Nat} : putIO n k v ρ w (some u) = putCV (fun u => .ok .nx ⟨ρ, w.set n (some u)⟩) (putI.putC u k v) := (rfl)
theorem putC_l {vs : List Val} {i : Int} : putI.putC (.lst vs) (.int i) v = (ixN vs.length i).map fun j => .lst (vs.set j v) := (rfl)
theorem putC_d {t : Bool} {kvs : List (NestedKey × Val)} {k : Val} : putI.putC (.dct t kvs) k v = (keyOf t k).bind fun k => if kvs.length < sizeLine then some (.dct t (dPut kvs k v)) else none := by
  cases k <;> rfl
def delR (i : Nat) (k : Val) (ρ : List Slot) (w : List (Option Val)) : Option Slot → Res Fl
  | some (.own (.dct t kvs)) => putCV (fun u => .ok .nx ⟨ρ.set i (.own u), w⟩) ((keyOf t k).bind fun k => if (dGet kvs k).isSome then some (.dct t (dDel kvs k)) else none)
  | _ => .bad
theorem del_bor {k : Val} : delI (.bor i) k ⟨b :: ρ, w⟩ = delR i k (b :: ρ) w ((b :: ρ)[i]?) := by
  cases h : (b :: ρ)[i]? with
  | none => simp only [delI, delR, h]
  | some q => cases q with
    | own u => cases u with
      | dct t kvs =>
        simp only [delI, delR, putCV, h]
        cases keyOf t k with
        | none => rfl
        | some k => simp only [Option.bind_some]; split <;> rfl
      | _ => simp only [delI, delR, h]
    | _ => simp only [delI, delR, h]
theorem delR_own {k : Val} {t : Bool} {kvs : List (NestedKey × Val)} : delR i k ρ w (some (.own (.dct t kvs))) = putCV (fun u => .ok .nx ⟨ρ.set i (.own u), w⟩) ((keyOf t k).bind fun k => if (dGet kvs k).isSome then some (.dct t (dDel kvs k)) else none) := (rfl)
theorem st_del {k : E} : evS Φ (.del l k) ⟨b :: ρ, w⟩ = (pkOf l (ev Φ l) ⟨b :: ρ, w⟩).bind fun o s => (ev Φ k s).bind fun k s => delI o k.1 s := (rfl)
def putFR (n : Nat) (c f : Str) (v : Val) (ρ : List Slot) (w : List (Option Val)) : Option Val → Res Fl
  | some (.ins c' fs) => if c' = c ∧ fs.length < 1000 then .ok .nx ⟨ρ, w.set n (some (.ins c (putF.pF f v fs)))⟩ else .bad
  | _ => .bad
theorem putf_obj {c f : Str} {n : Nat} : putF (.val (.obj n)) c f v ⟨b :: ρ, w⟩ = putFR n c f v (b :: ρ) w (jn w[n]?) := by
  simp only [putF]
  cases h : w[n]? with
  | none => simp only [jn, putFR]
  | some o => cases o with
    | none => simp only [jn, putFR]
    | some u => cases u <;> simp only [jn, putFR]
theorem putFR_ins {c f : Str} {n : Nat} {fs : List (Str × Val)} (h : fs.length < 1000) : putFR n c f v ρ w (some (.ins c fs)) = .ok .nx ⟨ρ, w.set n (some (.ins c (putF.pF f v fs)))⟩ := if_pos ⟨rfl, h⟩
theorem pF_nil {f : Str} : putF.pF f v [] = [(f, v)] := (rfl)
theorem pF_eq {f : Str} {r : List (Str × Val)} : putF.pF f v ((f, u) :: r) = (f, v) :: r := if_pos rfl
theorem xs_nil : evs Φ [] ⟨b :: ρ, w⟩ = .ok [] ⟨b :: ρ, w⟩ := (rfl)
theorem xs_cons : evs Φ (e :: es) ⟨b :: ρ, w⟩ = (ev Φ e ⟨b :: ρ, w⟩).bind fun x s => (evs Φ es s).bind fun xs s => .ok (x.1 :: xs) s := (rfl)
theorem xo_none : evO Φ none ⟨b :: ρ, w⟩ = .ok none ⟨b :: ρ, w⟩ := (rfl)
def xoR (s : Sta) : Val → Res (Option Int)
  | .int i => .ok (some i) s
  | _ => .bad
theorem xo_some : evO Φ (some e) ⟨b :: ρ, w⟩ = (ev Φ e ⟨b :: ρ, w⟩).bind fun x s => xoR s x.1 := by
  simp only [evO, xoR] <;> rfl
theorem xoR_int {i : Int} {s : Sta} : xoR s (.int i) = .ok (some i) s := (rfl)
/-! tests -/
variable {t t1 t2 : Ts}
theorem t_and : evT Φ (.and t1 t2) ⟨b :: ρ, w⟩ = (evT Φ t1 ⟨b :: ρ, w⟩).bind fun k s => if k then evT Φ t2 s else .ok false s := (rfl)
theorem t_or : evT Φ (.or t1 t2) ⟨b :: ρ, w⟩ = (evT Φ t1 ⟨b :: ρ, w⟩).bind fun k s => if k then .ok true s else evT Φ t2 s := (rfl)
theorem t_not : evT Φ (.not t) ⟨b :: ρ, w⟩ = (evT Φ t ⟨b :: ρ, w⟩).bind fun k s => .ok (!k) s := (rfl)
def tR (s : Sta) : Option (Val × Bool) → Res Bool
  | some (.bl k, false) => .ok k s
  | _ => .bad
theorem t_cmp {f : P2} : evT Φ (.cmp f a c) ⟨b :: ρ, w⟩ = (pkOf a (ev Φ a) ⟨b :: ρ, w⟩).bind fun x s => (pkOf c (ev Φ c) s).bind fun y s => (optR (rdv s x) s).bind fun v s => (optR (rdv s y) s).bind fun u s => tR s (prim2 f v u) := by
  simp only [evT, tR] <;> rfl
theorem tR_some {k : Bool} {s : Sta} : tR s (some (.bl k, false)) = .ok k s := (rfl)
theorem t_isN {n : Bool} : evT Φ (.isN n a) ⟨b :: ρ, w⟩ = (pkOf a (ev Φ a) ⟨b :: ρ, w⟩).bind fun x s => (optR (rdv s x) s).bind fun v s => .ok (if n then isNonB v else !isNonB v) s := by
  simp only [evT]
  congr 1
  funext x s
  congr 1
  funext v s
  cases n <;> simp [prim1]
def chX (st : Bool) (j : Int) (s : Sta) : Val → Res Bool
  | .int k => .ok (if st then decide (j < k) else decide (j ≤ k)) s
  | _ => .bad
def chR (st : Bool) (r : Sta → Res (Val × Bool)) (s : Sta) : Val → Val → Res Bool
  | .int i, .int j => if i ≤ j then (r s).bind fun z s => (match z.1 with
        | .int k => .ok (if st then decide (j < k) else decide (j ≤ k)) s
        | _ => .bad) else .ok false s
  | _, _ => .bad
theorem x_chain {st : Bool} : ev Φ (.chain st a c d) ⟨b :: ρ, w⟩ = (ev Φ a ⟨b :: ρ, w⟩).bind fun x s => (ev Φ c s).bind fun y s => (chR st (ev Φ d) s x.1 y.1).bind fun k s => .ok (.bl k, false) s := by
  simp only [ev]
  congr 1
  funext x s
  congr 1
  funext y s
  obtain ⟨x, fx⟩ := x
  obtain ⟨y, fy⟩ := y
  cases x <;> cases y <;> try rfl
  simp only [chR]
  split
  · cases h : ev Φ d s with
    | ok z s2 =>
      obtain ⟨z, fz⟩ := z
      cases z <;> rfl
    | _ => rfl
  · rfl
theorem chR_int {st : Bool} {r : Sta → Res (Val × Bool)} {s : Sta} {i j : Int} : chR st r s (.int i) (.int j) = if i ≤ j then (r s).bind fun z s => chX st j s z.1 else .ok false s := (rfl)
theorem chX_int {st : Bool} {s : Sta} {j k : Int} : chX st j s (.int k) = .ok (if st then decide (j < k) else decide (j ≤ k)) s := (rfl)
theorem t_chn {st : Bool} : evT Φ (.chn st a c d) ⟨b :: ρ, w⟩ = (ev Φ a ⟨b :: ρ, w⟩).bind fun x s => (ev Φ c s).bind fun y s => chR st (ev Φ d) s x.1 y.1 := by
  simp only [evT, chR] <;> rfl
theorem t_val : evT Φ (.val e) ⟨b :: ρ, w⟩ = (pkOf e (ev Φ e) ⟨b :: ρ, w⟩).bind fun x s => (optR (rdv s x) s).bind fun v s => optR (vTruth v) s := (rfl)
/-! statements -/
variable {A B : List S} {st : S}
theorem s_nil : evSs Φ [] ⟨b :: ρ, w⟩ = .ok .nx ⟨b :: ρ, w⟩ := (rfl)
def seqR (Φ : Fns) (r : List S) : Fl → Sta → Res Fl
  | .nx, s => evSs Φ r s
  | f, s => .ok f s
theorem s_cons : evSs Φ (st :: A) ⟨b :: ρ, w⟩ = (evS Φ st ⟨b :: ρ, w⟩).bind (seqR Φ A) := by
  simp only [evSs]
  congr 1
  funext f s
  cases f <;> rfl
theorem seq_nx {s : Sta} : seqR Φ A .nx s = evSs Φ A s := (rfl)
theorem seq_ret {fr : Bool} {s : Sta} : seqR Φ A (.ret v fr) s = .ok (.ret v fr) s := (rfl)
theorem seq_brk {s : Sta} : seqR Φ A .brk s = .ok .brk s := (rfl)
theorem st_set : evS Φ (.set i e) ⟨b :: ρ, w⟩ = (evM Φ e ⟨b :: ρ, w⟩).bind fun x s => setV i x.1 x.2 s := (rfl)
theorem setV_ok {fr : Bool} (h : i < (b :: ρ).length) : setV i v fr ⟨b :: ρ, w⟩ = .ok .nx ⟨(b :: ρ).set i (if fr then .own v else .fz v), w⟩ := if_pos h
theorem st_par {j : Nat} : evS Φ (.par i j a c) ⟨b :: ρ, w⟩ = (evM Φ a ⟨b :: ρ, w⟩).bind fun x s => (evM Φ c s).bind fun y s => (setV j y.1 y.2 s).bind fun _ s => setV i x.1 x.2 s := (rfl)
theorem st_unpack2 {p q : Tg} : evS Φ (.unpack2 p q a c) ⟨b :: ρ, w⟩ = (evM Φ a ⟨b :: ρ, w⟩).bind fun x s => (evM Φ c s).bind fun y s => (setM p x.1 x.2 s).bind fun _ s => setM q y.1 y.2 s := (rfl)
def tgR (w : List (Option Val)) : Option (List Slot) → Res Fl
  | some ρ => .ok .nx ⟨ρ, w⟩
  | none => .bad
theorem st_unpack {p : Tg} : evS Φ (.unpack p e) ⟨b :: ρ, w⟩ = (ev Φ e ⟨b :: ρ, w⟩).bind fun x s => tgR s.w (setTg p x.1 s.ρ) := by
  simp only [evS, tgR] <;> rfl
theorem tgR_some : tgR w (some ρ) = .ok .nx ⟨ρ, w⟩ := (rfl)
theorem st_setI : evS Φ (.setI l k e) ⟨b :: ρ, w⟩ = (ev Φ e ⟨b :: ρ, w⟩).bind fun v s => (pkOf l (ev Φ l) s).bind fun o s => (ev Φ k s).bind fun k s => putI o k.1 v.1 s := (rfl)
theorem st_setF {c f : Str} : evS Φ (.setF l c f e) ⟨b :: ρ, w⟩ = (ev Φ e ⟨b :: ρ, w⟩).bind fun v s => (pkOf l (ev Φ l) s).bind fun o s => putF o c f v.1 s := (rfl)
def augR (Φ : Fns) (i : Nat) (op : P2) (e : E) (s : Sta) : Option Slot → Res Fl
  | some (.fz (.int a)) => (ev Φ e s).bind fun y s => (match y.1 with
      | .int b => (match prim2 op (.int a) (.int b) with
        | some (.int c, false) => setV i (.int c) false s
        | _ => .bad)
      | _ => .bad)
  | _ => .bad
theorem st_aug {op : P2} : evS Φ (.aug i op e) ⟨b :: ρ, w⟩ = augR Φ i op e ⟨b :: ρ, w⟩ ((b :: ρ)[i]?) := by
  simp only [evS, augR] <;> (rcases h : (b :: ρ)[i]? with _ | (_ | v | v) <;> first | rfl | (cases v <;> rfl))
def augX (i : Nat) (s : Sta) : Option (Val × Bool) → Res Fl
  | some (.int c, false) => setV i (.int c) false s
  | _ => .bad
def augY (i : Nat) (op : P2) (k : Int) (s : Sta) : Val → Res Fl
  | .int b => augX i s (prim2 op (.int k) (.int b))
  | _ => .bad
theorem augR_fz {op : P2} {k : Int} {s : Sta} : augR Φ i op e s (some (.fz (.int k))) = (ev Φ e s).bind fun y s => augY i op k s y.1 := by
  simp only [augR, augY, augX]
theorem augY_int {op : P2} {k j : Int} {s : Sta} : augY i op k s (.int j) = augX i s (prim2 op (.int k) (.int j)) := (rfl)
theorem augX_some {k : Int} {s : Sta} : augX i s (some (.int k, false)) = setV i (.int k) false s := (rfl)
theorem st_augI : evS Φ (.augI l k e) ⟨b :: ρ, w⟩ = (pkOf l (ev Φ l) ⟨b :: ρ, w⟩).bind fun o s => (ev Φ k s).bind fun k s => (optR (rdv s o) s).bind fun ov s => (optR (idxL ov k.1) s).bind fun x s =>
      (ev Φ e s).bind fun y s => addI o k.1 s x y.1 := (rfl)
theorem idxL_l {vs : List Val} {i : Int} : idxL (.lst vs) (.int i) = atV vs i := (rfl)
theorem addI_i {o : PV} {k : Val} {s : Sta} {i j : Int} : addI o k s (.int i) (.int j) = putI o k (.int (i + j)) s := (rfl)
theorem st_expr : evS Φ (.expr e) ⟨b :: ρ, w⟩ = (ev Φ e ⟨b :: ρ, w⟩).bind fun _ s => .ok .nx s := (rfl)
theorem st_ite : evS Φ (.ite t A B) ⟨b :: ρ, w⟩ = (evT Φ t ⟨b :: ρ, w⟩).bind fun k s => if k then evSs Φ A s else evSs Φ B s := (rfl)
theorem st_for {tg : Tg} {wk : Wk} : evS Φ (.for_ tg wk es A) ⟨b :: ρ, w⟩ = (evs Φ es ⟨b :: ρ, w⟩).bind fun vs s => (optR (walk wk vs) s).bind fun its s => forN tg (evSs Φ A) its s := (rfl)
theorem st_while : evS Φ (.while_ t A) ⟨b :: ρ, w⟩ = whileN (evT Φ t) (evSs Φ A) FUEL ⟨b :: ρ, w⟩ := (rfl)
theorem st_ret : evS Φ (.ret e) ⟨b :: ρ, w⟩ = (evM Φ e ⟨b :: ρ, w⟩).bind fun x s => .ok (.ret x.1 x.2) s := (rfl)
theorem st_retN : evS Φ .retN ⟨b :: ρ, w⟩ = .ok (.ret .non false) ⟨b :: ρ, w⟩ := (rfl)
theorem st_brk : evS Φ .brk ⟨b :: ρ, w⟩ = .ok .brk ⟨b :: ρ, w⟩ := (rfl)
theorem st_pass : evS Φ .pass ⟨b :: ρ, w⟩ = .ok .nx ⟨b :: ρ, w⟩ := (rfl)
theorem st_raise {c : Str} {fs : List Str} : evS Φ (.raise c fs es) ⟨b :: ρ, w⟩ = (evs Φ es ⟨b :: ρ, w⟩).bind fun vs s => if fs.length = vs.length then .ex c (fs.zip vs) s else .bad := (rfl)
theorem st_try {x : Str} {cs : List Str} : evS Φ (.tryR A x cs e) ⟨b :: ρ, w⟩ = tryRes x cs e (evSs Φ A ⟨b :: ρ, w⟩) := (rfl)
theorem try_ok {x : Str} {cs : List Str} {f : Fl} {s : Sta} : tryRes x cs e (.ok f s) = .ok f s := (rfl)
theorem st_kill {is : List Nat} : evS Φ (.kill is) ⟨b :: ρ, w⟩ = .ok .nx ⟨killS (b :: ρ) is, w⟩ := (rfl)
theorem tg_nm (h : i < ρ.length) : setTg (.nm i) v ρ = some (ρ.set i (.fz v)) := if_pos h
theorem tg2 {j : Nat} (h : i < ρ.length) (h2 : j < ρ.length) : setTg (.tup [.nm i, .nm j]) (.tup [v, u]) ρ = some ((ρ.set i (.fz v)).set j (.fz u)) := by
  simp [setTg, setTgs, h, h2]
theorem tg2a {k : Nat} {x y : Nat} {z : Val} (h : i < ρ.length) (h2 : x < ρ.length) (h3 : y < ρ.length) : setTg (.tup [.nm i, .tup [.nm x, .nm y]]) (.tup [v, .tup [u, z]]) ρ = some (((ρ.set i (.fz v)).set x (.fz u)).set y (.fz z)) := by
  simp [setTg, setTgs, h, h2, h3]
theorem p_lend {r : Sta → Res (Val × Bool)} : pkOf (.lend i e) r ⟨b :: ρ, w⟩ = (r ⟨b :: ρ, w⟩).bind fun p s => .ok (.val p.1) s := (rfl)
theorem m_lend : evM Φ (.lend i e) ⟨b :: ρ, w⟩ = ev Φ (.lend i e) ⟨b :: ρ, w⟩ := (rfl)
theorem p_prop {f g h : Str} {r : Sta → Res (Val × Bool)} : pkOf (.prop a f g h) r ⟨b :: ρ, w⟩ = (r ⟨b :: ρ, w⟩).bind fun p s => .ok (.val p.1) s := (rfl)
theorem m_prop {f g h : Str} : evM Φ (.prop a f g h) ⟨b :: ρ, w⟩ = ev Φ (.prop a f g h) ⟨b :: ρ, w⟩ := (rfl)
theorem p_lenC {f g : Str} {r : Sta → Res (Val × Bool)} : pkOf (.lenC a f g) r ⟨b :: ρ, w⟩ = (r ⟨b :: ρ, w⟩).bind fun p s => .ok (.val p.1) s := (rfl)
theorem m_lenC {f g : Str} : evM Φ (.lenC a f g) ⟨b :: ρ, w⟩ = ev Φ (.lenC a f g) ⟨b :: ρ, w⟩ := (rfl)
theorem p_eqC {f g : Str} {r : Sta → Res (Val × Bool)} : pkOf (.eqC a c f g) r ⟨b :: ρ, w⟩ = (r ⟨b :: ρ, w⟩).bind fun p s => .ok (.val p.1) s := (rfl)
theorem m_eqC {f g : Str} : evM Φ (.eqC a c f g) ⟨b :: ρ, w⟩ = ev Φ (.eqC a c f g) ⟨b :: ρ, w⟩ := (rfl)
def propR (Φ : Fns) (c k : Str) (v : Val) (s : Sta) : Option Val → Res (Val × Bool)
  | some (.ins c' _) => if c' = c then ofFN s.ρ (Φ k [v] s.w) else .bad
  | _ => .bad
def lenX (Φ : Fns) (c k : Str) (v : Val) (s : Sta) : Option Val → Res (Val × Bool)
  | some (.ins c' _) => if c' = c then (ofFN s.ρ (Φ k [v] s.w)).bind fun y s => lenR y s else .bad
  | _ => .bad
theorem x_prop {f g h : Str} : ev Φ (.prop a f g h) ⟨b :: ρ, w⟩ = (ev Φ a ⟨b :: ρ, w⟩).bind fun x s => propR Φ f h x.1 s (rdv s (.val x.1)) := by
  simp only [ev]
  cases ev Φ a ⟨b :: ρ, w⟩ with
  | ok x s => simp only [Res.bind]; cases e : rdv s (.val x.1) with
    | none => rfl
    | some v => cases v <;> rfl
  | ex c fs s => rfl
  | bad => rfl
theorem propR_ins {f h : Str} {s : Sta} {fs : List (Str × Val)} : propR Φ f h v s (some (.ins f fs)) = ofFN s.ρ (Φ h [v] s.w) := if_pos rfl
theorem x_lenC {f g : Str} : ev Φ (.lenC a f g) ⟨b :: ρ, w⟩ = (ev Φ a ⟨b :: ρ, w⟩).bind fun x s => lenX Φ f g x.1 s (rdv s (.val x.1)) := by
  simp only [ev]
  cases ev Φ a ⟨b :: ρ, w⟩ with
  | ok x s => simp only [Res.bind]; cases e : rdv s (.val x.1) with
    | none => rfl
    | some v => cases v <;> rfl
  | ex c fs s => rfl
  | bad => rfl
theorem lenX_ins {f h : Str} {s : Sta} {fs : List (Str × Val)} : lenX Φ f h v s (some (.ins f fs)) = (ofFN s.ρ (Φ h [v] s.w)).bind fun y s => lenR y s := if_pos rfl
theorem ofFN_ok2 {fr : Bool} : ofFN ρ (.ok v fr w) = .ok (v, fr) ⟨ρ, w⟩ := (rfl)
theorem boolR_bl {k fr : Bool} {s : Sta} : boolR (.bl k, fr) s = .ok (.bl k, false) s := (rfl)
theorem x_eqC {f g : Str} : ev Φ (.eqC a c f g) ⟨b :: ρ, w⟩ = (ev Φ a ⟨b :: ρ, w⟩).bind fun x s => (ev Φ c s).bind fun y s => if eqOk f x.1 y.1 = true then (ofFN s.ρ (Φ g [x.1, y.1] s.w)).bind fun z s => boolR z s else .bad := (rfl)
def blT (v : Val) (s : Sta) : Res Bool := match v with
  | .bl k => .ok k s
  | _ => .bad
theorem blT_bl {k : Bool} {s : Sta} : blT (.bl k) s = .ok k s := (rfl)
theorem t_eqC {f g : Str} : evT Φ (.eqC a c f g) ⟨b :: ρ, w⟩ = (ev Φ a ⟨b :: ρ, w⟩).bind fun x s => (ev Φ c s).bind fun y s => if eqOk f x.1 y.1 = true then (ofFN s.ρ (Φ g [x.1, y.1] s.w)).bind fun z s => blT z.1 s else .bad := (rfl)
theorem eqOk_i {f : Str} {fs gs : List (Str × Val)} : eqOk f (.ins f fs) (.ins f gs) = true := by simp [eqOk]
theorem eqOk_t {f : Str} {fs : List (Str × Val)} {vs : List Val} : eqOk f (.ins f fs) (.tup vs) = true := by simp [eqOk]
end
end TL

set_option Elab.async false
set_option linter.all false
set_option maxRecDepth 100000
/-! LVC: what the operations answer at values of a known form. -/
namespace TL
open PySem PySem.Spec PyProof.Rows L2
theorem tupI_eq {ns : List Int} : tupI ns = .tup (ns.map .int) := (rfl)
theorem ints_map : ∀ ns : List Int, intsOf (ns.map .int) = some ns
  | [] => rfl
  | n :: ns => by simp [intsOf, ints_map ns]
theorem rowsOf_map : ∀ rs : List (List Int), rowsOf (rs.map tupI) = some rs
  | [] => rfl
  | n :: ns => by simp [rowsOf, rowsOf_map ns, tupI, ints_map]
section
variable {xs ys : List Val} {i j : Int} {ns : List Int} {t : Bool} {kvs : List (NestedKey × Val)} {v : Val}
theorem q_len_l : prim1 .len (.lst xs) = some (.int xs.length, false) := (rfl)
theorem q_len_t : prim1 .len (.tup xs) = some (.int xs.length, false) := (rfl)
theorem q_len_d : prim1 .len (.dct t kvs) = some (.int kvs.length, false) := (rfl)
theorem q_sum : prim1 .sum (.lst (ns.map .int)) = some (.int ns.sum, false) := by simp [prim1, ints_map]
theorem q_sum_t : prim1 .sum (.tup (ns.map .int)) = some (.int ns.sum, false) := by simp [prim1, ints_map]
theorem q_list_l : prim1 .list (.lst xs) = some (.lst xs, true) := (rfl)
theorem q_list_t : prim1 .list (.tup xs) = some (.lst xs, true) := (rfl)
theorem q_list_d : prim1 .list (.dct t kvs) = some (.lst (kvs.map fun p => vk p.1), true) := (rfl)
theorem q_tuple_l : prim1 .tuple (.lst xs) = some (.tup xs, false) := (rfl)
theorem q_tuple_t : prim1 .tuple (.tup xs) = some (.tup xs, false) := (rfl)
theorem q_sorted : prim1 .sorted (.lst (ns.map .int)) = some (.lst ((isort ns).map .int), true) := by simp [prim1, ints_map]
theorem q_sset (h : ns.length < 4000) (h2 : (usort ns).length < 64) : prim1 .sset (.lst (ns.map .int)) = some (.lst ((usort ns).map .int), true) := by simp [prim1, ints_map, h, h2]
theorem q_lset (h : ns.length < 4000) : prim1 .lset (.lst (ns.map .int)) = some (.int (usort ns).length, false) := by simp [prim1, ints_map, h]
theorem q_sortedT {rs : List (List Int)} (h : rowsB rs = true) : prim1 .sortedT (.lst (rs.map tupI)) = some (.lst ((tsort rs).map tupI), true) := by simp [prim1, rowsOf_map, h]
theorem q_ssetT {rs : List (List Int)} (h : rowsS rs = true) : prim1 .ssetT (.lst (rs.map tupI)) = some (.lst ((tusort rs).map tupI), true) := by simp [prim1, rowsOf_map, h]
theorem q_lsetT {rs : List (List Int)} (h : rowsB rs = true) : prim1 .lsetT (.lst (rs.map tupI)) = some (.int (tusort rs).length, false) := by simp [prim1, rowsOf_map, h]
theorem q_max {n : Int} : prim1 .max (.lst (.int n :: ns.map .int)) = some (.int (maxL n ns), false) := by
  have := ints_map (n :: ns)
  simp only [List.map_cons] at this
  simp [prim1, this]
theorem q_min {n : Int} : prim1 .min (.lst (.int n :: ns.map .int)) = some (.int (minL n ns), false) := by
  have := ints_map (n :: ns)
  simp only [List.map_cons] at this
  simp [prim1, this]
theorem q_int_i : prim1 .int (.int i) = some (.int i, false) := (rfl)
theorem q_int_b {b : Bool} : prim1 .int (.bl b) = some (.int (b2i b), false) := (rfl)
theorem q_abs : prim1 .abs (.int i) = some (.int (if i < 0 then -i else i), false) := (rfl)
theorem q_neg : prim1 .neg (.int i) = some (.int (-i), false) := (rfl)
theorem p22 : (2 : Int) ^ 22 = 4194304 := by decide
theorem small_of {i : Int} (h : -4194304 < i) (h2 : i < 4194304) : smallI i = true := smallI_iff.mpr (by rw [p22]; exact ⟨h, h2⟩)
theorem q_lrange (h : -4194304 < i) (h2 : i < 4194304) : prim1 .lrange (.int i) = some (.lst (intRange 0 i.toNat), true) := by
  simp only [prim1]
  rw [if_pos (small_of h h2)]
theorem q_isNone : prim1 .isNone v = some (.bl (isNonB v), false) := (rfl)
theorem q_notNone : prim1 .notNone v = some (.bl (!isNonB v), false) := (rfl)
theorem q_isInt_i : prim1 .isInt (.int i) = some (.bl true, false) := (rfl)
theorem q_isBool_i : prim1 .isBool (.int i) = some (.bl false, false) := (rfl)
theorem q_isTuple_t : prim1 .isTuple (.tup xs) = some (.bl true, false) := (rfl)
theorem q_isList_l : prim1 .isList (.lst xs) = some (.bl true, false) := (rfl)
theorem q_add_i : prim2 .add (.int i) (.int j) = some (.int (i + j), false) := (rfl)
theorem q_add_l (h : xs.length + ys.length ≤ sizeLine) : prim2 .add (.lst xs) (.lst ys) = some (.lst (xs ++ ys), true) := if_pos h
theorem q_add_t (h : xs.length + ys.length ≤ sizeLine) : prim2 .add (.tup xs) (.tup ys) = some (.tup (xs ++ ys), false) := if_pos h
theorem q_sub : prim2 .sub (.int i) (.int j) = some (.int (i - j), false) := (rfl)
theorem q_mul (h : mulOk i j = true) : prim2 .mul (.int i) (.int j) = some (.int (i * j), false) := if_pos h
theorem q_fdivW (h : 0 < j ∧ j.natAbs.log2 < 9000) : prim2 .fdiv (.int i) (.int j) = some (.int (i / j), false) := if_pos h
theorem log_of (h : 0 < j) (h2 : j < 2 ^ 200) : j.natAbs.log2 < 9000 := by
  have h3 : j.natAbs < 2 ^ 200 := by
    have : (j.natAbs : Int) < 2 ^ 200 := by omega
    exact_mod_cast this
  have h4 : j.natAbs ≠ 0 := by omega
  have := (Nat.log2_lt h4).mpr h3
  omega
theorem q_fdiv (h : 0 < j ∧ j < 2 ^ 200) : prim2 .fdiv (.int i) (.int j) = some (.int (i / j), false) := q_fdivW ⟨h.1, log_of h.1 h.2⟩
theorem q_mod (h : 0 < j) : prim2 .mod (.int i) (.int j) = some (.int (i % j), false) := if_pos h
theorem q_pow (h : 0 ≤ j ∧ j ≤ 1000 ∧ i.natAbs < 2 ^ 64) : prim2 .pow (.int i) (.int j) = some (.int (i ^ j.toNat), false) := if_pos h
theorem q_gt : prim2 .gt (.int i) (.int j) = some (.bl (decide (j < i)), false) := (rfl)
theorem q_le : prim2 .le (.int i) (.int j) = some (.bl (decide (i ≤ j)), false) := (rfl)
theorem q_ge : prim2 .ge (.int i) (.int j) = some (.bl (decide (j ≤ i)), false) := (rfl)
theorem q_rev : prim1 .rev (.lst xs) = some (.lst xs.reverse, true) := (rfl)
theorem q_isLT_l : prim1 .isLT (.lst xs) = some (.bl true, false) := (rfl)
theorem q_isLT_t : prim1 .isLT (.tup xs) = some (.bl true, false) := (rfl)
theorem q_isLT_n : prim1 .isLT .non = some (.bl false, false) := (rfl)
theorem q_max2 : prim2 .max (.int i) (.int j) = some (.int (if j > i then j else i), false) := (rfl)
theorem q_min2 : prim2 .min (.int i) (.int j) = some (.int (if j < i then j else i), false) := (rfl)
def bM : Option Bool → Option (Val × Bool)
  | some b => some (.bl b, false)
  | none => none
def nM : Option Bool → Option (Val × Bool)
  | some b => some (.bl (!b), false)
  | none => none
def vM : Option Val → Option (Val × Bool)
  | some b => some (b, false)
  | none => none
theorem bM_s {b : Bool} : bM (some b) = some (.bl b, false) := (rfl)
theorem nM_s {b : Bool} : nM (some b) = some (.bl (!b), false) := (rfl)
theorem vM_s : vM (some v) = some (v, false) := (rfl)
theorem bM_eq (o : Option Bool) : o.map (fun b => (Val.bl b, false)) = bM o := by cases o <;> rfl
theorem nM_eq (o : Option Bool) : o.map (fun b => (Val.bl (!b), false)) = nM o := by cases o <;> rfl
theorem vM_eq (o : Option Val) : o.map (fun b => (b, false)) = vM o := by cases o <;> rfl
theorem q_eq {x y : Val} : prim2 .eq x y = bM (vEq DEP x y) := by
  rw [← bM_eq]; cases x <;> cases y <;> rfl
theorem q_ne {x y : Val} : prim2 .ne x y = nM (vEq DEP x y) := by
  rw [← nM_eq]; cases x <;> cases y <;> rfl
theorem q_lt {x y : Val} : prim2 .lt x y = bM (vLt DEP x y) := by
  rw [← bM_eq]; cases x <;> cases y <;> rfl
theorem q_in_l : prim2 .inn v (.lst xs) = bM (vIn v xs) := by
  rw [← bM_eq]; cases v <;> rfl
theorem q_in_t : prim2 .inn v (.tup xs) = bM (vIn v xs) := by
  rw [← bM_eq]; cases v <;> rfl
def kM (f : NestedKey → Option (Val × Bool)) : Option NestedKey → Option (Val × Bool)
  | some k => f k
  | none => none
theorem kM_s {f : NestedKey → Option (Val × Bool)} {k : NestedKey} : kM f (some k) = f k := (rfl)
theorem q_in_d : prim2 .inn v (.dct t kvs) = kM (fun k => some (.bl (dGet kvs k).isSome, false)) (keyOf t v) := by
  have : prim2 .inn v (.dct t kvs) = (keyOf t v).map fun k => (.bl (dGet kvs k).isSome, false) := by cases v <;> rfl
  rw [this]; cases keyOf t v <;> rfl
theorem q_nin_l : prim2 .notin v (.lst xs) = nM (vIn v xs) := by
  rw [← nM_eq]; cases v <;> rfl
theorem q_nin_t : prim2 .notin v (.tup xs) = nM (vIn v xs) := by
  rw [← nM_eq]; cases v <;> rfl
theorem q_nin_d : prim2 .notin v (.dct t kvs) = kM (fun k => some (.bl (!(dGet kvs k).isSome), false)) (keyOf t v) := by
  have : prim2 .notin v (.dct t kvs) = (keyOf t v).map fun k => (.bl (!(dGet kvs k).isSome), false) := by cases v <;> rfl
  rw [this]; cases keyOf t v <;> rfl
theorem q_idx_l : prim2 .idx (.lst xs) (.int i) = vM (atV xs i) := by rw [← vM_eq]; rfl
theorem q_idx_t : prim2 .idx (.tup xs) (.int i) = vM (atV xs i) := by rw [← vM_eq]; rfl
theorem q_idx_d : prim2 .idx (.dct t kvs) v = kM (fun k => vM (dGet kvs k)) (keyOf t v) := by
  have : prim2 .idx (.dct t kvs) v = (keyOf t v).bind fun k => (dGet kvs k).map fun x => (x, false) := by cases v <;> rfl
  rw [this]
  cases keyOf t v with
  | none => rfl
  | some k => exact vM_eq _
theorem q_tr_bl {b : Bool} : vTruth (.bl b) = some b := (rfl)
theorem q_tr_int : vTruth (.int i) = some (i != 0) := (rfl)
theorem q_tr_non : vTruth .non = some false := (rfl)
theorem q_tr_tup : vTruth (.tup xs) = some (!xs.isEmpty) := (rfl)
theorem q_tr_lst : vTruth (.lst xs) = some (!xs.isEmpty) := (rfl)
theorem q_tr_dct : vTruth (.dct t kvs) = some (!kvs.isEmpty) := (rfl)
/-! items by their place -/
theorem ixN_of {n : Nat} {i : Int} (h : 0 ≤ i ∧ i < n) : ixN n i = some i.toNat := by simp [ixN, h.1, h.2]
theorem at_of {α : Type} {f : α → Val} {xs : List α} {i : Int} {a : α} (h : 0 ≤ i) (e : xs[i.toNat]? = some a) : atV (xs.map f) i = some (f a) := by
  have hl : i.toNat < xs.length := by
    rcases Nat.lt_or_ge i.toNat xs.length with h | h
    · exact h
    · rw [List.getElem?_eq_none h] at e; cases e
  rw [atV, ixN_of ⟨h, by simp only [List.length_map]; omega⟩]
  simp [e]
theorem at_int {ns : List Int} {i : Int} (h : 0 ≤ i) (h2 : i < ns.length) : atV (ns.map .int) i = some (.int (ns.getD i.toNat 0)) := by
  refine at_of h ?_
  rw [List.getD_eq_getElem?_getD, List.getElem?_eq_getElem (by omega)]
  rfl
theorem at_0 : atV (v :: xs) 0 = some v := by
  rw [atV, ixN_of ⟨by omega, by simp⟩]
  rfl
theorem at_1 {u : Val} : atV (v :: u :: xs) 1 = some u := by
  rw [atV, ixN_of ⟨by omega, by simp; omega⟩]
  rfl
theorem at_2 {u z : Val} : atV (v :: u :: z :: xs) 2 = some z := by
  rw [atV, ixN_of ⟨by omega, by simp; omega⟩]
  rfl
/-! walks -/
theorem w_lst : walk .val [.lst xs] = some xs := (rfl)
theorem w_tup : walk .val [.tup xs] = some xs := (rfl)
theorem w_dct : walk .val [.dct t kvs] = some (kvs.map fun p => vk p.1) := (rfl)
theorem w_range1 (h : -4194304 < i) (h2 : i < 4194304) : walk .range1 [.int i] = some (intRange 0 i.toNat) := if_pos (small_of h h2)
theorem w_range2 (h : -4194304 < i) (h2 : i < 4194304) (h3 : -4194304 < j) (h4 : j < 4194304) : walk .range2 [.int i, .int j] = some (intRange i (j - i).toNat) := if_pos ⟨small_of h h2, small_of h3 h4⟩
theorem w_enum_l : walk .enum [.lst xs] = some (enumV 0 xs) := (rfl)
theorem w_enum_t : walk .enum [.tup xs] = some (enumV 0 xs) := (rfl)
theorem w_zip (h : xs.length = ys.length) : walk .zip [.lst xs, .lst ys] = some (zipV xs ys) := if_pos h
theorem w_rev_l : walk .revd [.lst xs] = some xs.reverse := (rfl)
theorem w_rev_t : walk .revd [.tup xs] = some xs.reverse := (rfl)
end
/-- lo, lo + 1, .. -/
def rangeI (lo : Int) : Nat → List Int
  | 0 => []
  | n + 1 => lo :: rangeI (lo + 1) n
theorem intRange_eq : ∀ (n : Nat) (lo : Int), intRange lo n = (rangeI lo n).map .int
  | 0, _ => rfl
  | n + 1, lo => by simp [intRange, rangeI, intRange_eq n]
theorem rangeI_len : ∀ (n : Nat) (lo : Int), (rangeI lo n).length = n
  | 0, _ => rfl
  | n + 1, lo => by simp [rangeI, rangeI_len n]
theorem mem_rangeI {x : Int} : ∀ {n : Nat} {lo : Int}, x ∈ rangeI lo n ↔ lo ≤ x ∧ x < lo + n
  | 0, lo => by simp [rangeI]
  | n + 1, lo => by simp [rangeI, mem_rangeI (n := n)]; omega
def enumI {α : Type} (i : Int) : List α → List (Int × α)
  | [] => []
  | x :: xs => (i, x) :: enumI (i + 1) xs
theorem enumV_map {α : Type} {f : α → Val} : ∀ (xs : List α) (i : Int), enumV i (xs.map f) = (enumI i xs).map fun p => .tup [.int p.1, f p.2]
  | [], _ => rfl
  | x :: xs, i => by simp [enumV, enumI, enumV_map xs]
theorem zipV_map {α β : Type} {f : α → Val} {g : β → Val} : ∀ (xs : List α) (ys : List β), zipV (xs.map f) (ys.map g) = (xs.zip ys).map fun p => .tup [f p.1, g p.2]
  | [], _ => by simp [zipV]
  | x :: xs, [] => by simp [zipV]
  | x :: xs, y :: ys => by simp [zipV, zipV_map xs ys]
/-! dicts -/
section
variable {α β : Type} [DecidableEq α]
def aGet (kvs : List (α × β)) (a : α) : Option β := (kvs.find? fun p => decide (p.1 = a)).map (·.2)
def aPut (kvs : List (α × β)) (a : α) (b : β) : List (α × β) := if (aGet kvs a).isSome then kvs.map fun p => if p.1 = a then (p.1, b) else p else kvs ++ [(a, b)]
def aDel (kvs : List (α × β)) (a : α) : List (α × β) := kvs.filter fun p => decide (p.1 ≠ a)
/-- a dict of keys and values of a kind -/
def dE (k : α → NestedKey) (f : β → Val) (kvs : List (α × β)) : List (NestedKey × Val) := kvs.map fun p => (k p.1, f p.2)
variable {k : α → NestedKey} {f : β → Val} {kvs : List (α × β)} {a : α} {b : β}
theorem dGet_E (inj : ∀ x y, k x = k y → x = y) : ∀ kvs : List (α × β), dGet (dE k f kvs) (k a) = (aGet kvs a).map f
  | [] => rfl
  | (x, y) :: r => by
    have ih := dGet_E inj r
    unfold dGet aGet dE at *
    by_cases h : x = a
    · subst h; simp
    · have : k x ≠ k a := fun e => h (inj _ _ e)
      simp [this, h] at ih ⊢
      exact ih
theorem dPut_E (inj : ∀ x y, k x = k y → x = y) : dPut (dE k f kvs) (k a) (f b) = dE k f (aPut kvs a b) := by
  unfold dPut aPut
  rw [dGet_E inj]
  simp only [Option.isSome_map]
  split
  · simp only [dE, List.map_map]
    refine List.map_congr_left fun p _ => ?_
    by_cases h : p.1 = a
    · simp [h]
    · have : k p.1 ≠ k a := fun e => h (inj _ _ e)
      simp [h, this]
  · simp [dE]
theorem dDel_E (inj : ∀ x y, k x = k y → x = y) : dDel (dE k f kvs) (k a) = dE k f (aDel kvs a) := by
  unfold dDel aDel dE
  rw [List.filter_map]
  congr 1
  refine List.filter_congr fun p _ => ?_
  by_cases h : p.1 = a
  · simp [h]
  · have : k p.1 ≠ k a := fun e => h (inj _ _ e)
    simp [h, this]
theorem dE_len : (dE k f kvs).length = kvs.length := by simp [dE]
theorem dE_keys : (dE k f kvs).map (fun p => vk p.1) = (kvs.map (·.1)).map fun a => vk (k a) := by simp [dE]
theorem dE_empty : (dE k f kvs).isEmpty = kvs.isEmpty := by cases kvs <;> rfl
theorem aGet_nil : aGet ([] : List (α × β)) a = none := (rfl)
theorem aGet_cons {x : α} {y : β} {r : List (α × β)} : aGet ((x, y) :: r) a = if x = a then some y else aGet r a := by
  unfold aGet
  by_cases h : x = a <;> simp [h]
theorem aGet_some : ∀ {kvs : List (α × β)}, (aGet kvs a).isSome = decide (a ∈ kvs.map (·.1))
  | [] => by simp [aGet_nil]
  | (x, y) :: r => by
    rw [aGet_cons]
    by_cases h : x = a
    · simp [h]
    · simp [h, aGet_some (kvs := r), Ne.symm h]
theorem aGet_put {a' : α} {kvs : List (α × β)} : aGet (aPut kvs a b) a' = if a = a' then some b else aGet kvs a' := by
    unfold aPut
    split
    · rename_i h
      induction kvs with
      | nil => simp [aGet_nil] at h
      | cons p r ih =>
        obtain ⟨x, y⟩ := p
        rw [aGet_cons] at h
        simp only [List.map_cons]
        by_cases e : x = a
        · subst e
          simp only [if_true]
          rw [aGet_cons]
          by_cases e2 : x = a'
          · simp [e2]
          · simp only [e2, if_false]
            rw [aGet_cons]
            simp only [e2, if_false]
            clear ih h
            induction r with
            | nil => rfl
            | cons q r ih =>
              obtain ⟨u, z⟩ := q
              simp only [List.map_cons]
              by_cases e3 : u = x
              · subst e3
                simp only [if_true]
                rw [aGet_cons, aGet_cons]
                simp only [e2, if_false]
                exact ih
              · simp only [e3, if_false]
                rw [aGet_cons, aGet_cons, ih]
        · simp only [e, if_false] at h ⊢
          rw [aGet_cons, aGet_cons, ih h]
          by_cases e2 : x = a'
          · subst e2; simp [Ne.symm e]
          · simp [e2]
    · rename_i h
      unfold aGet
      rw [List.find?_append]
      cases e : kvs.find? fun p => decide (p.1 = a') with
      | none =>
        simp
      | some q =>
        have hq := List.find?_some e
        simp at hq
        subst hq
        have : a ≠ q.1 := fun e3 => by
          apply h
          rw [aGet_some, e3]
          simp only [decide_eq_true_eq]
          exact List.mem_map_of_mem (List.mem_of_find?_eq_some e)
        simp [this]
theorem aPut_keys : (aPut kvs a b).map (·.1) = if a ∈ kvs.map (·.1) then kvs.map (·.1) else kvs.map (·.1) ++ [a] := by
  unfold aPut
  rw [aGet_some]
  by_cases h : a ∈ kvs.map (·.1)
  · rw [if_pos (by simpa using h), if_pos h, List.map_map]
    refine List.map_congr_left fun p _ => ?_
    simp only [Function.comp]
    split <;> rfl
  · rw [if_neg (by simpa using h), if_neg h]
    simp
end
/-! keys -/
def kT (ns : List Int) : NestedKey := .tup (ns.map .num)
def kP (p : Int × Int) : NestedKey := .tup [.num p.1, .num p.2]
theorem num_inj : ∀ x y : Int, NestedKey.num x = NestedKey.num y → x = y := fun _ _ h => NestedKey.num.inj h
theorem kT_inj : ∀ x y : List Int, kT x = kT y → x = y := fun x y h => by
  have := NestedKey.tup.inj h
  exact (List.map_inj_right (fun _ _ => NestedKey.num.inj)).mp this
theorem kP_inj : ∀ x y : Int × Int, kP x = kP y → x = y := fun x y h => by
  have := NestedKey.tup.inj h
  simp at this
  exact Prod.ext this.1 this.2
theorem nks_ints : ∀ ns : List Int, nks (ns.map .int) = some (ns.map .num)
  | [] => rfl
  | n :: ns => by simp [nks, nk, nks_ints ns]
theorem vks_ints : ∀ ns : List Int, vks (ns.map .num) = ns.map .int
  | [] => rfl
  | n :: ns => by simp [vks, vk, vks_ints ns]
theorem key_i {i : Int} : keyOf false (.int i) = some (.num i) := (rfl)
theorem vk_num {i : Int} : vk (.num i) = .int i := (rfl)
theorem vk_kT {ns : List Int} : vk (kT ns) = tupI ns := by simp [vk, kT, vks_ints, tupI]
theorem vk_kP {p : Int × Int} : vk (kP p) = .tup [.int p.1, .int p.2] := by simp [vk, kP, vks]
theorem depth_ints (ns : List Int) : (kT ns).depth ≤ 8 := by
  have h : ∀ ns : List Int, NestedKey.depthAll (ns.map .num) ≤ 1 := fun ns => by
    induction ns with
    | nil => simp [NestedKey.depthAll]
    | cons n ns ih => simp [NestedKey.depthAll, NestedKey.depth]; omega
  have := h ns
  simp [kT, NestedKey.depth]; omega
theorem key_t {ns : List Int} : keyOf true (.tup (ns.map .int)) = some (kT ns) := by
  simp only [keyOf, nk, nks_ints, Option.map_some]
  exact if_pos (depth_ints ns)
theorem key_p {i j : Int} : keyOf true (.tup [.int i, .int j]) = some (kP (i, j)) := by
  have := key_t (ns := [i, j])
  exact this
/-! the same for any x in a list of tuples -/
section
variable {α β : Type} [DecidableEq α] {k : α → NestedKey}
/-- keys alone -/
def dS (k : α → NestedKey) (xs : List α) : List (NestedKey × Val) := xs.map fun x => (k x, .bl true)
theorem dS_get (inj : ∀ x y, k x = k y → x = y) {a : α} : ∀ xs : List α, dGet (dS k xs) (k a) = if a ∈ xs then some (.bl true) else none
  | [] => rfl
  | x :: r => by
    have ih := dS_get inj (a := a) r
    unfold dGet dS at *
    by_cases h : x = a
    · subst h; simp
    · have : k x ≠ k a := fun e => h (inj _ _ e)
      simp [this, h, Ne.symm h] at ih ⊢
      exact ih
theorem dS_in (inj : ∀ x y, k x = k y → x = y) {a : α} {xs : List α} : (dGet (dS k xs) (k a)).isSome = decide (a ∈ xs) := by
  rw [dS_get inj]
  by_cases h : a ∈ xs <;> simp [h]
theorem dS_put (inj : ∀ x y, k x = k y → x = y) {a : α} {xs : List α} : dPut (dS k xs) (k a) (.bl true) = dS k (if a ∈ xs then xs else xs ++ [a]) := by
  unfold dPut
  rw [dS_in inj]
  by_cases h : a ∈ xs
  · simp only [h, decide_true, if_true, dS, List.map_map]
    refine List.map_congr_left fun p _ => ?_
    simp
  · simp [h, dS]
theorem dS_del (inj : ∀ x y, k x = k y → x = y) {a : α} {xs : List α} : dDel (dS k xs) (k a) = dS k (xs.filter fun x => decide (x ≠ a)) := by
  unfold dDel dS
  rw [List.filter_map]
  congr 1
  refine List.filter_congr fun p _ => ?_
  by_cases h : p = a
  · simp [h]
  · have : k p ≠ k a := fun e => h (inj _ _ e)
    simp [h, this]
theorem dS_len {xs : List α} : (dS k xs).length = xs.length := by simp [dS]
theorem dS_keys {xs : List α} : (dS k xs).map (fun p => vk p.1) = xs.map fun a => vk (k a) := by simp [dS]
theorem dS_empty {xs : List α} : (dS k xs).isEmpty = xs.isEmpty := by cases xs <;> rfl
end
end TL

set_option Elab.async false
set_option linter.all false
set_option maxRecDepth 100000
/-! LVD: values of a kind, compared. -/
namespace TL
open PySem PySem.Spec PyProof.Rows L2
/-- how things of a kind are values -/
structure Enc (α : Type) [DecidableEq α] where
  v : α → Val
  d : α → PyData
  n : Nat
  pd : ∀ m a, n ≤ m → TL.pd m (v a) = some (d a)
  eqv : ∀ a b, PyData.eqv (d a) (d b) = decide (a = b)
namespace Enc
variable {α β γ : Type} [DecidableEq α] [DecidableEq β] [DecidableEq γ]
theorem pds_map (e : Enc α) {m : Nat} (h : e.n ≤ m) : ∀ xs : List α, TL.pds m (xs.map e.v) = some (xs.map e.d)
  | [] => rfl
  | x :: xs => by simp [TL.pds, e.pd m x h, pds_map e h xs]
theorem eqvAll_map (e : Enc α) : ∀ xs ys : List α, PyData.eqvAll (xs.map e.d) (ys.map e.d) = decide (xs = ys)
  | [], [] => by simp [PyData.eqvAll]
  | [], _ :: _ => by simp [PyData.eqvAll]
  | _ :: _, [] => by simp [PyData.eqvAll]
  | x :: xs, y :: ys => by simp [PyData.eqvAll, e.eqv, eqvAll_map e xs ys]
theorem eq (e : Enc α) (h : e.n ≤ 8) (a b : α) : vEq DEP (e.v a) (e.v b) = some (decide (a = b)) := by
  simp [vEq, DEP, e.pd 8 _ h, e.eqv]
theorem mem (e : Enc α) (h : e.n ≤ 8) (a : α) (xs : List α) : vIn (e.v a) (xs.map e.v) = some (decide (a ∈ xs)) := by
  have : ((xs.map e.d).any fun z => PyData.eqv z (e.d a)) = decide (a ∈ xs) := by
    induction xs with
    | nil => rfl
    | cons x xs ih =>
      simp only [List.map_cons, List.any_cons, ih, e.eqv, List.mem_cons, Bool.decide_or]
      congr 1
      exact decide_eq_decide.mpr eq_comm
  simp only [vIn, DEP, e.pd 8 _ h, e.pds_map h, this]
theorem index (e : Enc α) (h : e.n ≤ 8) (a : α) (xs : List α) : vIndex (e.v a) (xs.map e.v) = xs.findIdx? fun x => decide (x = a) := by
  have : (xs.map e.d).findIdx? (fun z => PyData.eqv z (e.d a)) = xs.findIdx? fun x => decide (x = a) := by
    induction xs with
    | nil => rfl
    | cons x xs ih =>
      simp only [List.map_cons, List.findIdx?_cons, ih, e.eqv]
  simp only [vIndex, DEP, e.pd 8 _ h, e.pds_map h, this]
def int : Enc Int := ⟨.int, .int, 1, fun m a h => by
  obtain ⟨m, rfl⟩ : ∃ k, m = k + 1 := ⟨m - 1, by omega⟩
  rfl, fun a b => by
    simp only [PyData.eqv]
    exact Bool.beq_eq_decide_eq a b⟩
def tupL (e : Enc α) : Enc (List α) := ⟨fun xs => .tup (xs.map e.v), fun xs => .tuple (xs.map e.d), e.n + 1, fun m xs h => by
  obtain ⟨m, rfl⟩ : ∃ k, m = k + 1 := ⟨m - 1, by omega⟩
  simp [TL.pd, e.pds_map (m := m) (by omega)], fun a b => by simp only [PyData.eqv]; exact e.eqvAll_map a b⟩
def lstL (e : Enc α) : Enc (List α) := ⟨fun xs => .lst (xs.map e.v), fun xs => .list (xs.map e.d), e.n + 1, fun m xs h => by
  obtain ⟨m, rfl⟩ : ∃ k, m = k + 1 := ⟨m - 1, by omega⟩
  simp [TL.pd, e.pds_map (m := m) (by omega)], fun a b => by simp only [PyData.eqv]; exact e.eqvAll_map a b⟩
def pair (e : Enc α) (f : Enc β) : Enc (α × β) := ⟨fun p => .tup [e.v p.1, f.v p.2], fun p => .tuple [e.d p.1, f.d p.2], max e.n f.n + 1, fun m xs h => by
  obtain ⟨m, rfl⟩ : ∃ k, m = k + 1 := ⟨m - 1, by omega⟩
  simp [TL.pd, TL.pds, e.pd m xs.1 (by omega), f.pd m xs.2 (by omega)], fun a b => by
    simp only [PyData.eqv, PyData.eqvAll, e.eqv, f.eqv, Bool.and_true]
    rw [← Bool.decide_and]
    exact decide_eq_decide.mpr Prod.ext_iff.symm⟩
def trip (e : Enc α) (f : Enc β) (g : Enc γ) : Enc (α × β × γ) := ⟨fun p => .tup [e.v p.1, f.v p.2.1, g.v p.2.2], fun p => .tuple [e.d p.1, f.d p.2.1, g.d p.2.2], max e.n (max f.n g.n) + 1, fun m xs h => by
  obtain ⟨m, rfl⟩ : ∃ k, m = k + 1 := ⟨m - 1, by omega⟩
  simp [TL.pd, TL.pds, e.pd m xs.1 (by omega), f.pd m xs.2.1 (by omega), g.pd m xs.2.2 (by omega)], fun a b => by
    simp only [PyData.eqv, PyData.eqvAll, e.eqv, f.eqv, g.eqv, Bool.and_true]
    rw [← Bool.decide_and, ← Bool.decide_and]
    exact decide_eq_decide.mpr ⟨fun h => Prod.ext h.1 (Prod.ext h.2.1 h.2.2), fun h => by subst h; exact ⟨rfl, rfl, rfl⟩⟩⟩
/-- a thing that is not None -/
def NN (e : Enc α) : Prop := ∀ a, PyData.eqv .none (e.d a) = false ∧ PyData.eqv (e.d a) .none = false
def optV (e : Enc α) : Option α → Val
  | none => .non
  | some a => e.v a
def optD (e : Enc α) : Option α → PyData
  | none => .none
  | some a => e.d a
def opt (e : Enc α) (nn : e.NN) : Enc (Option α) := ⟨e.optV, e.optD, e.n + 1, fun m o h => by
  obtain ⟨m, rfl⟩ : ∃ k, m = k + 1 := ⟨m - 1, by omega⟩
  cases o with
  | none => rfl
  | some a => exact e.pd _ a (by omega), fun a b => by
    cases a with
    | none => cases b with
      | none => rfl
      | some b => simpa [optD] using (nn b).1
    | some a => cases b with
      | none => simpa [optD] using (nn a).2
      | some b => simp [optD, e.eqv]⟩
theorem nn_int : int.NN := fun _ => ⟨rfl, rfl⟩
theorem nn_tup (e : Enc α) : e.tupL.NN := fun _ => ⟨rfl, rfl⟩
theorem nn_lst (e : Enc α) : e.lstL.NN := fun _ => ⟨rfl, rfl⟩
theorem nn_pair (e : Enc α) (f : Enc β) : (e.pair f).NN := fun _ => ⟨rfl, rfl⟩
theorem nn_trip (e : Enc α) (f : Enc β) (g : Enc γ) : (e.trip f g).NN := fun _ => ⟨rfl, rfl⟩
end Enc
/-! the kinds that stand in the program -/
section
variable {i j : Int} {xs ys : List Int} {rs ss : List (List Int)} {p q : Int × Int} {ps qs : List (Int × Int)}
theorem e_int : vEq DEP (.int i) (.int j) = some (decide (i = j)) := Enc.int.eq (by decide) i j
theorem e_tup : vEq DEP (.tup (xs.map .int)) (.tup (ys.map .int)) = some (decide (xs = ys)) := Enc.int.tupL.eq (by decide) xs ys
theorem e_lst : vEq DEP (.lst (xs.map .int)) (.lst (ys.map .int)) = some (decide (xs = ys)) := Enc.int.lstL.eq (by decide) xs ys
theorem e_pair : vEq DEP (.tup [.int i, .int j]) (.tup [.int p.1, .int p.2]) = some (decide ((i, j) = p)) := (Enc.int.pair Enc.int).eq (by decide) (i, j) p
theorem e_rows : vEq DEP (.lst (rs.map tupI)) (.lst (ss.map tupI)) = some (decide (rs = ss)) := Enc.int.tupL.lstL.eq (by decide) rs ss
theorem e_tab : vEq DEP (.tup (rs.map tupI)) (.tup (ss.map tupI)) = some (decide (rs = ss)) := Enc.int.tupL.tupL.eq (by decide) rs ss
theorem n_int : vIn (.int i) (xs.map .int) = some (decide (i ∈ xs)) := Enc.int.mem (by decide) i xs
theorem n_tup : vIn (.tup (xs.map .int)) (rs.map tupI) = some (decide (xs ∈ rs)) := (Enc.int.tupL.mem (by decide) xs rs).trans (congrArg some (decide_eq_decide.mpr Iff.rfl))
theorem e_nn : vEq DEP (.lst []) (.lst []) = some true := rfl
theorem e_tt : vEq DEP (.tup []) (.tup []) = some true := rfl
theorem e_cn : vEq DEP (.lst (.int i :: xs.map .int)) (.lst []) = some false := by
  have := e_lst (xs := i :: xs) (ys := [])
  simpa using this
theorem e_ct : vEq DEP (.lst (tupI xs :: rs.map tupI)) (.lst []) = some false := by
  have := e_rows (rs := xs :: rs) (ss := [])
  simpa using this
theorem e_nil_l : vEq DEP (.lst (xs.map .int)) (.lst []) = some (decide (xs = [])) := e_lst (ys := [])
theorem e_nil_t : vEq DEP (.tup (xs.map .int)) (.tup []) = some (decide (xs = [])) := e_tup (ys := [])
end
/-! < -/
def ltL : List Int → List Int → Bool
  | [], [] => false
  | [], _ :: _ => true
  | _ :: _, [] => false
  | x :: xs, y :: ys => if x = y then ltL xs ys else decide (x < y)
theorem l_int {i j : Int} : vLt DEP (.int i) (.int j) = some (decide (i < j)) := rfl
theorem lts_int {n : Nat} : ∀ xs ys : List Int, vLts (n + 1) (xs.map .int) (ys.map .int) = some (ltL xs ys)
  | [], [] => rfl
  | [], _ :: _ => rfl
  | _ :: _, [] => rfl
  | x :: xs, y :: ys => by
    have h : vEq (n + 1) (.int x) (.int y) = some (decide (x = y)) := by
      simp only [vEq, Enc.int.pd (n + 1) x (by simp [Enc.int]), Enc.int.pd (n + 1) y (by simp [Enc.int]), ← Enc.int.eqv]
      rfl
    simp only [List.map_cons, vLts, h, lts_int xs ys, ltL]
    by_cases e : x = y
    · simp [e]
    · simp [e, vLt]
theorem l_tup {xs ys : List Int} : vLt DEP (.tup (xs.map .int)) (.tup (ys.map .int)) = some (ltL xs ys) := by
  show vLts 7 _ _ = _
  exact lts_int xs ys
end TL

set_option Elab.async false
set_option linter.all false
set_option maxRecDepth 100000
/-! LVE: values of a kind, in order: min, sorted. -/
namespace TL
open PySem PySem.Spec PyProof.Rows L2
/-- the first of the least -/
def pickL {α : Type} (lt : α → α → Bool) (x : α) (xs : List α) : α := xs.foldl (fun a y => if lt y a then y else a) x
structure EncO (α : Type) [DecidableEq α] where
  e : Enc α
  lt : α → α → Bool
  al : ∀ a b, PySem.W.alike (e.d a) (e.d b) = true
  nn : ∀ a, e.d a ≠ .none
  ltd : ∀ a b, PySem.W.dataLt (e.d a) (e.d b) = lt a b
/-- < of rows -/
def lexL {α : Type} [DecidableEq α] (lt : α → α → Bool) : List α → List α → Bool
  | [], [] => false
  | [], _ :: _ => true
  | _ :: _, [] => false
  | x :: xs, y :: ys => if x = y then lexL lt xs ys else lt x y
namespace EncO
variable {α β γ : Type} [DecidableEq α] [DecidableEq β] [DecidableEq γ]
theorem alAll (o : EncO α) : ∀ xs ys : List α, PySem.W.alikeAll (xs.map o.e.d) (ys.map o.e.d) = true
  | [], _ => by rw [List.map_nil, PySem.W.alikeAll]
  | _ :: _, [] => by rw [List.map_nil, List.map_cons, PySem.W.alikeAll]
  | x :: xs, y :: ys => by
    rw [List.map_cons, List.map_cons, PySem.W.alikeAll, o.al x y, alAll o xs ys]
    rfl
theorem lexAll (o : EncO α) : ∀ xs ys : List α, PyProof.Rows.lexLt itemOrd (PySem.W.keyToksAll (xs.map o.e.d)) (PySem.W.keyToksAll (ys.map o.e.d)) = lexL o.lt xs ys
  | [], [] => PyProof.Rows.lex_irrefl _
  | [], y :: ys => by
    rw [List.map_nil, List.map_cons, PySem.W.toks_all_cons]
    simp only [PySem.W.keyToksAll]
    rw [lex_diff (O := itemOrd) (by simp)]
    rfl
  | x :: xs, [] => by
    rw [List.map_nil, List.map_cons, PySem.W.toks_all_cons]
    simp only [PySem.W.keyToksAll]
    rw [lex_diff (O := itemOrd) (by simp)]
    rfl
  | x :: xs, y :: ys => by
    rw [List.map_cons, List.map_cons, lexL]
    by_cases h : x = y
    · rw [if_pos h, PySem.W.dataLt_all_yes (o.al x y) (by rw [o.e.eqv, decide_eq_true_eq]; exact h), lexAll o xs ys]
    · rw [if_neg h, PySem.W.dataLt_all_no (o.al x y) (by rw [o.e.eqv, decide_eq_false_iff_not]; exact h)]
      exact o.ltd x y
def int : EncO Int := ⟨Enc.int, fun a b => decide (a < b), fun a b => by show PySem.W.alike (.int a) (.int b) = true; simp only [PySem.W.alike], fun a => (nofun : PyData.int a ≠ .none), fun a b => PySem.W.dataLt_int a b⟩
theorem tupL_al (o : EncO α) (xs ys : List α) : PySem.W.alike (o.e.tupL.d xs) (o.e.tupL.d ys) = true := by
  show PySem.W.alike (.tuple _) (.tuple _) = true
  simp only [PySem.W.alike]
  exact o.alAll xs ys
theorem tupL_nn (o : EncO α) (xs : List α) : o.e.tupL.d xs ≠ .none := (nofun : PyData.tuple _ ≠ .none)
theorem tupL_ltd (o : EncO α) (xs ys : List α) : PySem.W.dataLt (o.e.tupL.d xs) (o.e.tupL.d ys) = lexL o.lt xs ys := (PySem.W.dataLt_tuple _ _).trans (o.lexAll xs ys)
def tupL (o : EncO α) : EncO (List α) := ⟨o.e.tupL, lexL o.lt, o.tupL_al, o.tupL_nn, o.tupL_ltd⟩
theorem two (o : EncO α) (p : EncO β) (x x' : α) (y y' : β) (r r' : List PyData) : PyProof.Rows.lexLt itemOrd (PySem.W.keyToksAll (o.e.d x :: p.e.d y :: r)) (PySem.W.keyToksAll (o.e.d x' :: p.e.d y' :: r')) =
    if x = x' then (if y = y' then PyProof.Rows.lexLt itemOrd (PySem.W.keyToksAll r) (PySem.W.keyToksAll r') else p.lt y y') else o.lt x x' := by
  by_cases h : x = x'
  · rw [if_pos h, PySem.W.dataLt_all_yes (o.al x x') (by rw [o.e.eqv, decide_eq_true_eq]; exact h)]
    by_cases h2 : y = y'
    · rw [if_pos h2, PySem.W.dataLt_all_yes (p.al y y') (by rw [p.e.eqv, decide_eq_true_eq]; exact h2)]
    · rw [if_neg h2, PySem.W.dataLt_all_no (p.al y y') (by rw [p.e.eqv, decide_eq_false_iff_not]; exact h2)]
      exact p.ltd y y'
  · rw [if_neg h, PySem.W.dataLt_all_no (o.al x x') (by rw [o.e.eqv, decide_eq_false_iff_not]; exact h)]
    exact o.ltd x x'
def ltP (o : EncO α) (p : EncO β) (a b : α × β) : Bool := if a.1 = b.1 then (if a.2 = b.2 then false else p.lt a.2 b.2) else o.lt a.1 b.1
theorem pair_al (o : EncO α) (p : EncO β) (a b : α × β) : PySem.W.alike ((o.e.pair p.e).d a) ((o.e.pair p.e).d b) = true := by
  show PySem.W.alike (.tuple [_, _]) (.tuple [_, _]) = true
  simp only [PySem.W.alike, PySem.W.alikeAll, o.al, p.al, Bool.and_self]
theorem pair_nn (o : EncO α) (p : EncO β) (a : α × β) : (o.e.pair p.e).d a ≠ .none := (nofun : PyData.tuple _ ≠ .none)
theorem pair_ltd (o : EncO α) (p : EncO β) (a b : α × β) : PySem.W.dataLt ((o.e.pair p.e).d a) ((o.e.pair p.e).d b) = ltP o p a b := by
  refine (PySem.W.dataLt_tuple _ _).trans ?_
  rw [two, PyProof.Rows.lex_irrefl]
  rfl
def pair (o : EncO α) (p : EncO β) : EncO (α × β) := ⟨o.e.pair p.e, ltP o p, pair_al o p, pair_nn o p, pair_ltd o p⟩
def ltT (o : EncO α) (p : EncO β) (q : EncO γ) (a b : α × β × γ) : Bool := if a.1 = b.1 then (if a.2.1 = b.2.1 then (if a.2.2 = b.2.2 then false else q.lt a.2.2 b.2.2) else p.lt a.2.1 b.2.1) else o.lt a.1 b.1
theorem trip_al (o : EncO α) (p : EncO β) (q : EncO γ) (a b : α × β × γ) : PySem.W.alike ((o.e.trip p.e q.e).d a) ((o.e.trip p.e q.e).d b) = true := by
  show PySem.W.alike (.tuple [_, _, _]) (.tuple [_, _, _]) = true
  simp only [PySem.W.alike, PySem.W.alikeAll, o.al, p.al, q.al, Bool.and_self]
theorem trip_nn (o : EncO α) (p : EncO β) (q : EncO γ) (a : α × β × γ) : (o.e.trip p.e q.e).d a ≠ .none := (nofun : PyData.tuple _ ≠ .none)
theorem trip_ltd (o : EncO α) (p : EncO β) (q : EncO γ) (a b : α × β × γ) : PySem.W.dataLt ((o.e.trip p.e q.e).d a) ((o.e.trip p.e q.e).d b) = ltT o p q a b := by
  refine (PySem.W.dataLt_tuple _ _).trans ?_
  rw [two]
  by_cases h : a.1 = b.1
  · by_cases h2 : a.2.1 = b.2.1
    · rw [if_pos h, if_pos h2]
      have e : ltT o p q a b = if a.2.2 = b.2.2 then false else q.lt a.2.2 b.2.2 := by simp [ltT, h, h2]
      rw [e]
      by_cases h3 : a.2.2 = b.2.2
      · rw [if_pos h3, PySem.W.dataLt_all_yes (q.al _ _) (by rw [q.e.eqv, decide_eq_true_eq]; exact h3), PyProof.Rows.lex_irrefl]
      · rw [if_neg h3, PySem.W.dataLt_all_no (q.al _ _) (by rw [q.e.eqv, decide_eq_false_iff_not]; exact h3)]
        exact q.ltd _ _
    · simp [ltT, h, h2]
  · simp [ltT, h]
def trip (o : EncO α) (p : EncO β) (q : EncO γ) : EncO (α × β × γ) := ⟨o.e.trip p.e q.e, ltT o p q, trip_al o p q, trip_nn o p q, trip_ltd o p q⟩
theorem okD_map (o : EncO α) (xs : List α) : okD (xs.map o.e.d) = true := by
  simp only [okD, Bool.and_eq_true, List.all_eq_true]
  constructor
  · intro x hx y hy
    obtain ⟨a, _, rfl⟩ := List.mem_map.mp hx
    obtain ⟨b, _, rfl⟩ := List.mem_map.mp hy
    exact o.al a b
  · intro x hx
    obtain ⟨a, _, rfl⟩ := List.mem_map.mp hx
    have := o.nn a
    split
    · rename_i h; exact absurd h this
    · rfl
theorem zipD (o : EncO α) (xs : List α) : (xs.map o.e.v).zip (xs.map o.e.d) = xs.map fun x => (o.e.v x, o.e.d x) := by
  induction xs with
  | nil => rfl
  | cons x xs ih => simp [ih]
theorem min (o : EncO α) (h : o.e.n ≤ 8) (x : α) (xs : List α) : minV (o.e.v x :: xs.map o.e.v) = some (o.e.v (pickL o.lt x xs)) := by
  have e := o.e.pds_map (m := DEP) h (x :: xs)
  simp only [List.map_cons] at e
  have hk := o.okD_map (x :: xs)
  simp only [List.map_cons] at hk
  have hz := o.zipD xs
  have key : ∀ (xs : List α) (x : α), (pickMin (o.e.v x, o.e.d x) (xs.map fun x => (o.e.v x, o.e.d x))).1 = o.e.v (pickL o.lt x xs) := fun xs => by
    induction xs with
    | nil => intro x; rfl
    | cons y xs ih =>
      intro x
      have := ih (if o.lt y x then y else x)
      simp only [List.map_cons, pickMin, pickL, List.foldl_cons] at this ⊢
      rw [← this]
      rw [o.ltd]
      by_cases hc : o.lt y x = true <;> simp [hc]
  simp only [minV, e, Option.bind_some, List.zip_cons_cons, hz, hk, if_true, key]
theorem sort (o : EncO α) (h : o.e.n ≤ 8) (xs : List α) (hs : okS (xs.map o.e.d) = true) (hl : xs.length ≤ sizeLine) : sortV (xs.map o.e.v) = some ((xs.mergeSort fun a b => !o.lt b a).map o.e.v) := by
  have e := o.e.pds_map (m := DEP) h xs
  simp only [sortV, e, Option.bind_some, o.okD_map xs, hs, List.length_map, hl, and_self, if_true, o.zipD xs, sortDv]
  rw [← List.map_mergeSort (r := fun a b => !o.lt b a)]
  · rw [List.map_map]; rfl
  · intro a _ b _
    simp only [PySem.W.dataLe_eq, cond_false, o.ltd]
end EncO
section
variable {xs : List Int} {rs : List (List Int)} {r : List Int}
theorem q_minT {vs : List Val} : prim1 .minT (.lst vs) = vM (minV vs) := by rw [← vM_eq]; rfl
def lM : Option (List Val) → Option (Val × Bool)
  | some us => some (.lst us, true)
  | none => none
theorem lM_s {us : List Val} : lM (some us) = some (.lst us, true) := rfl
theorem q_sortD {vs : List Val} : prim1 .sortD (.lst vs) = lM (sortV vs) := by
  have : prim1 .sortD (.lst vs) = (sortV vs).map fun us => (.lst us, true) := rfl
  rw [this]
  cases sortV vs <;> rfl
theorem lexL_int : ∀ xs ys : List Int, lexL (fun a b => decide (a < b)) xs ys = ltL xs ys
  | [], [] => rfl
  | [], _ :: _ => rfl
  | _ :: _, [] => rfl
  | x :: xs, y :: ys => by simp [lexL, ltL, lexL_int xs ys]
theorem min_rows : minV (tupI r :: rs.map tupI) = some (tupI (pickL ltL r rs)) := by
  have := EncO.int.tupL.min (by decide) r rs
  have e : EncO.int.tupL.lt = ltL := by funext a b; exact lexL_int a b
  rw [e] at this
  exact this
end
theorem pickL_head {α : Type} {lt : α → α → Bool} {x : α} : ∀ {xs : List α}, (∀ y ∈ xs, lt y x = false) → pickL lt x xs = x
  | [], _ => rfl
  | y :: xs, h => by
    have h1 := h y List.mem_cons_self
    have := pickL_head (xs := xs) fun z hz => h z (List.mem_cons_of_mem _ hz)
    simp only [pickL, List.foldl_cons, h1] at this ⊢
    exact this
end TL

set_option Elab.async false
set_option linter.all false
set_option maxRecDepth 100000
/-! LMA: sorted rows of numbers; tables; what is reached. -/
namespace TL
open PySem PySem.Spec PyProof.Rows L2
theorem sz : sizeLine = 16777216 := rfl
theorem fu : FUEL = 1000000 := rfl
theorem isEmpty_conc {α : Type} {xs : List α} {x : α} : (xs ++ [x]).isEmpty = false := by cases xs <;> rfl
abbrev Srt (l : List Int) : Prop := l.Pairwise (· < ·)
theorem srt_ext : ∀ {a b : List Int}, Srt a → Srt b → (∀ x, x ∈ a ↔ x ∈ b) → a = b
  | [], [], _, _, _ => rfl
  | [], y :: b, _, _, h => by have := (h y).mpr List.mem_cons_self; cases this
  | x :: a, [], _, _, h => by have := (h x).mp List.mem_cons_self; cases this
  | x :: a, y :: b, ha, hb, h => by
    rw [Srt, List.pairwise_cons] at ha hb
    have e : x = y := by
      have h1 := (h x).mp List.mem_cons_self
      have h2 := (h y).mpr List.mem_cons_self
      rcases List.mem_cons.mp h1 with h1 | h1
      · exact h1
      · rcases List.mem_cons.mp h2 with h2 | h2
        · exact h2.symm
        · have := hb.1 x h1; have := ha.1 y h2; omega
    subst e
    rw [srt_ext ha.2 hb.2 fun z => ?_]
    constructor
    · intro hz
      rcases List.mem_cons.mp ((h z).mp (List.mem_cons_of_mem _ hz)) with e | e
      · have := ha.1 z hz; omega
      · exact e
    · intro hz
      rcases List.mem_cons.mp ((h z).mpr (List.mem_cons_of_mem _ hz)) with e | e
      · have := hb.1 z hz; omega
      · exact e
theorem srt_len : ∀ {l : List Int} {lo hi : Int}, Srt l → (∀ x ∈ l, lo ≤ x ∧ x < hi) → (l.length : Int) ≤ max 0 (hi - lo)
  | [], _, _, _, _ => by simp; omega
  | x :: l, lo, hi, h, r => by
    rw [Srt, List.pairwise_cons] at h
    have h1 := r x List.mem_cons_self
    have := srt_len (lo := x + 1) (hi := hi) h.2 fun y hy => ⟨h.1 y hy, (r y (List.mem_cons_of_mem _ hy)).2⟩
    simp only [List.length_cons]
    omega
theorem mem_insU {x y : Int} : ∀ {l : List Int}, y ∈ insU x l ↔ y = x ∨ y ∈ l
  | [] => by simp [insU]
  | z :: l => by
    unfold insU
    split
    · simp
    · split
      · rename_i h; subst h; simp
      · simp only [List.mem_cons, mem_insU (l := l)]
        constructor
        · rintro (h | h | h) <;> simp [h]
        · rintro (h | h | h) <;> simp [h]
theorem mem_usort {y : Int} : ∀ {l : List Int}, y ∈ usort l ↔ y ∈ l
  | [] => by simp [usort]
  | x :: l => by simp only [usort, mem_insU, mem_usort (l := l), List.mem_cons]
theorem insU_srt {x : Int} : ∀ {l : List Int}, Srt l → Srt (insU x l)
  | [], _ => by simp [insU]
  | z :: l, h => by
    unfold insU
    rw [Srt, List.pairwise_cons] at h
    split
    · rename_i h1
      refine List.pairwise_cons.mpr ⟨fun y hy => ?_, List.pairwise_cons.mpr h⟩
      rcases List.mem_cons.mp hy with e | e
      · omega
      · have := h.1 y e; omega
    · split
      · exact List.pairwise_cons.mpr h
      · refine List.pairwise_cons.mpr ⟨fun y hy => ?_, insU_srt h.2⟩
        rcases mem_insU.mp hy with e | e
        · omega
        · exact h.1 y e
theorem usort_srt : ∀ l : List Int, Srt (usort l)
  | [] => List.Pairwise.nil
  | x :: l => insU_srt (usort_srt l)
theorem mem_insI {x y : Int} : ∀ {l : List Int}, y ∈ insI x l ↔ y = x ∨ y ∈ l
  | [] => by simp [insI]
  | z :: l => by
    unfold insI
    split
    · simp
    · simp only [List.mem_cons, mem_insI (l := l)]
      constructor
      · rintro (h | h | h) <;> simp [h]
      · rintro (h | h | h) <;> simp [h]
theorem mem_isort {y : Int} : ∀ {l : List Int}, y ∈ isort l ↔ y ∈ l
  | [] => by simp [isort]
  | x :: l => by simp only [isort, mem_insI, mem_isort (l := l), List.mem_cons]
theorem insI_srt {x : Int} : ∀ {l : List Int}, Srt l → x ∉ l → Srt (insI x l)
  | [], _, _ => by simp [insI]
  | z :: l, h, hx => by
    unfold insI
    rw [Srt, List.pairwise_cons] at h
    simp only [List.mem_cons, not_or] at hx
    split
    · rename_i h1
      refine List.pairwise_cons.mpr ⟨fun y hy => ?_, List.pairwise_cons.mpr h⟩
      rcases List.mem_cons.mp hy with e | e
      · omega
      · have := h.1 y e; omega
    · refine List.pairwise_cons.mpr ⟨fun y hy => ?_, insI_srt h.2 hx.2⟩
      rcases mem_insI.mp hy with e | e
      · omega
      · exact h.1 y e
theorem isort_srt : ∀ {l : List Int}, l.Nodup → Srt (isort l)
  | [], _ => List.Pairwise.nil
  | x :: l, h => by
    rw [List.nodup_cons] at h
    exact insI_srt (isort_srt h.2) (by rw [mem_isort]; exact h.1)
theorem isort_eq {l : List Int} (h : l.Nodup) : isort l = usort l := srt_ext (isort_srt h) (usort_srt l) fun x => by rw [mem_isort, mem_usort]
theorem usort_ext {a b : List Int} (h : ∀ x, x ∈ a ↔ x ∈ b) : usort a = usort b := srt_ext (usort_srt a) (usort_srt b) fun x => by rw [mem_usort, mem_usort, h]
theorem usort_of_srt {a : List Int} (h : Srt a) : usort a = a := srt_ext (usort_srt a) h fun x => mem_usort
theorem srt_nodup {a : List Int} (h : Srt a) : a.Nodup := by
  rw [List.Nodup]
  exact h.imp fun h => by omega
theorem rangeI_srt : ∀ (n : Nat) (lo : Int), Srt (rangeI lo n)
  | 0, _ => List.Pairwise.nil
  | n + 1, lo => List.pairwise_cons.mpr ⟨fun y hy => by have := mem_rangeI.mp hy; omega, rangeI_srt n _⟩
/-! rows without doublings, of things below a number -/
theorem nodup_len {l : List Int} {n : Nat} (h : l.Nodup) (r : ∀ x ∈ l, 0 ≤ x ∧ x < n) : l.length ≤ n := by
  have h1 : (isort l).length = l.length := by
    clear h r
    induction l with
    | nil => rfl
    | cons x l ih =>
      have : ∀ l : List Int, (insI x l).length = l.length + 1 := fun l => by
        induction l with
        | nil => rfl
        | cons z l ih => unfold insI; split <;> simp [ih]
      simp [isort, this, ih]
  have h2 := srt_len (isort_srt h) (lo := 0) (hi := n) fun x hx => r x (mem_isort.mp hx)
  omega
/-! tables -/
structure TOk (t : List (List Int)) (m : Nat) : Prop where
  n1 : 1 ≤ t.length
  n6 : t.length ≤ 6
  m1 : 1 ≤ m
  m4 : m ≤ 4
  row : ∀ r ∈ t, r.length = m
  ent : ∀ r ∈ t, ∀ x ∈ r, 0 ≤ x ∧ x < t.length
def go (t : List (List Int)) (s a : Int) : Int := (t.getD s.toNat []).getD a.toNat 0
/-- a stand; a letter -/
abbrev IsS (t : List (List Int)) (s : Int) : Prop := 0 ≤ s ∧ s < t.length
abbrev IsL (m : Nat) (a : Int) : Prop := 0 ≤ a ∧ a < m
section
variable {t : List (List Int)} {m : Nat} {s a : Int}
theorem TOk.mem_row (h : TOk t m) (hs : IsS t s) : t.getD s.toNat [] ∈ t := by
  have : s.toNat < t.length := by omega
  rw [List.getD_eq_getElem?_getD, List.getElem?_eq_getElem this]
  exact List.getElem_mem this
theorem TOk.len_row (h : TOk t m) (hs : IsS t s) : (t.getD s.toNat []).length = m := h.row _ (h.mem_row hs)
theorem TOk.go (h : TOk t m) (hs : IsS t s) (ha : IsL m a) : IsS t (go t s a) := by
  refine h.ent _ (h.mem_row hs) _ ?_
  have : a.toNat < (t.getD s.toNat []).length := by rw [h.len_row hs]; omega
  unfold TL.go
  rw [List.getD_eq_getElem?_getD (l := t.getD s.toNat []), List.getElem?_eq_getElem this]
  exact List.getElem_mem this
theorem at_row (h1 : 0 ≤ s) (h2 : s < t.length) : atV (t.map tupI) s = some (tupI (t.getD s.toNat [])) := by
  refine at_of h1 ?_
  have : s.toNat < t.length := by omega
  rw [List.getD_eq_getElem?_getD, List.getElem?_eq_getElem this]
  rfl
theorem at_go (h : TOk t m) (h1 : 0 ≤ s) (h2 : s < t.length) (h3 : 0 ≤ a) (h4 : a < m) : atV ((t.getD s.toNat []).map .int) a = some (.int (TL.go t s a)) := by
  rw [at_int h3 (by rw [h.len_row ⟨h1, h2⟩]; exact h4)]
  rfl
theorem TOk.len0 (h : TOk t m) : (t.getD 0 []).length = m := h.len_row (s := 0) ⟨by omega, by have := h.n1; omega⟩
/-- where a letter leads some stands -/
def ledI (t : List (List Int)) (S : List Int) (a : Int) : List Int := usort (S.map fun s => TL.go t s a)
theorem ledI_srt {S : List Int} : Srt (ledI t S a) := usort_srt _
theorem mem_ledI {S : List Int} {x : Int} : x ∈ ledI t S a ↔ ∃ s ∈ S, TL.go t s a = x := by
  unfold ledI
  rw [mem_usort, List.mem_map]
theorem ledI_is (h : TOk t m) {S : List Int} (hS : ∀ s ∈ S, IsS t s) (ha : IsL m a) : ∀ s ∈ ledI t S a, IsS t s := fun s hs => by
  obtain ⟨u, hu, rfl⟩ := mem_ledI.mp hs
  exact h.go (hS u hu) ha
theorem srtS_len {S : List Int} (h : TOk t m) (hs : Srt S) (hS : ∀ s ∈ S, IsS t s) : S.length ≤ 6 := by
  have := srt_len hs hS
  have := h.n6
  omega
/-! what is reached -/
inductive Reach (t : List (List Int)) (ls : List Int) (s : Int) : Int → Prop where
  | here : Reach t ls s s
  | next {x a : Int} : Reach t ls s x → a ∈ ls → Reach t ls s (go t x a)
open Classical in
noncomputable def closI (t : List (List Int)) (ls : List Int) (s : Int) : List Int := (rangeI 0 t.length).filter fun x => decide (Reach t ls s x)
theorem Reach.is (h : TOk t m) {ls : List Int} (hl : ∀ a ∈ ls, IsL m a) (hs : IsS t s) {x : Int} (r : Reach t ls s x) : IsS t x := by
  induction r with
  | here => exact hs
  | next r ha ih => exact h.go ih (hl _ ha)
theorem mem_closI (h : TOk t m) {ls : List Int} (hl : ∀ a ∈ ls, IsL m a) (hs : IsS t s) {x : Int} : x ∈ closI t ls s ↔ Reach t ls s x := by
  unfold closI
  rw [List.mem_filter, mem_rangeI]
  simp only [decide_eq_true_eq]
  constructor
  · exact fun h => h.2
  · intro r
    have := r.is h hl hs
    exact ⟨by omega, r⟩
theorem closI_srt {ls : List Int} : Srt (closI t ls s) := List.Pairwise.filter _ (rangeI_srt _ _)
theorem closI_is {ls : List Int} : ∀ x ∈ closI t ls s, IsS t x := fun x hx => by
  have := mem_rangeI.mp (List.mem_filter.mp hx).1
  exact ⟨by omega, by omega⟩
noncomputable def reachI (t : List (List Int)) (m : Nat) : List Int := closI t (rangeI 0 m) 0
theorem letters_is : ∀ a ∈ rangeI 0 m, IsL m a := fun a ha => by have := mem_rangeI.mp ha; exact ⟨by omega, by omega⟩
theorem reachI_srt : Srt (reachI t m) := closI_srt
theorem reachI_is : ∀ x ∈ reachI t m, IsS t x := closI_is
end
end TL

set_option Elab.async false
set_option linter.all false
set_option maxRecDepth 100000
/-! LMB: lots of stands: how many there are; the search by levels. -/
namespace TL
open PySem PySem.Spec PyProof.Rows L2
theorem nodup_sub_len {α : Type} [DecidableEq α] : ∀ {l M : List α}, l.Nodup → (∀ x ∈ l, x ∈ M) → l.length ≤ M.length
  | [], _, _, _ => Nat.zero_le _
  | x :: l, M, nd, h => by
    rw [List.nodup_cons] at nd
    have hx := h x List.mem_cons_self
    have := nodup_sub_len (l := l) (M := M.erase x) nd.2 fun y hy => by
      rw [List.mem_erase_of_ne (by rintro rfl; exact nd.1 hy)]
      exact h y (List.mem_cons_of_mem _ hy)
    rw [List.length_erase_of_mem hx] at this
    have : 0 < M.length := List.length_pos_of_mem hx
    simp only [List.length_cons]
    omega
def subs : List Int → List (List Int)
  | [] => [[]]
  | x :: xs => subs xs ++ (subs xs).map (x :: ·)
theorem subs_len : ∀ xs : List Int, (subs xs).length = 2 ^ xs.length
  | [] => rfl
  | x :: xs => by simp [subs, subs_len xs, Nat.pow_succ]; omega
theorem mem_subs : ∀ {R S : List Int}, Srt R → Srt S → (∀ s ∈ S, s ∈ R) → S ∈ subs R
  | [], S, _, _, h => by
    cases S with
    | nil => simp [subs]
    | cons s S => have := h s List.mem_cons_self; cases this
  | r :: R, S, hR, hS, h => by
    rw [Srt, List.pairwise_cons] at hR
    cases S with
    | nil => exact List.mem_append_left _ (mem_subs hR.2 List.Pairwise.nil (by simp))
    | cons s S =>
      rw [Srt, List.pairwise_cons] at hS
      have tail : ∀ x ∈ S, x ∈ R := fun x hx => by
        rcases List.mem_cons.mp (h x (List.mem_cons_of_mem _ hx)) with e | e
        · subst e
          have h1 := hS.1 x hx
          rcases List.mem_cons.mp (h s List.mem_cons_self) with e | e
          · omega
          · have := hR.1 s e; omega
        · exact e
      rcases List.mem_cons.mp (h s List.mem_cons_self) with e | e
      · subst e
        exact List.mem_append_right _ (List.mem_map.mpr ⟨S, mem_subs hR.2 hS.2 tail, rfl⟩)
      · exact List.mem_append_left _ (mem_subs hR.2 (List.pairwise_cons.mpr hS) fun x hx => by
          rcases List.mem_cons.mp hx with q | q
          · rw [q]; exact e
          · exact tail x q)
/-- a lot of stands -/
def Lot (t : List (List Int)) (S : List Int) : Prop := Srt S ∧ ∀ s ∈ S, IsS t s
section
variable {t : List (List Int)} {m : Nat}
theorem lots_len (ht : TOk t m) {L : List (List Int)} (nd : L.Nodup) (h : ∀ S ∈ L, Lot t S) : L.length ≤ 64 := by
  have h1 := nodup_sub_len nd (M := subs (rangeI 0 t.length)) fun S hS => mem_subs (rangeI_srt _ _) (h S hS).1 fun s hs => by
    have := (h S hS).2 s hs
    exact mem_rangeI.mpr ⟨this.1, by omega⟩
  rw [subs_len, rangeI_len] at h1
  have : 2 ^ t.length ≤ 2 ^ 6 := Nat.pow_le_pow_right (by omega) ht.n6
  omega
theorem Lot.led (ht : TOk t m) {S : List Int} (h : Lot t S) {a : Int} (ha : IsL m a) : Lot t (ledI t S a) := ⟨ledI_srt, ledI_is ht h.2 ha⟩
theorem Lot.len (ht : TOk t m) {S : List Int} (h : Lot t S) : S.length ≤ 6 := srtS_len ht h.1 h.2
theorem reach_lot : Lot t (reachI t m) := ⟨reachI_srt, reachI_is⟩
end
/-! the search by levels -/
abbrev Lv := List (List Int × List Int)
def put1 (t : List (List Int)) (S row : List Int) (st : List (List Int) × Lv) (a : Int) : List (List Int) × Lv :=
  if ledI t S a ∈ st.1 then st else (st.1 ++ [ledI t S a], st.2 ++ [(ledI t S a, row ++ [a])])
def putLv (t : List (List Int)) (ls : List Int) (st : List (List Int) × Lv) (p : List Int × List Int) : List (List Int) × Lv := ls.foldl (put1 t p.1 p.2) st
def stepB (t : List (List Int)) (ls : List Int) (level : Lv) (seen : List (List Int)) : List (List Int) × Lv := level.foldl (putLv t ls) (seen, [])
def single (p : List Int × List Int) : Bool := decide (p.1.length = 1)
def srch (t : List (List Int)) (ls : List Int) : Nat → Lv → List (List Int) → Option (List Int)
  | 0, _, _ => none
  | k + 1, level, seen => match (stepB t ls level seen).2.find? single with
    | some p => some p.2
    | none => if (stepB t ls level seen).2 = [] then none else srch t ls k (stepB t ls level seen).2 (stepB t ls level seen).1
/-- what stands in a search -/
structure BI (t : List (List Int)) (m : Nat) (seen : List (List Int)) (later : Lv) (n : Nat) : Prop where
  nd : seen.Nodup
  lot : ∀ S ∈ seen, Lot t S
  ne : ∀ S ∈ seen, 1 ≤ S.length
  sub : ∀ p ∈ later, p.1 ∈ seen
  len : ∀ p ∈ later, p.2.length = n
section
variable {t : List (List Int)} {m : Nat} {ls : List Int}
theorem led_ne {S : List Int} {a : Int} (h : 1 ≤ S.length) : 1 ≤ (ledI t S a).length := by
  cases S with
  | nil => cases h
  | cons s S =>
    have : go t s a ∈ ledI t (s :: S) a := mem_ledI.mpr ⟨s, List.mem_cons_self, rfl⟩
    exact List.length_pos_of_mem this
theorem BI.put1 (ht : TOk t m) {seen : List (List Int)} {later : Lv} {n : Nat} (h : BI t m seen later n) {S row : List Int} (hS : Lot t S) (hn : 1 ≤ S.length) (hr : row.length + 1 = n) {a : Int} (ha : IsL m a) : BI t m (TL.put1 t S row (seen, later) a).1 (TL.put1 t S row (seen, later) a).2 n := by
  unfold TL.put1
  split
  · exact h
  · rename_i hm
    refine ⟨?_, fun X hX => ?_, fun X hX => ?_, fun p hp => ?_, fun p hp => ?_⟩
    · rw [List.nodup_append]
      exact ⟨h.nd, by simp, fun x hx y hy => by simp at hy; rintro rfl; rw [hy] at hx; exact hm hx⟩
    · rcases List.mem_append.mp hX with hX | hX
      · exact h.lot X hX
      · simp at hX; rw [hX]; exact hS.led ht ha
    · rcases List.mem_append.mp hX with hX | hX
      · exact h.ne X hX
      · simp at hX; rw [hX]; exact led_ne hn
    · rcases List.mem_append.mp hp with hp | hp
      · exact List.mem_append_left _ (h.sub p hp)
      · simp at hp; rw [hp]; simp
    · rcases List.mem_append.mp hp with hp | hp
      · exact h.len p hp
      · simp at hp; rw [hp]; simp; exact hr
/-- later ones only grow -/
theorem put1_grow {S row : List Int} {st : List (List Int) × Lv} {a : Int} : ∃ z, (TL.put1 t S row st a).2 = st.2 ++ z := by
  unfold TL.put1
  split
  · exact ⟨[], by simp⟩
  · exact ⟨_, rfl⟩
theorem putLv_grow {p : List Int × List Int} : ∀ {ls : List Int} {st : List (List Int) × Lv}, ∃ z, (ls.foldl (TL.put1 t p.1 p.2) st).2 = st.2 ++ z
  | [], st => ⟨[], by simp⟩
  | a :: ls, st => by
    obtain ⟨z, hz⟩ := put1_grow (t := t) (S := p.1) (row := p.2) (st := st) (a := a)
    obtain ⟨z2, hz2⟩ := putLv_grow (p := p) (ls := ls) (st := TL.put1 t p.1 p.2 st a)
    exact ⟨z ++ z2, by rw [List.foldl_cons, hz2, hz, List.append_assoc]⟩
theorem stepB_grow : ∀ {level : Lv} {st : List (List Int) × Lv}, ∃ z, (level.foldl (putLv t ls) st).2 = st.2 ++ z
  | [], st => ⟨[], by simp⟩
  | p :: level, st => by
    obtain ⟨z, hz⟩ := putLv_grow (t := t) (p := p) (ls := ls) (st := st)
    obtain ⟨z2, hz2⟩ := stepB_grow (level := level) (st := putLv t ls st p)
    refine ⟨z ++ z2, ?_⟩
    rw [List.foldl_cons, hz2]
    unfold putLv at *
    rw [hz, List.append_assoc]
theorem find_grow {st st2 : List (List Int) × Lv} (h : ∃ z, st2.2 = st.2 ++ z) {p : List Int × List Int} (hp : st.2.find? single = some p) : st2.2.find? single = some p := by
  obtain ⟨z, hz⟩ := h
  rw [hz, List.find?_append, hp]
  rfl
end
end TL

set_option Elab.async false
set_option linter.all false
set_option maxRecDepth 100000
/-! LMC: rows counted by lots. -/
namespace TL
open PySem PySem.Spec PyProof.Rows L2
abbrev Cnt := List (List Int × Int)
def cnt1 (t : List (List Int)) (S : List Int) (c : Int) (acc : Cnt) (a : Int) : Cnt := aPut acc (ledI t S a) ((aGet acc (ledI t S a)).getD 0 + c)
def cntP (t : List (List Int)) (ls : List Int) (acc : Cnt) (p : List Int × Int) : Cnt := ls.foldl (cnt1 t p.1 p.2) acc
def cntS (t : List (List Int)) (ls : List Int) (kvs : Cnt) : Cnt := kvs.foldl (cntP t ls) []
def cntIt (t : List (List Int)) (ls : List Int) : Nat → Cnt → Cnt
  | 0, kvs => kvs
  | k + 1, kvs => cntS t ls (cntIt t ls k kvs)
def runL (t : List (List Int)) (S row : List Int) : List Int := row.foldl (ledI t) S
def rowsK (m : Nat) : Nat → List (List Int)
  | 0 => [[]]
  | k + 1 => (rowsK m k).flatMap fun r => (rangeI 0 m).map fun a => r ++ [a]
def telI (t : List (List Int)) (m : Nat) (R : List Int) (k : Nat) : Int := (((cntIt t (rangeI 0 m) k [(R, 1)]).filter fun p => decide (p.1.length = 1)).map (·.2)).sum
/-- the weight of a lot of counts -/
def wsum (f : List Int → Int) (kvs : Cnt) : Int := (kvs.map fun p => p.2 * f p.1).sum
structure CI (t : List (List Int)) (kvs : Cnt) : Prop where
  nd : (kvs.map (·.1)).Nodup
  lot : ∀ p ∈ kvs, Lot t p.1
section
variable {t : List (List Int)} {m : Nat} {f : List Int → Int}
theorem aGet_mem {α β : Type} [DecidableEq α] {kvs : List (α × β)} {a : α} {b : β} (h : aGet kvs a = some b) : (a, b) ∈ kvs := by
  unfold aGet at h
  cases e : kvs.find? fun p => decide (p.1 = a) with
  | none => rw [e] at h; cases h
  | some p =>
    rw [e] at h
    have h1 := List.mem_of_find?_eq_some e
    have h2 := List.find?_some e
    simp at h2 h
    rw [← h2, ← h]
    exact h1
theorem aGet_of {α β : Type} [DecidableEq α] : ∀ {kvs : List (α × β)} {a : α} {b : β}, (kvs.map (·.1)).Nodup → (a, b) ∈ kvs → aGet kvs a = some b
  | (x, y) :: r, a, b, nd, h => by
    rw [aGet_cons]
    simp only [List.map_cons, List.nodup_cons] at nd
    rcases List.mem_cons.mp h with e | e
    · cases e; simp
    · have : x ≠ a := by
        rintro rfl
        exact nd.1 (List.mem_map_of_mem e)
      rw [if_neg this]
      exact aGet_of nd.2 e
theorem sum_map_one {kvs : Cnt} {X : List Int} {c v : Int} (nd : (kvs.map (·.1)).Nodup) (h : aGet kvs X = some v) : wsum f (kvs.map fun p => if p.1 = X then (p.1, c) else p) = wsum f kvs + (c - v) * f X := by
  induction kvs with
  | nil => simp [aGet_nil] at h
  | cons p r ih =>
    obtain ⟨x, y⟩ := p
    rw [aGet_cons] at h
    simp only [List.map_cons, List.nodup_cons] at nd
    by_cases e : x = X
    · subst e
      simp only [if_true, Option.some.injEq] at h
      subst h
      have hr : (r.map fun p => if p.1 = x then (p.1, c) else p) = r := by
        conv => rhs; rw [← List.map_id r]
        refine List.map_congr_left fun p hp => ?_
        have : p.1 ≠ x := by rintro rfl; exact nd.1 (List.mem_map_of_mem hp)
        simp [this]
      simp only [wsum, List.map_cons, if_true, hr, List.sum_cons]
      rw [Int.sub_mul]
      omega
    · rw [if_neg e] at h
      have := ih nd.2 h
      simp only [wsum, List.map_cons, if_neg e, List.sum_cons] at this ⊢
      rw [this]
      omega
theorem wsum_put {kvs : Cnt} {X : List Int} {c : Int} (nd : (kvs.map (·.1)).Nodup) : wsum f (aPut kvs X ((aGet kvs X).getD 0 + c)) = wsum f kvs + c * f X := by
  unfold aPut
  cases e : aGet kvs X with
  | none =>
    simp only [Option.isSome_none, Bool.false_eq_true, if_false, Option.getD_none, wsum, List.map_append, List.map_cons, List.map_nil, List.sum_append, List.sum_cons, List.sum_nil]
    rw [Int.zero_add]
    omega
  | some v =>
    simp only [Option.isSome_some, if_true, Option.getD_some]
    rw [sum_map_one nd e]
    have : v + c - v = c := by omega
    rw [this]
theorem CI.put (ht : TOk t m) {kvs : Cnt} (h : CI t kvs) {X : List Int} (hX : Lot t X) {c : Int} : CI t (aPut kvs X c) := by
  constructor
  · rw [aPut_keys]
    split
    · exact h.nd
    · rename_i hn
      rw [List.nodup_append]
      exact ⟨h.nd, by simp, fun x hx y hy => by simp at hy; rintro rfl; rw [hy] at hx; exact hn hx⟩
  · intro p hp
    unfold aPut at hp
    split at hp
    · obtain ⟨q, hq, rfl⟩ := List.mem_map.mp hp
      split
      · exact h.lot q hq
      · exact h.lot q hq
    · rcases List.mem_append.mp hp with hp | hp
      · exact h.lot p hp
      · simp at hp; rw [hp]; exact hX
theorem CI.cnt1 (ht : TOk t m) {kvs : Cnt} (h : CI t kvs) {S : List Int} (hS : Lot t S) {c a : Int} (ha : IsL m a) : CI t (TL.cnt1 t S c kvs a) := h.put ht (hS.led ht ha)
theorem CI.len (ht : TOk t m) {kvs : Cnt} (h : CI t kvs) : kvs.length ≤ 64 := by
  have := lots_len ht h.nd fun S hS => by
    obtain ⟨p, hp, rfl⟩ := List.mem_map.mp hS
    exact h.lot p hp
  simpa using this
theorem cntP_all (ht : TOk t m) {S : List Int} (hS : Lot t S) {c : Int} : ∀ {ls : List Int} {acc : Cnt}, (∀ a ∈ ls, IsL m a) → CI t acc →
    CI t (ls.foldl (TL.cnt1 t S c) acc) ∧ wsum f (ls.foldl (TL.cnt1 t S c) acc) = wsum f acc + c * (ls.map fun a => f (ledI t S a)).sum
  | [], acc, _, h => by simp [h]
  | a :: ls, acc, hl, h => by
    have ha := hl a List.mem_cons_self
    have h1 := h.cnt1 ht hS (c := c) ha
    obtain ⟨i1, i2⟩ := cntP_all ht hS (c := c) (ls := ls) (fun b hb => hl b (List.mem_cons_of_mem _ hb)) h1
    refine ⟨i1, ?_⟩
    rw [List.foldl_cons, i2]
    unfold TL.cnt1
    rw [wsum_put h.nd, List.map_cons, List.sum_cons, Int.mul_add]
    omega
theorem cntS_all (ht : TOk t m) {ls : List Int} (hl : ∀ a ∈ ls, IsL m a) : ∀ {kvs acc : Cnt}, (∀ p ∈ kvs, Lot t p.1) → CI t acc →
    CI t (kvs.foldl (cntP t ls) acc) ∧ wsum f (kvs.foldl (cntP t ls) acc) = wsum f acc + wsum (fun S => (ls.map fun a => f (ledI t S a)).sum) kvs
  | [], acc, _, h => by simp [h, wsum]
  | p :: kvs, acc, hk, h => by
    obtain ⟨j1, j2⟩ := cntP_all (f := f) ht (hk p List.mem_cons_self) (c := p.2) hl h
    obtain ⟨i1, i2⟩ := cntS_all ht hl (kvs := kvs) (acc := cntP t ls acc p) (fun q hq => hk q (List.mem_cons_of_mem _ hq)) j1
    refine ⟨i1, ?_⟩
    have e : cntP t ls acc p = ls.foldl (TL.cnt1 t p.1 p.2) acc := rfl
    rw [List.foldl_cons, i2, e, j2]
    simp only [wsum, List.map_cons, List.sum_cons]
    omega
theorem CI.one {R : List Int} (h : Lot t R) : CI t [(R, 1)] := ⟨by simp, by simpa using h⟩
theorem CI.it (ht : TOk t m) {ls : List Int} (hl : ∀ a ∈ ls, IsL m a) {kvs : Cnt} (h : CI t kvs) : ∀ k, CI t (cntIt t ls k kvs)
  | 0 => h
  | k + 1 => (cntS_all (f := fun _ => 0) ht hl (fun p hp => (CI.it ht hl h k).lot p hp) ⟨by simp, by simp⟩).1
theorem wsum_it (ht : TOk t m) {R : List Int} (hR : Lot t R) : ∀ (k : Nat) (f : List Int → Int), wsum f (cntIt t (rangeI 0 m) k [(R, 1)]) = ((rowsK m k).map fun r => f (runL t R r)).sum
  | 0, f => by simp [wsum, cntIt, rowsK, runL]
  | k + 1, f => by
    have h := CI.it ht letters_is (CI.one hR) k
    have := (cntS_all (f := f) ht letters_is (kvs := cntIt t (rangeI 0 m) k [(R, 1)]) (acc := []) (fun p hp => h.lot p hp) ⟨by simp, by simp⟩).2
    unfold cntIt cntS
    rw [this, wsum_it ht hR k]
    simp only [wsum, List.map_nil, List.sum_nil, Int.zero_add, rowsK]
    induction rowsK m k with
    | nil => rfl
    | cons r rs ih =>
      simp only [List.map_cons, List.sum_cons, List.flatMap_cons, List.map_append, List.sum_append, List.map_map, ih]
      congr 2
      refine List.map_congr_left fun a _ => ?_
      simp [runL]
theorem sum_filter {α : Type} (q : α → Bool) (g : α → Int) : ∀ l : List α, ((l.filter q).map g).sum = (l.map fun x => if q x then g x else 0).sum
  | [] => rfl
  | x :: l => by
    have ih := sum_filter q g l
    simp only [List.filter_cons, List.map_cons, List.sum_cons]
    split
    · simp [ih]
    · simp [ih]
theorem len_filter {α : Type} (q : α → Bool) (l : List α) : ((l.filter q).length : Int) = (l.map fun x => if q x then (1 : Int) else 0).sum := by
  have := sum_filter q (fun _ => (1 : Int)) l
  rw [← this]
  induction l.filter q with
  | nil => rfl
  | cons x r ih => simp only [List.length_cons, List.map_cons, List.sum_cons]; omega
/-- the rows that make sure, counted -/
theorem telI_rows (ht : TOk t m) {R : List Int} (hR : Lot t R) (k : Nat) : telI t m R k = ((rowsK m k).filter fun r => decide ((runL t R r).length = 1)).length := by
  have := wsum_it ht hR k fun S => if S.length = 1 then 1 else 0
  unfold telI
  rw [sum_filter, len_filter]
  have e1 : wsum (fun S => if S.length = 1 then 1 else 0) (cntIt t (rangeI 0 m) k [(R, 1)]) = ((cntIt t (rangeI 0 m) k [(R, 1)]).map fun x => if decide (x.1.length = 1) = true then x.2 else 0).sum := by
    unfold wsum
    congr 1
    refine List.map_congr_left fun p _ => ?_
    by_cases h : p.1.length = 1 <;> simp [h]
  rw [← e1, this]
  congr 1
  refine List.map_congr_left fun p _ => ?_
  by_cases h : (runL t R p).length = 1 <;> simp [h]
end
end TL

set_option Elab.async false
set_option linter.all false
set_option maxRecDepth 100000
/-! LMD: the search by levels, further. -/
namespace TL
open PySem PySem.Spec PyProof.Rows L2
/-- a turn of the search, begun with some lots seen -/
structure BS (t : List (List Int)) (m : Nat) (seen : List (List Int)) (n : Nat) (st : List (List Int) × Lv) : Prop where
  app : st.1 = seen ++ st.2.map (·.1)
  bi : BI t m st.1 st.2 n
section
variable {t : List (List Int)} {m n : Nat} {ls : List Int} {seen : List (List Int)} {st : List (List Int) × Lv} {S row : List Int} {a : Int}
theorem BS.put (ht : TOk t m) (h : BS t m seen n st) (hS : Lot t S) (hn : 1 ≤ S.length) (hr : row.length + 1 = n) (ha : IsL m a) : BS t m seen n (put1 t S row st a) := by
  refine ⟨?_, h.bi.put1 ht hS hn hr ha⟩
  unfold put1
  split
  · exact h.app
  · simp only [List.map_append, List.map_cons, List.map_nil]
    rw [h.app, List.append_assoc]
theorem BS.start {level : Lv} {k : Nat} (h : BI t m seen level k) : BS t m seen n (seen, []) := ⟨by simp, h.nd, h.lot, h.ne, by simp, by simp⟩
theorem BS.len (ht : TOk t m) (h : BS t m seen n st) : st.1.length ≤ 64 := lots_len ht h.bi.nd h.bi.lot
theorem BS.len2 (ht : TOk t m) (h : BS t m seen n st) : st.2.length ≤ 64 := by
  have := h.len ht
  rw [h.app, List.length_append, List.length_map] at this
  omega
theorem put1_in (h : ledI t S a ∈ st.1) : put1 t S row st a = st := if_pos h
theorem put1_new (h : ledI t S a ∉ st.1) : put1 t S row st a = (st.1 ++ [ledI t S a], st.2 ++ [(ledI t S a, row ++ [a])]) := if_neg h
/-- ascending rows of one length -/
theorem ltL_snoc_same : ∀ (r : List Int) {a b : Int}, a < b → ltL (r ++ [a]) (r ++ [b]) = true
  | [], a, b, h => by
    have : a ≠ b := by omega
    simp [ltL, this, h]
  | x :: r, a, b, h => by simp only [List.cons_append, ltL, if_true]; exact ltL_snoc_same r h
theorem ltL_snoc : ∀ {r q : List Int} {a b : Int}, r.length = q.length → ltL r q = true → ltL (r ++ [a]) (q ++ [b]) = true
  | [], [], _, _, _, h => by simp [ltL] at h
  | [], _ :: _, _, _, l, _ => by cases l
  | _ :: _, [], _, _, l, _ => by cases l
  | x :: r, y :: q, a, b, l, h => by
    simp only [List.cons_append, ltL] at h ⊢
    by_cases e : x = y
    · subst e
      simp only [if_true] at h ⊢
      exact ltL_snoc (by simpa using l) h
    · simp only [e, if_false] at h ⊢
      exact h
theorem ltL_asym : ∀ {r q : List Int}, ltL r q = true → ltL q r = false
  | [], [], h => by simp [ltL] at h
  | [], _ :: _, _ => rfl
  | _ :: _, [], h => by simp [ltL] at h
  | x :: r, y :: q, h => by
    simp only [ltL] at h ⊢
    by_cases e : x = y
    · subst e
      simp only [if_true] at h ⊢
      exact ltL_asym h
    · simp only [e, Ne.symm e, if_false, decide_eq_true_eq, decide_eq_false_iff_not] at h ⊢
      omega
abbrev Asc (L : Lv) : Prop := L.Pairwise fun p q => ltL p.2 q.2 = true
/-- rows of later ones come behind those of a done one with a letter less -/
def Behind (st : List (List Int) × Lv) (row : List Int) (a : Int) : Prop := ∀ p ∈ st.2, ltL p.2 (row ++ [a]) = true
theorem asc_put (h : Asc st.2) (hb : Behind st row a) : Asc (put1 t S row st a).2 := by
  unfold put1
  split
  · exact h
  · refine List.pairwise_append.mpr ⟨h, List.pairwise_singleton _ _, fun p hp q hq => ?_⟩
    simp at hq; rw [hq]
    exact hb p hp
theorem behind_put {b : Int} (hb : Behind st row a) (hab : a < b) (hsame : ∀ p ∈ st.2, p.2.length = row.length + 1) : Behind (put1 t S row st a) row b := fun p hp => by
  have tr : ∀ {x : List Int}, x.length = row.length + 1 → ltL x (row ++ [a]) = true → ltL x (row ++ [b]) = true := fun {x} hx h => by
    have key : ∀ (x row : List Int), x.length = row.length + 1 → ltL x (row ++ [a]) = true → ltL x (row ++ [b]) = true := fun x row => by
      induction row generalizing x with
      | nil =>
        intro hx h
        match x, hx with
        | [y], _ =>
          simp only [List.nil_append, ltL] at h ⊢
          by_cases e : y = a
          · subst e; simp [ltL] at h
          · simp only [e, if_false, decide_eq_true_eq] at h
            have : y ≠ b := by omega
            simp [this]; omega
      | cons z row ih =>
        intro hx h
        match x, hx with
        | y :: x, hx =>
          simp only [List.cons_append, ltL] at h ⊢
          by_cases e : y = z
          · simp only [e, if_true] at h ⊢
            exact ih x (by simpa using hx) h
          · simp only [e, if_false] at h ⊢
            exact h
    exact key x row hx h
  unfold put1 at hp
  split at hp
  · exact tr (hsame p hp) (hb p hp)
  · rcases List.mem_append.mp hp with hp | hp
    · exact tr (hsame p hp) (hb p hp)
    · simp at hp; rw [hp]; exact ltL_snoc_same row hab
end
theorem stepB_split {t : List (List Int)} {ls : List Int} {level d r : Lv} {p : List Int × List Int} {seen : List (List Int)} (e : level = d ++ p :: r) : stepB t ls level seen = r.foldl (putLv t ls) (putLv t ls (d.foldl (putLv t ls) (seen, [])) p) := by
  subst e
  simp [stepB]
theorem putLv_split {t : List (List Int)} {ls d r : List Int} {a : Int} {st : List (List Int) × Lv} {p : List Int × List Int} (e : ls = d ++ a :: r) : putLv t ls st p = r.foldl (put1 t p.1 p.2) (put1 t p.1 p.2 (d.foldl (put1 t p.1 p.2) st) a) := by
  subst e
  simp [putLv]
theorem find_no {L : Lv} (h : ∀ p ∈ L, p.1.length ≠ 1) : L.find? single = none := by
  rw [List.find?_eq_none]
  intro p hp
  simp [single, h p hp]
/-- what the search answers -/
def lsI (t : List (List Int)) (m : Nat) (R : List Int) : Option (List Int) := if R.length = 1 then some [] else srch t (rangeI 0 m) 200 [(R, [])] [R]
theorem zero_reach {t : List (List Int)} {m : Nat} (ht : TOk t m) : (0 : Int) ∈ reachI t m := (mem_closI ht letters_is ⟨by omega, by have := ht.n1; omega⟩).mpr .here
end TL

set_option Elab.async false
set_option linter.all false
set_option maxRecDepth 100000
/-! LME: ways to lots, with prices. -/
namespace TL
open PySem PySem.Spec PyProof.Rows L2
abbrev Way := Int × Int × List Int
def ltW (a b : Way) : Bool := if a.1 = b.1 then (if a.2.1 = b.2.1 then (if a.2.2 = b.2.2 then false else ltL a.2.2 b.2.2) else decide (a.2.1 < b.2.1)) else decide (a.1 < b.1)
theorem ltW_mk {a1 a2 b1 b2 : Int} {a3 b3 : List Int} : ltW (a1, a2, a3) (b1, b2, b3) = if a1 = b1 then (if a2 = b2 then (if a3 = b3 then false else ltL a3 b3) else decide (a2 < b2)) else decide (a1 < b1) := rfl
def leW (a b : Way) : Prop := ltW b a = false
theorem ltL_irr : ∀ r : List Int, ltL r r = false
  | [] => rfl
  | x :: r => by simp [ltL, ltL_irr r]
theorem ltL_tot : ∀ {r q : List Int}, ltL r q = false → ltL q r = false → r = q
  | [], [], _, _ => rfl
  | [], _ :: _, h, _ => by simp [ltL] at h
  | _ :: _, [], _, h => by simp [ltL] at h
  | x :: r, y :: q, h, g => by
    simp only [ltL] at h g
    by_cases e : x = y
    · subst e
      simp only [if_true] at h g
      rw [ltL_tot h g]
    · simp only [e, Ne.symm e, if_false, decide_eq_false_iff_not] at h g
      omega
theorem ltL_tr : ∀ {p q r : List Int}, ltL p q = true → ltL q r = true → ltL p r = true
  | [], [], _, h, _ => by simp [ltL] at h
  | [], _ :: _, [], _, h => by simp [ltL] at h
  | [], _ :: _, _ :: _, _, _ => rfl
  | _ :: _, [], _, h, _ => by simp [ltL] at h
  | _ :: _, _ :: _, [], _, h => by simp [ltL] at h
  | x :: p, y :: q, z :: r, h, g => by
    simp only [ltL] at h g ⊢
    by_cases e : x = y
    · subst e
      simp only [if_true] at h
      by_cases e2 : x = z
      · simp only [e2, if_true] at g ⊢
        exact ltL_tr h g
      · simp only [e2, if_false] at g ⊢
        exact g
    · simp only [e, if_false, decide_eq_true_eq] at h
      by_cases e2 : y = z
      · subst e2
        simp only [e, if_false, decide_eq_true_eq]
        exact h
      · simp only [e2, if_false, decide_eq_true_eq] at g
        have : x ≠ z := by omega
        simp only [this, if_false, decide_eq_true_eq]
        omega
theorem ltW_tr {a b c : Way} (h : ltW a b = true) (g : ltW b c = true) : ltW a c = true := by
  obtain ⟨a1, a2, a3⟩ := a
  obtain ⟨b1, b2, b3⟩ := b
  obtain ⟨c1, c2, c3⟩ := c
  simp only [ltW] at h g ⊢
  by_cases e1 : a1 = b1
  · subst e1
    simp only [if_true] at h
    by_cases e2 : a1 = c1
    · subst e2
      simp only [if_true] at g ⊢
      by_cases e3 : a2 = b2
      · subst e3
        simp only [if_true] at h
        by_cases e4 : a2 = c2
        · subst e4
          simp only [if_true] at g ⊢
          by_cases e5 : a3 = b3
          · simp [e5] at h
          · by_cases e6 : b3 = c3
            · simp [e6] at g
            · simp only [e5, e6, if_false] at h g
              have e7 : a3 ≠ c3 := by
                rintro rfl
                rw [ltL_asym h] at g
                cases g
              simp only [e7, if_false]
              exact ltL_tr h g
        · simp only [e4, if_false] at g ⊢
          exact g
      · simp only [e3, if_false, decide_eq_true_eq] at h
        by_cases e4 : b2 = c2
        · subst e4
          simp only [e3, if_false, decide_eq_true_eq]
          exact h
        · simp only [e4, if_false, decide_eq_true_eq] at g
          have : a2 ≠ c2 := by omega
          simp only [this, if_false, decide_eq_true_eq]
          omega
    · simp only [e2, if_false] at g ⊢
      exact g
  · simp only [e1, if_false, decide_eq_true_eq] at h
    by_cases e2 : b1 = c1
    · subst e2
      simp only [e1, if_false, decide_eq_true_eq]
      exact h
    · simp only [e2, if_false, decide_eq_true_eq] at g
      have : a1 ≠ c1 := by omega
      simp only [this, if_false, decide_eq_true_eq]
      omega
theorem ltW_irr (a : Way) : ltW a a = false := by simp [ltW]
theorem ltW_tot {a b : Way} (h : ltW a b = false) (g : ltW b a = false) : a = b := by
  obtain ⟨a1, a2, a3⟩ := a
  obtain ⟨b1, b2, b3⟩ := b
  simp only [ltW] at h g
  by_cases e1 : a1 = b1
  · subst e1
    simp only [if_true] at h g
    by_cases e2 : a2 = b2
    · subst e2
      simp only [if_true] at h g
      by_cases e3 : a3 = b3
      · rw [e3]
      · simp only [e3, Ne.symm e3, if_false] at h g
        rw [ltL_tot h g]
    · simp only [e2, Ne.symm e2, if_false, decide_eq_false_iff_not] at h g
      omega
  · simp only [e1, Ne.symm e1, if_false, decide_eq_false_iff_not] at h g
    omega
theorem leW_refl (a : Way) : leW a a := ltW_irr a
theorem leW_of {a b : Way} (h : ltW a b = true) : leW a b := by
  unfold leW
  cases e : ltW b a with
  | false => rfl
  | true => have := ltW_tr h e; rw [ltW_irr] at this; cases this
theorem leW_or {a b : Way} (h : leW a b) : a = b ∨ ltW a b = true := by
  cases e : ltW a b with
  | true => exact .inr rfl
  | false => exact .inl (ltW_tot e h)
theorem leW_tr {a b c : Way} (h : leW a b) (g : leW b c) : leW a c := by
  rcases leW_or h with rfl | h
  · exact g
  · rcases leW_or g with rfl | g
    · exact leW_of h
    · exact leW_of (ltW_tr h g)
theorem leW_as {a b : Way} (h : leW a b) (g : leW b a) : a = b := ltW_tot g h
theorem lt_le {a b c : Way} (h : ltW a b = true) (g : leW b c) : ltW a c = true := by
  rcases leW_or g with rfl | g
  · exact h
  · exact ltW_tr h g
theorem le_lt {a b c : Way} (h : leW a b) (g : ltW b c = true) : ltW a c = true := by
  rcases leW_or h with rfl | h
  · exact g
  · exact ltW_tr h g
/-- a letter more -/
def extW (c : Int → Int) (w : Way) (a : Int) : Way := (w.1 + c a, w.2.1 + 1, w.2.2 ++ [a])
theorem ext_lt {c : Int → Int} {w : Way} {a : Int} (h : 1 ≤ c a) : ltW w (extW c w a) = true := by
  have h2 : ¬ (w.1 = (extW c w a).1) := by show ¬ (w.1 = w.1 + c a); omega
  unfold ltW
  rw [if_neg h2]
  exact decide_eq_true (show w.1 < w.1 + c a by omega)
/-- a way's number is that of its letters -/
def WOk (w : Way) : Prop := w.2.1 = w.2.2.length
theorem ext_ok {c : Int → Int} {w : Way} {a : Int} (h : WOk w) : WOk (extW c w a) := by
  simp only [WOk, extW, List.length_append, List.length_cons, List.length_nil] at h ⊢
  omega
theorem ext_mono {c : Int → Int} {w v : Way} {a : Int} (hw : WOk w) (hv : WOk v) (h : leW w v) : leW (extW c w a) (extW c v a) := by
  rcases leW_or h with rfl | h
  · exact leW_refl _
  · refine leW_of ?_
    obtain ⟨w1, w2, w3⟩ := w
    obtain ⟨v1, v2, v3⟩ := v
    change w2 = w3.length at hw
    change v2 = v3.length at hv
    rw [ltW_mk] at h
    show ltW (w1 + c a, w2 + 1, w3 ++ [a]) (v1 + c a, v2 + 1, v3 ++ [a]) = true
    rw [ltW_mk]
    by_cases e1 : w1 = v1
    · have e1' : w1 + c a = v1 + c a := by omega
      rw [if_pos e1] at h
      rw [if_pos e1']
      by_cases e2 : w2 = v2
      · have e2' : w2 + 1 = v2 + 1 := by omega
        rw [if_pos e2] at h
        rw [if_pos e2']
        by_cases e3 : w3 = v3
        · simp [e3] at h
        · rw [if_neg e3] at h
          have e4 : w3 ++ [a] ≠ v3 ++ [a] := fun e => e3 (List.append_cancel_right e)
          rw [if_neg e4]
          exact ltL_snoc (by omega) h
      · have e2' : ¬ (w2 + 1 = v2 + 1) := by omega
        rw [if_neg e2, decide_eq_true_eq] at h
        rw [if_neg e2', decide_eq_true_eq]
        omega
    · have e1' : ¬ (w1 + c a = v1 + c a) := by omega
      rw [if_neg e1, decide_eq_true_eq] at h
      rw [if_neg e1', decide_eq_true_eq]
      omega
/-- ways from R through lots that are not sure -/
inductive OP (t : List (List Int)) (m : Nat) (c : Int → Int) (R : List Int) : List Int → Way → Prop where
  | nil : OP t m c R R (0, 0, [])
  | snoc {S : List Int} {w : Way} {a : Int} : OP t m c R S w → S.length ≠ 1 → IsL m a → OP t m c R (ledI t S a) (extW c w a)
section
variable {t : List (List Int)} {m : Nat} {c : Int → Int} {R : List Int}
theorem OP.ok {S : List Int} {w : Way} (h : OP t m c R S w) : WOk w := by
  induction h with
  | nil => rfl
  | snoc _ _ _ ih => exact ext_ok ih
theorem OP.lot (ht : TOk t m) (hR : Lot t R) {S : List Int} {w : Way} (h : OP t m c R S w) : Lot t S := by
  induction h with
  | nil => exact hR
  | snoc _ _ ha ih => exact ih.led ht ha
/-- the least way to a sure lot, if there is one -/
def IsBest (t : List (List Int)) (m : Nat) (c : Int → Int) (R : List Int) : Option Way → Prop
  | some w => (∃ S, OP t m c R S w ∧ S.length = 1) ∧ ∀ S v, OP t m c R S v → S.length = 1 → leW w v
  | none => ∀ S v, OP t m c R S v → S.length ≠ 1
theorem IsBest.uniq {a b : Option Way} (h : IsBest t m c R a) (g : IsBest t m c R b) : a = b := by
  cases a with
  | none => cases b with
    | none => rfl
    | some w => obtain ⟨⟨S, h1, h2⟩, _⟩ := g; exact absurd h2 (h S w h1)
  | some v => cases b with
    | none => obtain ⟨⟨S, h1, h2⟩, _⟩ := h; exact absurd h2 (g S v h1)
    | some w =>
      obtain ⟨⟨S, h1, h2⟩, h3⟩ := h
      obtain ⟨⟨X, g1, g2⟩, g3⟩ := g
      rw [leW_as (h3 X w g1 g2) (g3 S v h1 h2)]
end
end TL

set_option Elab.async false
set_option linter.all false
set_option maxRecDepth 100000
/-! LMF: long ways are never the least. -/
namespace TL
open PySem PySem.Spec PyProof.Rows L2
def wayOf (c : Int → Int) (r : List Int) : Way := ((r.map c).sum, r.length, r)
structure ORow (t : List (List Int)) (m : Nat) (R r : List Int) : Prop where
  op : ∀ i, i < r.length → (runL t R (r.take i)).length ≠ 1
  il : ∀ a ∈ r, IsL m a
section
variable {t : List (List Int)} {m : Nat} {c : Int → Int} {R : List Int}
theorem run_app {r q : List Int} : runL t R (r ++ q) = runL t (runL t R r) q := by simp [runL]
theorem wayOf_snoc {r : List Int} {a : Int} : wayOf c (r ++ [a]) = extW c (wayOf c r) a := by
  simp only [wayOf, extW, List.map_append, List.sum_append, List.map_cons, List.map_nil, List.sum_cons, List.sum_nil, List.length_append, List.length_cons, List.length_nil]
  refine Prod.ext ?_ (Prod.ext ?_ rfl)
  · show _ + (c a + 0) = _ + c a
    omega
  · show ((r.length + (0 + 1) : Nat) : Int) = (r.length : Int) + 1
    omega
theorem OP.row {S : List Int} {w : Way} (h : OP t m c R S w) : ∃ r, w = wayOf c r ∧ S = runL t R r ∧ ORow t m R r := by
  induction h with
  | nil => exact ⟨[], rfl, rfl, by simp, by simp⟩
  | @snoc S w a _ h1 h2 ih =>
    obtain ⟨r, rfl, rfl, o⟩ := ih
    refine ⟨r ++ [a], wayOf_snoc.symm, by rw [run_app]; rfl, fun i hi => ?_, fun b hb => ?_⟩
    · simp only [List.length_append, List.length_cons, List.length_nil] at hi
      by_cases e : i = r.length
      · subst e
        rw [List.take_left]
        exact h1
      · rw [List.take_append_of_le_length (by omega)]
        exact o.op i (by omega)
    · rcases List.mem_append.mp hb with hb | hb
      · exact o.il b hb
      · simp at hb; rw [hb]; exact h2
theorem OP.of : ∀ {n : Nat} {r : List Int}, r.length = n → ORow t m R r → OP t m c R (runL t R r) (wayOf c r)
  | 0, r, e, o => by
    have : r = [] := List.eq_nil_of_length_eq_zero e
    subst this
    exact .nil
  | n + 1, r, e, o => by
    rcases List.eq_nil_or_concat r with rfl | ⟨q, a, rfl⟩
    · cases e
    · rw [List.concat_eq_append] at e o ⊢
      simp only [List.length_append, List.length_cons, List.length_nil] at e
      have oq : ORow t m R q := ⟨fun i hi => by
        have := o.op i (by simp; omega)
        rwa [List.take_append_of_le_length (by omega)] at this, fun b hb => o.il b (by simp [hb])⟩
      have h := OP.of (n := n) (by omega) oq
      rw [wayOf_snoc, run_app]
      refine .snoc h ?_ (o.il a (by simp))
      have := o.op q.length (by simp)
      rwa [List.take_left] at this
theorem sum_pos {r : List Int} (h : ∀ a ∈ r, 1 ≤ c a) : (r.length : Int) ≤ (r.map c).sum := by
  induction r with
  | nil => simp
  | cons a r ih =>
    have h1 := h a List.mem_cons_self
    have h2 := ih fun b hb => h b (List.mem_cons_of_mem _ hb)
    simp only [List.map_cons, List.sum_cons, List.length_cons]
    omega
theorem run_lots (ht : TOk t m) (hR : Lot t R) {row : List Int} (h : ∀ a ∈ row, IsL m a) : Lot t (runL t R row) := by
  induction row generalizing R with
  | nil => exact hR
  | cons a row ih => exact ih (hR.led ht (h a List.mem_cons_self)) fun b hb => h b (List.mem_cons_of_mem _ hb)
/-- a long row is cut -/
theorem cut_row (ht : TOk t m) (hR : Lot t R) (hc : ∀ a, IsL m a → 1 ≤ c a) : ∀ (n : Nat) (r : List Int), r.length = n → ORow t m R r → ∃ q, q.length ≤ 63 ∧ ORow t m R q ∧ runL t R q = runL t R r ∧ leW (wayOf c q) (wayOf c r) := fun n => by
  induction n using Nat.strongRecOn with
  | ind n ih =>
    intro r hr o
    by_cases hn : n ≤ 63
    · exact ⟨r, by omega, o, rfl, leW_refl _⟩
    have nd : ¬ ((List.range (r.length + 1)).map fun i => runL t R (r.take i)).Nodup := fun nd => by
      have := lots_len ht nd fun S hS => by
        obtain ⟨i, _, rfl⟩ := List.mem_map.mp hS
        exact run_lots ht hR fun a ha => o.il a (List.mem_of_mem_take ha)
      simp at this
      omega
    have : ∃ i j, i < j ∧ j ≤ r.length ∧ runL t R (r.take i) = runL t R (r.take j) := by
      apply Classical.byContradiction
      intro hno
      apply nd
      rw [List.Nodup, List.pairwise_iff_getElem]
      intro i j hi hj hij e
      simp only [List.length_map, List.length_range] at hi hj
      simp only [List.getElem_map, List.getElem_range] at e
      exact hno ⟨i, j, hij, by omega, e⟩
    obtain ⟨i, j, hij, hj, e⟩ := this
    have hsplit : r = r.take i ++ ((r.drop i).take (j - i) ++ r.drop j) := by
      have h1 : r.drop j = (r.drop i).drop (j - i) := by rw [List.drop_drop]; congr 1; omega
      rw [h1, List.take_append_drop, List.take_append_drop]
    have hi : (r.take i).length = i := by rw [List.length_take]; omega
    have hq : (r.take i ++ r.drop j).length = i + (r.length - j) := by rw [List.length_append, hi, List.length_drop]
    have hrun : ∀ k, runL t R (r.take i ++ (r.drop j).take k) = runL t R (r.take (j + k)) := fun k => by
      rw [run_app, e, ← run_app, ← List.take_add]
    have oq : ORow t m R (r.take i ++ r.drop j) := by
      refine ⟨fun k hk => ?_, fun a ha => ?_⟩
      · by_cases hki : k ≤ i
        · rw [List.take_append_of_le_length (by omega), List.take_take, Nat.min_eq_left hki]
          exact o.op k (by omega)
        · have e2 : (r.take i ++ r.drop j).take k = r.take i ++ (r.drop j).take (k - i) := by
            rw [List.take_append, hi, List.take_of_length_le (by omega)]
          rw [e2, hrun]
          exact o.op _ (by omega)
      · rcases List.mem_append.mp ha with ha | ha
        · exact o.il a (List.mem_of_mem_take ha)
        · exact o.il a (List.mem_of_mem_drop ha)
    have hrq : runL t R (r.take i ++ r.drop j) = runL t R r := by
      have := hrun (r.length - j)
      have e1 : (r.drop j).take (r.length - j) = r.drop j := List.take_of_length_le (by rw [List.length_drop]; omega)
      have e2 : r.take (j + (r.length - j)) = r := List.take_of_length_le (by omega)
      rw [e1, e2] at this
      exact this
    have hlt : ltW (wayOf c (r.take i ++ r.drop j)) (wayOf c r) = true := by
      have hs : (r.map c).sum = ((r.take i).map c).sum + ((((r.drop i).take (j - i)).map c).sum + ((r.drop j).map c).sum) := by
        conv => lhs; rw [hsplit]
        simp only [List.map_append, List.sum_append]
      have hm := sum_pos (c := c) (r := (r.drop i).take (j - i)) fun a ha => hc a (o.il a (List.mem_of_mem_drop (List.mem_of_mem_take ha)))
      have hml : ((r.drop i).take (j - i)).length = j - i := by rw [List.length_take, List.length_drop]; omega
      have hne : ¬ (((r.take i ++ r.drop j).map c).sum = (r.map c).sum) := by
        rw [List.map_append, List.sum_append, hs]
        omega
      unfold wayOf
      rw [ltW_mk, if_neg hne]
      refine decide_eq_true ?_
      rw [List.map_append, List.sum_append, hs]
      omega
    obtain ⟨q, q1, q2, q3, q4⟩ := ih (i + (r.length - j)) (by omega) _ hq oq
    exact ⟨q, q1, q2, q3.trans hrq, leW_tr q4 (leW_of hlt)⟩
theorem cut (ht : TOk t m) (hR : Lot t R) (hc : ∀ a, IsL m a → 1 ≤ c a) {S : List Int} {w : Way} (h : OP t m c R S w) : ∃ v, OP t m c R S v ∧ v.2.1 ≤ 63 ∧ leW v w := by
  obtain ⟨r, rfl, rfl, o⟩ := h.row
  obtain ⟨q, q1, q2, q3, q4⟩ := cut_row ht hR hc _ r rfl o
  exact ⟨wayOf c q, q3 ▸ OP.of rfl q2, by show (q.length : Int) ≤ 63; omega, q4⟩
end
end TL

set_option Elab.async false
set_option linter.all false
set_option maxRecDepth 100000
/-! LMP: two searches for the least way: lot by lot from the least one on; again and again over all lots. -/
namespace TL
open PySem PySem.Spec PyProof.Rows L2
abbrev WT := List (List Int × Way)
abbrev ks (l : WT) : List (List Int) := l.map (·.1)
theorem aGet_of_mem {α β : Type} [DecidableEq α] : ∀ {kvs : List (α × β)} {p : α × β}, (kvs.map (·.1)).Nodup → p ∈ kvs → aGet kvs p.1 = some p.2
  | (x, y) :: r, p, nd, h => by
    rw [aGet_cons]
    simp only [List.map_cons, List.nodup_cons] at nd
    rcases List.mem_cons.mp h with rfl | h
    · simp
    · have : x ≠ p.1 := fun e => nd.1 (by rw [e]; exact List.mem_map_of_mem h)
      rw [if_neg this]
      exact aGet_of_mem nd.2 h
theorem aPut_mem {α β : Type} [DecidableEq α] {kvs : List (α × β)} {a : α} {b : β} {p : α × β} (h : p ∈ aPut kvs a b) : p = (a, b) ∨ (p ∈ kvs ∧ p.1 ≠ a) := by
  unfold aPut at h
  split at h
  · obtain ⟨q, hq, rfl⟩ := List.mem_map.mp h
    by_cases e : q.1 = a
    · rw [if_pos e, e]; exact .inl rfl
    · rw [if_neg e]; exact .inr ⟨hq, e⟩
  · rename_i hn
    rcases List.mem_append.mp h with h | h
    · refine .inr ⟨h, fun e => hn ?_⟩
      rw [aGet_some, decide_eq_true_eq, ← e]
      exact List.mem_map_of_mem h
    · simp at h; exact .inl h
theorem aPut_nodup {α β : Type} [DecidableEq α] {kvs : List (α × β)} {a : α} {b : β} (h : (kvs.map (·.1)).Nodup) : ((aPut kvs a b).map (·.1)).Nodup := by
  rw [aPut_keys]
  by_cases c : a ∈ kvs.map (·.1)
  · rw [if_pos c]; exact h
  · rw [if_neg c]
    refine List.nodup_append.mpr ⟨h, by simp, fun x hx y hy e => ?_⟩
    simp at hy
    subst hy
    subst e
    exact c hx
theorem aGet_noneI {α β : Type} [DecidableEq α] {kvs : List (α × β)} {a : α} : aGet kvs a = none ↔ a ∉ kvs.map (·.1) := by
  have := aGet_some (kvs := kvs) (a := a)
  cases e : aGet kvs a with
  | none => rw [e] at this; simp at this; simp [this]
  | some b => rw [e] at this; simp at this; simpa using this
theorem aGet_fstk {α β : Type} [DecidableEq α] {kvs : List (α × β)} {a : α} {b : β} (h : aGet kvs a = some b) : a ∈ kvs.map (·.1) := List.mem_map_of_mem (aGet_mem h)
section
variable {t : List (List Int)} {m : Nat} {c : Int → Int} {R : List Int}
theorem OP.ge0 (hc : ∀ a, IsL m a → 1 ≤ c a) {S : List Int} {v : Way} (h : OP t m c R S v) : leW (0, 0, []) v := by
  induction h with
  | nil => exact leW_refl _
  | snoc _ _ ha ih => exact leW_tr ih (leW_of (ext_lt (hc _ ha)))
/-! ### from the least one on -/
structure DJ (t : List (List Int)) (m : Nat) (c : Int → Int) (R : List Int) (ok : List Int → Int → Prop) (wt dn : WT) : Prop where
  nd : (ks wt ++ ks dn).Nodup
  lot : ∀ S ∈ ks wt ++ ks dn, Lot t S
  op : ∀ p ∈ wt, OP t m c R p.1 p.2
  one : ∀ p ∈ dn, p.1.length ≠ 1
  opd : ∀ p ∈ dn, OP t m c R p.1 p.2
  least : ∀ p ∈ dn, ∀ v, OP t m c R p.1 v → leW p.2 v
  next : ∀ p ∈ dn, ∀ a, IsL m a → ok p.1 a → ledI t p.1 a ∈ ks dn ∨ ∃ x, aGet wt (ledI t p.1 a) = some x ∧ leW x (extW c p.2 a)
  begin : R ∈ ks dn ∨ aGet wt R = some (0, 0, [])
  size : ∀ p ∈ wt, p.2.2.2.length ≤ dn.length
abbrev allOk : List Int → Int → Prop := fun _ _ => True
theorem DJ.start (hR : Lot t R) : DJ t m c R allOk [(R, (0, 0, []))] [] where
  nd := by simp [ks]
  lot := by simpa [ks] using hR
  op := by simpa using OP.nil
  one := by simp
  opd := by simp
  least := by simp
  next := by simp
  begin := .inr (by simp [aGet_cons])
  size := by simp
theorem DJ.few (ht : TOk t m) {ok} {wt dn : WT} (h : DJ t m c R ok wt dn) : wt.length + dn.length ≤ 64 := by
  have := lots_len ht h.nd h.lot
  simpa [ks] using this
theorem DJ.ndw {ok} {wt dn : WT} (h : DJ t m c R ok wt dn) : (ks wt).Nodup := (List.nodup_append.mp h.nd).1
/-- whatever leads on is bounded by what waits -/
theorem DJ.key (hc : ∀ a, IsL m a → 1 ≤ c a) {wt dn : WT} (h : DJ t m c R allOk wt dn) {S : List Int} {v : Way} (o : OP t m c R S v) : S ∈ ks dn ∨ ∃ p ∈ wt, leW p.2 v := by
  induction o with
  | nil =>
    rcases h.begin with b | b
    · exact .inl b
    · exact .inr ⟨_, aGet_mem b, leW_refl _⟩
  | @snoc S w a o h1 ha ih =>
    rcases ih with ih | ⟨p, hp, hl⟩
    · obtain ⟨p, hp, rfl⟩ := List.mem_map.mp ih
      rcases h.next p hp a ha trivial with q | ⟨x, q1, q2⟩
      · exact .inl q
      · exact .inr ⟨_, aGet_mem q1, leW_tr q2 (ext_mono (h.opd p hp).ok o.ok (h.least p hp w o))⟩
    · exact .inr ⟨p, hp, leW_tr hl (leW_of (ext_lt (hc a ha)))⟩
theorem DJ.bestN (hc : ∀ a, IsL m a → 1 ≤ c a) {dn : WT} (h : DJ t m c R allOk [] dn) : IsBest t m c R none := fun S v o => by
  rcases h.key hc o with q | ⟨p, hp, _⟩
  · obtain ⟨p, hp, rfl⟩ := List.mem_map.mp q
    exact h.one p hp
  · cases hp
theorem DJ.bestS (hc : ∀ a, IsL m a → 1 ≤ c a) {wt dn : WT} (h : DJ t m c R allOk wt dn) {p : List Int × Way} (hp : p ∈ wt) (h1 : p.1.length = 1) (hl : ∀ q ∈ wt, leW p.2 q.2) : IsBest t m c R (some p.2) := by
  refine ⟨⟨p.1, h.op p hp, h1⟩, fun S v o hS => ?_⟩
  rcases h.key hc o with q | ⟨q, hq, hl2⟩
  · obtain ⟨r, hr, rfl⟩ := List.mem_map.mp q
    exact absurd hS (h.one r hr)
  · exact leW_tr (hl q hq) hl2
theorem DJ.take (hc : ∀ a, IsL m a → 1 ≤ c a) {wt dn : WT} (h : DJ t m c R allOk wt dn) {p : List Int × Way} (hp : p ∈ wt) (h1 : p.1.length ≠ 1) (hl : ∀ q ∈ wt, leW p.2 q.2) :
    DJ t m c R (fun S _ => S ≠ p.1) (aDel wt p.1) (dn ++ [p]) := by
  have nd := h.nd
  rw [List.nodup_append] at nd
  obtain ⟨n1, n2, n3⟩ := nd
  have hpk : p.1 ∈ ks wt := List.mem_map_of_mem hp
  have hpd : p.1 ∉ ks dn := fun hd => n3 _ hpk _ hd rfl
  have mem : ∀ q, q ∈ aDel wt p.1 ↔ q ∈ wt ∧ q.1 ≠ p.1 := fun q => by simp [aDel]
  have hks : ks (dn ++ [p]) = ks dn ++ [p.1] := by simp [ks]
  have get : ∀ S, S ≠ p.1 → aGet (aDel wt p.1) S = aGet wt S := fun S hS => by
    cases e : aGet wt S with
    | none =>
      rw [aGet_noneI] at e ⊢
      intro hm
      obtain ⟨q, hq, rfl⟩ := List.mem_map.mp hm
      exact e (List.mem_map_of_mem ((mem q).mp hq).1)
    | some x =>
      have := (mem (S, x)).mpr ⟨aGet_mem e, hS⟩
      exact aGet_of_mem (p := (S, x)) (by exact (List.Sublist.map _ List.filter_sublist).nodup n1) this
  refine ⟨?_, fun S hS => ?_, fun q hq => h.op q ((mem q).mp hq).1, fun q hq => ?_, fun q hq => ?_, fun q hq v o => ?_, fun q hq a ha hok => ?_, ?_, fun q hq => ?_⟩
  · rw [hks, List.nodup_append]
    refine ⟨(List.Sublist.map _ List.filter_sublist).nodup n1, ?_, fun x hx y hy e => ?_⟩
    · refine List.nodup_append.mpr ⟨n2, by simp, fun x hx y hy e => ?_⟩
      simp at hy; subst hy; subst e; exact hpd hx
    · obtain ⟨q, hq, rfl⟩ := List.mem_map.mp hx
      obtain ⟨hq1, hq2⟩ := (mem q).mp hq
      rcases List.mem_append.mp hy with hy | hy
      · exact n3 _ (List.mem_map_of_mem hq1) _ hy e
      · simp at hy; subst hy; exact hq2 e
  · rw [hks] at hS
    apply h.lot
    rcases List.mem_append.mp hS with hS | hS
    · obtain ⟨q, hq, rfl⟩ := List.mem_map.mp hS
      exact List.mem_append_left _ (List.mem_map_of_mem ((mem q).mp hq).1)
    · rcases List.mem_append.mp hS with hS | hS
      · exact List.mem_append_right _ hS
      · simp at hS; subst hS; exact List.mem_append_left _ hpk
  · rcases List.mem_append.mp hq with hq | hq
    · exact h.one q hq
    · simp at hq; subst hq; exact h1
  · rcases List.mem_append.mp hq with hq | hq
    · exact h.opd q hq
    · simp at hq; subst hq; exact h.op _ hp
  · rcases List.mem_append.mp hq with hq | hq
    · exact h.least q hq v o
    · simp at hq; subst hq
      rcases h.key hc o with z | ⟨r, hr, hl2⟩
      · exact absurd z hpd
      · exact leW_tr (hl r hr) hl2
  · rcases List.mem_append.mp hq with hq | hq
    · rcases h.next q hq a ha trivial with z | ⟨x, z1, z2⟩
      · exact .inl (by rw [hks]; exact List.mem_append_left _ z)
      · by_cases e : ledI t q.1 a = p.1
        · exact .inl (by rw [hks, e]; simp)
        · exact .inr ⟨x, by rw [get _ e]; exact z1, z2⟩
    · simp at hq; subst hq; exact absurd rfl hok
  · rcases h.begin with z | z
    · exact .inl (by rw [hks]; exact List.mem_append_left _ z)
    · by_cases e : R = p.1
      · exact .inl (by rw [hks, ← e]; simp)
      · exact .inr (by rw [get _ e]; exact z)
  · have := h.size q ((mem q).mp hq).1
    simp only [List.length_append, List.length_cons, List.length_nil]
    omega
/-- one letter more -/
def putW (t : List (List Int)) (c : Int → Int) (dn : List (List Int)) (p : List Int × Way) (wt : WT) (a : Int) : WT :=
  if ledI t p.1 a ∈ dn then wt else match aGet wt (ledI t p.1 a) with
    | some x => if ltW (extW c p.2 a) x = true then aPut wt (ledI t p.1 a) (extW c p.2 a) else wt
    | none => aPut wt (ledI t p.1 a) (extW c p.2 a)
theorem DJ.set (ht : TOk t m) (hc : ∀ a, IsL m a → 1 ≤ c a) {ok} {wt dn : WT} (h : DJ t m c R ok wt dn) {p : List Int × Way} (hp : p ∈ dn) {a : Int} (ha : IsL m a) (hn : ledI t p.1 a ∉ ks dn)
    (hx : ∀ x, aGet wt (ledI t p.1 a) = some x → ltW (extW c p.2 a) x = true) (hs : p.2.2.2.length + 1 ≤ dn.length) : DJ t m c R (fun S b => ok S b ∨ (S = p.1 ∧ b = a)) (aPut wt (ledI t p.1 a) (extW c p.2 a)) dn := by
  have nd := h.nd
  rw [List.nodup_append] at nd
  obtain ⟨n1, n2, n3⟩ := nd
  have o : OP t m c R (ledI t p.1 a) (extW c p.2 a) := .snoc (h.opd p hp) (h.one p hp) ha
  have lp : Lot t p.1 := h.lot _ (List.mem_append_right _ (List.mem_map_of_mem hp))
  have uq : ∀ q ∈ dn, q.1 = p.1 → q = p := fun q hq e => by
    have h1 := aGet_of_mem n2 hq
    have h2 := aGet_of_mem n2 hp
    rw [e] at h1
    rw [h2] at h1
    exact Prod.ext e (Option.some.inj h1).symm
  have key : ∀ q ∈ dn, ∀ b, ok q.1 b → IsL m b → ledI t q.1 b ∈ ks dn ∨ ∃ x, aGet (aPut wt (ledI t p.1 a) (extW c p.2 a)) (ledI t q.1 b) = some x ∧ leW x (extW c q.2 b) := fun q hq b hok hb => by
    rcases h.next q hq b hb hok with z | ⟨x, z1, z2⟩
    · exact .inl z
    · refine .inr ?_
      rw [aGet_put]
      by_cases e : ledI t p.1 a = ledI t q.1 b
      · rw [if_pos e]
        exact ⟨_, rfl, leW_tr (leW_of (hx x (by rw [e]; exact z1))) z2⟩
      · rw [if_neg e]; exact ⟨x, z1, z2⟩
  refine ⟨?_, fun S hS => ?_, fun q hq => ?_, h.one, h.opd, h.least, fun q hq b hb hok => ?_, ?_, fun q hq => ?_⟩
  · rw [List.nodup_append]
    refine ⟨aPut_nodup n1, n2, fun x hx' y hy e => ?_⟩
    rw [ks, aPut_keys] at hx'
    split at hx'
    · exact n3 _ hx' _ hy e
    · rcases List.mem_append.mp hx' with z | z
      · exact n3 _ z _ hy e
      · simp at z; subst z; subst e; exact hn hy
  · rcases List.mem_append.mp hS with hS | hS
    · rw [ks, aPut_keys] at hS
      split at hS
      · exact h.lot _ (List.mem_append_left _ hS)
      · rcases List.mem_append.mp hS with z | z
        · exact h.lot _ (List.mem_append_left _ z)
        · simp at z; subst z; exact lp.led ht ha
    · exact h.lot _ (List.mem_append_right _ hS)
  · rcases aPut_mem hq with rfl | ⟨hq, _⟩
    · exact o
    · exact h.op q hq
  · rcases hok with hok | ⟨e1, e2⟩
    · exact key q hq b hok hb
    · subst e2
      rw [uq q hq e1]
      refine .inr ⟨_, by rw [aGet_put, if_pos rfl], leW_refl _⟩
  · rcases h.begin with z | z
    · exact .inl z
    · by_cases e : ledI t p.1 a = R
      · have h1 := hx _ (by rw [e]; exact z)
        have h2 := (h.opd p hp).ge0 hc
        have h3 : leW (0, 0, []) (extW c p.2 a) := o.ge0 hc
        unfold leW at h3
        rw [h3] at h1; cases h1
      · exact .inr (by rw [aGet_put, if_neg e]; exact z)
  · rcases aPut_mem hq with rfl | ⟨hq, _⟩
    · simp only [extW, List.length_append, List.length_cons, List.length_nil]; omega
    · exact h.size q hq
theorem DJ.weak {ok ok2 : List Int → Int → Prop} {wt dn : WT} (h : DJ t m c R ok wt dn) (w : ∀ p ∈ dn, ∀ a, IsL m a → ok2 p.1 a → ok p.1 a ∨ (ledI t p.1 a ∈ ks dn ∨ ∃ x, aGet wt (ledI t p.1 a) = some x ∧ leW x (extW c p.2 a))) : DJ t m c R ok2 wt dn :=
  { h with next := fun p hp a ha hok => (w p hp a ha hok).elim (h.next p hp a ha) id }
theorem DJ.put (ht : TOk t m) (hc : ∀ a, IsL m a → 1 ≤ c a) {ok} {wt dn : WT} (h : DJ t m c R ok wt dn) {p : List Int × Way} (hp : p ∈ dn) {a : Int} (ha : IsL m a) (hs : p.2.2.2.length + 1 ≤ dn.length) :
    DJ t m c R (fun S b => ok S b ∨ (S = p.1 ∧ b = a)) (putW t c (ks dn) p wt a) dn := by
  have uq : ∀ q ∈ dn, q.1 = p.1 → q = p := fun q hq e => by
    have n2 := (List.nodup_append.mp h.nd).2.1
    have h1 := aGet_of_mem n2 hq
    have h2 := aGet_of_mem n2 hp
    rw [e] at h1
    rw [h2] at h1
    exact Prod.ext e (Option.some.inj h1).symm
  unfold putW
  by_cases hn : ledI t p.1 a ∈ ks dn
  · rw [if_pos hn]
    refine h.weak fun q hq b hb hok => ?_
    rcases hok with hok | ⟨e1, rfl⟩
    · exact .inl hok
    · rw [uq q hq e1]; exact .inr (.inl hn)
  · rw [if_neg hn]
    cases e : aGet wt (ledI t p.1 a) with
    | none => exact h.set ht hc hp ha hn (fun x hx => by rw [e] at hx; cases hx) hs
    | some x =>
      simp only
      by_cases hl : ltW (extW c p.2 a) x = true
      · rw [if_pos hl]
        exact h.set ht hc hp ha hn (fun y hy => by rw [e] at hy; cases hy; exact hl) hs
      · rw [if_neg hl]
        refine h.weak fun q hq b hb hok => ?_
        rcases hok with hok | ⟨e1, rfl⟩
        · exact .inl hok
        · rw [uq q hq e1]
          refine .inr (.inr ⟨x, e, ?_⟩)
          unfold leW
          cases z : ltW (extW c p.2 b) x with
          | true => exact absurd z hl
          | false => rfl
end
/-! ### the least one of a list -/
def ltQ (p q : Way × List Int) : Bool := if p.1 = q.1 then (if p.2 = q.2 then false else ltL p.2 q.2) else ltW p.1 q.1
theorem ltQ_tr {a b d : Way × List Int} (h : ltQ a b = true) (g : ltQ b d = true) : ltQ a d = true := by
  unfold ltQ at h g ⊢
  by_cases e1 : a.1 = b.1
  · rw [if_pos e1] at h
    by_cases e2 : b.1 = d.1
    · rw [if_pos e2] at g
      rw [if_pos (e1.trans e2)]
      by_cases e3 : a.2 = b.2
      · rw [if_pos e3] at h; cases h
      · rw [if_neg e3] at h
        by_cases e4 : b.2 = d.2
        · rw [if_pos e4] at g; cases g
        · rw [if_neg e4] at g
          have e5 : a.2 ≠ d.2 := fun e => by rw [e] at h; rw [ltL_asym h] at g; cases g
          rw [if_neg e5]
          exact ltL_tr h g
    · rw [if_neg e2] at g
      rw [if_neg (by rw [e1]; exact e2), e1]
      exact g
  · rw [if_neg e1] at h
    by_cases e2 : b.1 = d.1
    · rw [← e2, if_neg e1]; exact h
    · rw [if_neg e2] at g
      have e3 : a.1 ≠ d.1 := fun e => by
        rw [e] at h
        have := ltW_tr h g
        rw [ltW_irr] at this; cases this
      rw [if_neg e3]
      exact ltW_tr h g
theorem ltQ_irr (a : Way × List Int) : ltQ a a = false := by simp [ltQ]
theorem pickL_mem {α : Type} {lt : α → α → Bool} : ∀ {xs : List α} {x : α}, pickL lt x xs = x ∨ pickL lt x xs ∈ xs
  | [], _ => .inl rfl
  | y :: xs, x => by
    have ih := pickL_mem (lt := lt) (xs := xs) (x := if lt y x then y else x)
    have e : pickL lt x (y :: xs) = pickL lt (if lt y x then y else x) xs := rfl
    rw [e]
    rcases ih with h | h
    · rw [h]
      by_cases c : lt y x = true
      · rw [if_pos c]; exact .inr List.mem_cons_self
      · rw [if_neg c]; exact .inl rfl
    · exact .inr (List.mem_cons_of_mem _ h)
theorem pickL_le {α : Type} {lt : α → α → Bool} (tr : ∀ a b c, lt a b = true → lt b c = true → lt a c = true) (irr : ∀ a, lt a a = false) : ∀ {xs : List α} {x : α}, ∀ y, y = x ∨ y ∈ xs → lt y (pickL lt x xs) = false
  | [], x, y, h => by
    rcases h with rfl | h
    · exact irr _
    · cases h
  | z :: xs, x, y, h => by
    have e : pickL lt x (z :: xs) = pickL lt (if lt z x then z else x) xs := rfl
    rw [e]
    have ih := pickL_le tr irr (xs := xs) (x := if lt z x then z else x)
    by_cases hc : lt z x = true
    · rw [if_pos hc] at ih ⊢
      have hz := ih z (.inl rfl)
      rcases h with rfl | h
      · cases q : lt y (pickL lt z xs) with
        | false => rfl
        | true => rw [tr _ _ _ hc q] at hz; cases hz
      · rcases List.mem_cons.mp h with rfl | h
        · exact hz
        · exact ih y (.inr h)
    · rw [if_neg hc] at ih ⊢
      have hx := ih x (.inl rfl)
      rcases h with rfl | h
      · exact hx
      · rcases List.mem_cons.mp h with rfl | h
        · -- y = z, not below x
          rcases pickL_mem (lt := lt) (xs := xs) (x := x) with g | g
          · rw [g]; simpa using hc
          · cases q : lt y (pickL lt x xs) with
            | false => rfl
            | true =>
              -- x is not below the pick: then the pick is below x or equal..
              exact absurd q (by
                intro q
                have : lt (pickL lt x xs) x = true ∨ pickL lt x xs = x := pick_or tr xs x
                rcases this with g2 | g2
                · exact hc (tr _ _ _ q g2)
                · rw [g2] at q; exact hc q)
        · exact ih y (.inr h)
where pick_or {α : Type} {lt : α → α → Bool} (tr : ∀ a b c, lt a b = true → lt b c = true → lt a c = true) : ∀ (xs : List α) (x : α), lt (pickL lt x xs) x = true ∨ pickL lt x xs = x
  | [], _ => .inr rfl
  | z :: xs, x => by
    have e : pickL lt x (z :: xs) = pickL lt (if lt z x then z else x) xs := rfl
    rw [e]
    by_cases hc : lt z x = true
    · rw [if_pos hc]
      rcases pick_or tr xs z with h | h
      · exact .inl (tr _ _ _ h hc)
      · rw [h]; exact .inl hc
    · rw [if_neg hc]; exact pick_or tr xs x
/-! ### again and again over all lots -/
section
variable {t : List (List Int)} {m : Nat} {c : Int → Int} {R : List Int}
structure BF (t : List (List Int)) (m : Nat) (c : Int → Int) (R : List Int) (L : Nat) (bs : WT) : Prop where
  nd : (ks bs).Nodup
  lot : ∀ S ∈ ks bs, Lot t S
  op : ∀ p ∈ bs, OP t m c R p.1 p.2
  begin : R ∈ ks bs
  size : ∀ p ∈ bs, p.2.2.2.length ≤ L
theorem BF.start (hR : Lot t R) : BF t m c R 0 [(R, (0, 0, []))] := ⟨by simp, by simpa using hR, by simpa using OP.nil, by simp, by simp⟩
theorem BF.few (ht : TOk t m) {L : Nat} {bs : WT} (h : BF t m c R L bs) : bs.length ≤ 64 := by
  have := lots_len ht h.nd h.lot
  simpa using this
theorem BF.more {L L' : Nat} {bs : WT} (h : BF t m c R L bs) (hl : L ≤ L') : BF t m c R L' bs := { h with size := fun p hp => Nat.le_trans (h.size p hp) hl }
/-- no worse, at each lot -/
def Nw (a b : WT) : Prop := ∀ S x, aGet a S = some x → ∃ y, aGet b S = some y ∧ leW y x
theorem Nw.refl (a : WT) : Nw a a := fun S x h => ⟨x, h, leW_refl x⟩
theorem Nw.trans {a b d : WT} (h : Nw a b) (g : Nw b d) : Nw a d := fun S x e => by
  obtain ⟨y, h1, h2⟩ := h S x e
  obtain ⟨z, g1, g2⟩ := g S y h1
  exact ⟨z, g1, leW_tr g2 h2⟩
def Bet (x : Way) : Option Way → Bool
  | some y => ltW x y
  | none => true
theorem bf_put (ht : TOk t m) {L : Nat} {bs : WT} (h : BF t m c R L bs) {S : List Int} {w : Way} {a : Int} (o : OP t m c R S w) (h1 : S.length ≠ 1) (hS : Lot t S) (ha : IsL m a) (hb : Bet (extW c w a) (aGet bs (ledI t S a)) = true) (hL : w.2.2.length + 1 ≤ L) :
    BF t m c R L (aPut bs (ledI t S a) (extW c w a)) ∧ Nw bs (aPut bs (ledI t S a) (extW c w a)) := by
  refine ⟨⟨aPut_nodup h.nd, fun X hX => ?_, fun p hp => ?_, ?_, fun p hp => ?_⟩, fun X x e => ?_⟩
  · rw [ks, aPut_keys] at hX
    split at hX
    · exact h.lot X hX
    · rcases List.mem_append.mp hX with z | z
      · exact h.lot X z
      · simp at z; subst z; exact hS.led ht ha
  · rcases aPut_mem hp with rfl | ⟨hp, _⟩
    · exact .snoc o h1 ha
    · exact h.op p hp
  · rw [ks, aPut_keys]
    split
    · exact h.begin
    · exact List.mem_append_left _ h.begin
  · rcases aPut_mem hp with rfl | ⟨hp, _⟩
    · simp only [extW, List.length_append, List.length_cons, List.length_nil]; omega
    · exact h.size p hp
  · rw [aGet_put]
    by_cases e2 : ledI t S a = X
    · rw [if_pos e2]
      refine ⟨_, rfl, leW_of ?_⟩
      rw [e2, e] at hb
      exact hb
    · rw [if_neg e2]; exact ⟨x, e, leW_refl x⟩
/-- ways of at most k letters are no better -/
def Upto (t : List (List Int)) (m : Nat) (c : Int → Int) (R : List Int) (k : Nat) (bs : WT) : Prop := ∀ S v, OP t m c R S v → v.2.1 ≤ k → ∃ x, aGet bs S = some x ∧ leW x v
/-- what a turn over all lots did: from b0 to bs, these lots done -/
def Cl (t : List (List Int)) (c : Int → Int) (b0 bs : WT) (S : List Int) (a : Int) : Prop := S.length ≠ 1 → ∀ x, aGet b0 S = some x → ∃ y, aGet bs (ledI t S a) = some y ∧ leW y (extW c x a)
theorem upto_next {b0 bs : WT} {k : Nat} (hu : Upto t m c R k b0) (hn : Nw b0 bs) (hop : ∀ p ∈ b0, OP t m c R p.1 p.2) (hc : ∀ S ∈ ks b0, ∀ a, IsL m a → Cl t c b0 bs S a) : Upto t m c R (k + 1) bs := by
  intro S v o hk
  cases o with
  | nil =>
    obtain ⟨x, h1, h2⟩ := hu R _ .nil (by simp)
    obtain ⟨y, g1, g2⟩ := hn R x h1
    exact ⟨y, g1, leW_tr g2 h2⟩
  | @snoc S w a o h1 ha =>
    have hk' : w.2.1 ≤ k := by
      have : (extW c w a).2.1 = w.2.1 + 1 := rfl
      rw [this] at hk; omega
    obtain ⟨x, g1, g2⟩ := hu S w o hk'
    obtain ⟨y, e1, e2⟩ := hc S (aGet_fstk g1) a ha h1 x g1
    exact ⟨y, e1, leW_tr e2 (ext_mono (hop _ (aGet_mem g1)).ok o.ok g2)⟩
theorem upto_all (ht : TOk t m) (hR : Lot t R) (hc : ∀ a, IsL m a → 1 ≤ c a) {bs : WT} (h : Upto t m c R 63 bs) {S : List Int} {v : Way} (o : OP t m c R S v) : ∃ x, aGet bs S = some x ∧ leW x v := by
  obtain ⟨u, o2, hu, hl⟩ := cut ht hR hc o
  obtain ⟨x, h1, h2⟩ := h S u o2 hu
  exact ⟨x, h1, leW_tr h2 hl⟩
/-- nothing is better any more -/
theorem no_bet (ht : TOk t m) (hR : Lot t R) (hc : ∀ a, IsL m a → 1 ≤ c a) {bs : WT} (h : Upto t m c R 63 bs) {S : List Int} {v : Way} (o : OP t m c R S v) : Bet v (aGet bs S) = false := by
  obtain ⟨x, h1, h2⟩ := upto_all ht hR hc h o
  rw [h1]; exact h2
theorem fix_all {bs : WT} (hb : R ∈ ks bs) (hr : ∀ x, aGet bs R = some x → leW x (0, 0, [])) (hop : ∀ p ∈ bs, OP t m c R p.1 p.2) (hf : ∀ S ∈ ks bs, ∀ a, IsL m a → Cl t c bs bs S a) {S : List Int} {v : Way} (o : OP t m c R S v) : ∃ x, aGet bs S = some x ∧ leW x v := by
  induction o with
  | nil =>
    cases e : aGet bs R with
    | none => exact absurd hb (aGet_noneI.mp e)
    | some x => exact ⟨x, rfl, hr x e⟩
  | @snoc S w a o h1 ha ih =>
    obtain ⟨x, g1, g2⟩ := ih
    obtain ⟨y, e1, e2⟩ := hf S (aGet_fstk g1) a ha h1 x g1
    exact ⟨y, e1, leW_tr e2 (ext_mono (hop _ (aGet_mem g1)).ok o.ok g2)⟩
/-- the least of the ways to sure lots -/
theorem best_of {bs : WT} (nd : (ks bs).Nodup) (hop : ∀ p ∈ bs, OP t m c R p.1 p.2) (hall : ∀ S v, OP t m c R S v → ∃ x, aGet bs S = some x ∧ leW x v) :
    IsBest t m c R (match (bs.filter fun p => decide (p.1.length = 1)).map (·.2) with | [] => none | x :: xs => some (pickL ltW x xs)) := by
  have mem : ∀ x, x ∈ (bs.filter fun p => decide (p.1.length = 1)).map (·.2) ↔ ∃ p ∈ bs, p.1.length = 1 ∧ p.2 = x := fun x => by simp [and_assoc]
  cases e : (bs.filter fun p => decide (p.1.length = 1)).map (·.2) with
  | nil =>
    intro S v o h1
    obtain ⟨x, g1, _⟩ := hall S v o
    have := (mem x).mpr ⟨(S, x), aGet_mem g1, h1, rfl⟩
    rw [e] at this; cases this
  | cons x xs =>
    have hm : pickL ltW x xs ∈ x :: xs := by
      rcases pickL_mem (lt := ltW) (xs := xs) (x := x) with h | h
      · rw [h]; exact List.mem_cons_self
      · exact List.mem_cons_of_mem _ h
    rw [← e] at hm
    obtain ⟨p, hp, h1, h2⟩ := (mem _).mp hm
    refine ⟨⟨p.1, by show OP t m c R p.1 (pickL ltW x xs); rw [← h2]; exact hop p hp, h1⟩, fun S v o hS => ?_⟩
    obtain ⟨y, g1, g2⟩ := hall S v o
    have hy := (mem y).mpr ⟨(S, y), aGet_mem g1, hS, rfl⟩
    rw [e] at hy
    have := pickL_le (lt := ltW) (fun a b c => ltW_tr) ltW_irr (xs := xs) (x := x) y (List.mem_cons.mp hy)
    exact leW_tr this g2
end
end TL

set_option Elab.async false
set_option linter.all false
set_option maxRecDepth 100000
/-! LFA: the trees of the defs that stand in many laws (printed by genast.py). -/
namespace TL.A
open PySem
/-- is_from: 0 value 1 low 2 high -/
def is_from : List S := [.ret (.and (.p1 .isInt (.var 0)) (.and (.not (.p1 .isBool (.var 0))) (.chain false (.var 1) (.var 0) (.var 2))))]
/-- is_stand_row: 0 value 1 stands 2 stand -/
def is_stand_row : List S := [.ite (.or (.not (.val (.p1 .isTuple (.var 0)))) (.not (.chn false (.int 1) (.p1 .len (.var 0)) (.gint "MOST_LETTERS" 4)))) [.ret (.bl false)] [], .for_ (.nm 2) .val [.var 0] [.ite (.not (.val (.call "is_from" [.var 2, .int 0, .p2 .sub (.var 1) (.int 1)]))) [.ret (.bl false)] []], .ret (.bl true)]
/-- check_machine: 0 value -/
def check_machine : List S := [.ite (.not (.val (.isC (.var 0) "Machine"))) [.raise "BadMachine" [] []] []]
/-- check_stand: 0 machine 1 value -/
def check_stand : List S := [.ite (.not (.val (.call "is_from" [.var 1, .int 0, .p2 .sub (.p1 .len (.fld (.var 0) "Machine" "held")) (.int 1)]))) [.raise "BadStand" [] []] []]
/-- is_row: 0 machine 1 value 2 letter -/
def is_row : List S := [.ite (.or (.not (.val (.p1 .isTuple (.var 1)))) (.cmp .gt (.p1 .len (.var 1)) (.gint "MOST_ROW" 40))) [.ret (.bl false)] [], .for_ (.nm 2) .val [.var 1] [.ite (.not (.val (.call "is_from" [.var 2, .int 0, .p2 .sub (.p1 .len (.p2 .idx (.fld (.var 0) "Machine" "held") (.int 0))) (.int 1)]))) [.ret (.bl false)] []], .ret (.bl true)]
/-- gone: 0 machine 1 stand 2 row 3 letter -/
def gone : List S := [.for_ (.nm 3) .val [.var 2] [.set 1 (.p2 .idx (.p2 .idx (.fld (.var 0) "Machine" "held") (.var 1)) (.var 3))], .ret (.var 1)]
/-- stand_of: 0 machine 1 row -/
def stand_of : List S := [.expr (.call "check_machine" [.var 0]), .ite (.not (.val (.call "is_row" [.var 0, .var 1]))) [.raise "BadRow" [] []] [], .ret (.call "gone" [.var 0, .int 0, .var 1])]
/-- stands_from: 0 machine 1 stand 2 letters 3 found 4 waiting 5 here 6 letter 7 new -/
def stands_from : List S := [.set 3 (.d1 false (.var 1) (.bl true)), .set 4 (.lst [.var 1]), .while_ (.val (.var 4)) [.set 5 (.pop (.var 4)), .for_ (.nm 6) .val [.var 2] [.set 7 (.p2 .idx (.p2 .idx (.fld (.var 0) "Machine" "held") (.var 5)) (.var 6)), .ite (.cmp .notin (.var 7) (.var 3)) [.setI (.var 3) (.var 7) (.bl true), .expr (.app (.var 4) (.var 7))] []]], .ret (.p1 .sorted (.p1 .list (.var 3)))]
/-- all_letters: 0 machine -/
def all_letters : List S := [.ret (.p1 .lrange (.p1 .len (.p2 .idx (.fld (.var 0) "Machine" "held") (.int 0))))]
/-- reached_by: 0 machine -/
def reached_by : List S := [.ret (.call "stands_from" [.var 0, .int 0, .call "all_letters" [.var 0]])]
/-- reached: 0 machine -/
def reached : List S := [.expr (.call "check_machine" [.var 0]), .ret (.call "reached_by" [.var 0])]
/-- led: 0 machine 1 stands 2 letter 3 stand -/
def led : List S := [.ret (.p1 .tuple (.p1 .sset (.comp (.p2 .idx (.p2 .idx (.fld (.var 0) "Machine" "held") (.var 3)) (.var 2)) (.nm 3) .val [.var 1] none [("stand", 3)])))]
/-- check_kept: 0 machine 1 value 2 index 3 letter -/
def check_kept : List S := [.ite (.or (.not (.val (.p1 .isTuple (.var 1)))) (.cmp .gt (.p1 .len (.var 1)) (.gint "MOST_ROW" 40))) [.dead] [], .for_ (.tup [.nm 2, .nm 3]) .enum [.var 1] [.ite (.and (.isN false (.var 3)) (.not (.val (.call "is_from" [.var 3, .int 0, .p2 .sub (.p1 .len (.p2 .idx (.fld (.var 0) "Machine" "held") (.int 0))) (.int 1)])))) [.dead] []]]
/-- ways_of: 0 machine 1 letter -/
def ways_of : List S := [.ite (.isN true (.var 1)) [.ret (.call "all_letters" [.var 0])] [], .ret (.lst [.var 1])]
/-- behind: 0 machine 1 stands 2 letter 3 found 4 own -/
def behind : List S := [.set 3 (.lst []), .for_ (.nm 4) .val [.call "ways_of" [.var 0, .var 2]] [.expr (.ext (.var 3) (.p1 .list (.call "led" [.var 0, .var 1, .var 4])))], .ret (.p1 .tuple (.p1 .sset (.var 3)))]
/-- stands_by: 0 machine 1 kept 2 stands 3 letter -/
def stands_by : List S := [.set 2 (.p1 .tuple (.call "reached_by" [.var 0])), .for_ (.nm 3) .val [.var 1] [.set 2 (.call "behind" [.var 0, .var 2, .var 3])], .ret (.p1 .list (.var 2))]
/-- stands_behind: 0 machine 1 kept -/
def stands_behind : List S := [.expr (.call "check_machine" [.var 0]), .expr (.call "check_kept" [.var 0, .var 1]), .ret (.call "stands_by" [.var 0, .var 1])]
/-- alive_sets: 0 machine 1 kept 2 stand 3 known 4 found 5 letter 6 later 7 row 8 own 9 new -/
def alive_sets : List S := [.set 3 (.call "reached_by" [.var 0]), .set 4 (.lst [.comp (.var 8) (.nm 8) .val [.var 3] (some (.cmp .eq (.var 8) (.var 2))) [("own", 8)]]), .for_ (.nm 5) .revd [.var 1] [.set 6 (.p2 .idx (.var 4) (.int 0)), .set 7 (.comp (.var 8) (.nm 8) .val [.var 3] (some (.val (.comp (.var 9) (.nm 9) .val [.call "behind" [.var 0, .tup [.var 8], .var 5]] (some (.cmp .inn (.var 9) (.var 6))) [("new", 9)]))) [("own", 8)]), .set 4 (.p2 .add (.lst [.var 7]) (.var 4))], .ret (.var 4)]
/-- stands_ahead: 0 machine 1 kept 2 stand -/
def stands_ahead : List S := [.expr (.call "check_machine" [.var 0]), .expr (.call "check_kept" [.var 0, .var 1]), .expr (.call "check_stand" [.var 0, .var 2]), .ret (.p2 .idx (.call "alive_sets" [.var 0, .var 1, .var 2]) (.int 0))]
/-- lost_letters: 0 machine 1 kept 2 stand 3 alive 4 here 5 found 6 place 7 letter 8 own 9 new 10 later -/
def lost_letters : List S := [.expr (.call "check_machine" [.var 0]), .expr (.call "check_kept" [.var 0, .var 1]), .expr (.call "check_stand" [.var 0, .var 2]), .set 3 (.call "alive_sets" [.var 0, .var 1, .var 2]), .set 4 (.p2 .idx (.var 3) (.int 0)), .ite (.not (.val (.var 4))) [.ret .non] [], .set 5 (.lst []), .for_ (.tup [.nm 6, .nm 7]) .enum [.var 1] [.for_ (.nm 8) .val [.call "ways_of" [.var 0, .var 7]] [.set 9 (.comp (.var 10) (.nm 10) .val [.call "led" [.var 0, .var 4, .var 8]] (some (.cmp .inn (.var 10) (.p2 .idx (.var 3) (.p2 .add (.var 6) (.int 1))))) [("later", 10)]), .ite (.val (.var 9)) [.brk] []], .ite (.isN true (.var 7)) [.expr (.app (.var 5) (.var 8))] [], .set 4 (.var 9)], .ret (.p1 .tuple (.var 5))]
/-- _law_mix: 0 _law_script 1 _law_seed 2 _law_state 3 _law_cell -/
def law_mix : List S := [.set 2 (.var 1), .for_ (.nm 3) .val [.var 0] [.set 2 (.p2 .mod (.p1 .int (.p2 .add (.p2 .add (.p2 .mul (.var 2) (.int 48271)) (.p2 .mod (.p1 .int (.var 3)) (.int 2147483629))) (.int 1))) (.int 2147483647))], .ret (.lst [.var 2, .nobj (.p1 .list (.var 0)), .int 0])]
/-- _law_next: 0 _law_h 1 _law_bound 2 _law_cell 3 _law_cells -/
def law_next : List S := [.set 2 (.p2 .idx (.p2 .add (.p2 .idx (.var 0) (.int 1)) (.lst [.int 0])) (.p2 .mod (.p1 .int (.p2 .idx (.var 0) (.int 2))) (.p2 .max (.int 1) (.p1 .len (.p2 .idx (.var 0) (.int 1)))))), .ite (.cmp .ge (.var 2) (.p2 .pow (.int 10) (.int 18))) [.set 3 (.p2 .idx (.var 0) (.int 1)), .setI (.var 3) (.p2 .mod (.p1 .int (.p2 .idx (.var 0) (.int 2))) (.p1 .len (.var 3))) (.p2 .fdiv (.var 2) (.var 1)), .ret (.p2 .mod (.p1 .int (.var 2)) (.var 1))] [], .setI (.var 0) (.int 0) (.p2 .mod (.p1 .int (.p2 .add (.p2 .add (.p2 .mul (.p2 .idx (.var 0) (.int 0)) (.int 48271)) (.p2 .mul (.var 2) (.int 69621))) (.int 11))) (.int 2147483647)), .setI (.var 0) (.int 2) (.p2 .add (.p2 .idx (.var 0) (.int 2)) (.int 1)), .ret (.p2 .mod (.p1 .int (.p2 .fdiv (.p2 .idx (.var 0) (.int 0)) (.int 7))) (.var 1))]
/-- _law_table: 0 _law_h 1 _law_most 2 _law_far_here 3 _law_kind 4 _law_few 5 _law_first 6 _law_rows 7 _law_k 8 _law_size 9 _law_letters 10 _law_row 11 _law_a -/
def law_table : List S := [.unpack2 (.nm 8) (.nm 9) (.p2 .add (.int 1) (.call "_law_next" [.var 0, .var 1])) (.p2 .add (.int 1) (.call "_law_next" [.var 0, .var 2])), .set 3 (.call "_law_next" [.var 0, .int 5]), .ite (.and (.cmp .eq (.var 3) (.int 0)) (.cmp .gt (.var 1) (.int 3))) [.ret (.call "_law_shift" [.var 0])] [], .set 4 (.comp (.p2 .add (.int 1) (.call "_law_next" [.var 0, .var 8])) (.nm 11) .range1 [.var 9] none [("_law_a", 11)]), .set 5 (.comp (.call "_law_next" [.var 0, .var 8]) (.nm 11) .range1 [.var 9] none [("_law_a", 11)]), .set 6 (.lst []), .for_ (.nm 7) .range1 [.var 8] [.set 10 (.comp (.call "_law_next" [.var 0, .var 8]) (.nm 11) .range1 [.var 9] none [("_law_a", 11)]), .ite (.cmp .lt (.var 3) (.int 4)) [.set 10 (.comp (.p2 .mod (.p2 .add (.p2 .idx (.var 5) (.var 11)) (.p2 .mod (.p2 .idx (.var 10) (.var 11)) (.p2 .idx (.var 4) (.var 11)))) (.var 8)) (.nm 11) .range1 [.var 9] none [("_law_a", 11)])] [], .expr (.app (.var 6) (.p1 .tuple (.var 10)))], .ret (.p1 .tuple (.var 6))]
/-- _law_shift: 0 _law_h 1 _law_rows 2 _law_row -/
def law_shift : List S := [.set 1 (.lst [.nobj (.lst [.int 0, .int 1]), .nobj (.lst [.int 2, .int 3]), .nobj (.lst [.int 0, .int 1]), .nobj (.lst [.int 2, .int 3])]), .ite (.cmp .eq (.call "_law_next" [.var 0, .int 3]) (.int 0)) [.setI (.p2 .idx (.var 1) (.call "_law_next" [.var 0, .int 4])) (.call "_law_next" [.var 0, .int 2]) (.call "_law_next" [.var 0, .int 4])] [], .ret (.p1 .tuple (.comp (.p1 .tuple (.var 2)) (.nm 2) .val [.var 1] none [("_law_row", 2)]))]
/-- _law_led: 0 _law_table_here 1 _law_stands 2 _law_a 3 _law_stand -/
def law_led : List S := [.ret (.p1 .tuple (.p1 .sset (.comp (.p2 .idx (.p2 .idx (.var 0) (.var 3)) (.var 2)) (.nm 3) .val [.var 1] none [("_law_stand", 3)])))]
/-- _law_reach: 0 _law_table_here 1 _law_begin 2 _law_letters 3 _law_found 4 _law_waiting 5 _law_a 6 _law_stand -/
def law_reach : List S := [.par 3 4 (.p1 .list (.var 1)) (.p1 .list (.var 1)), .while_ (.cmp .ne (.var 4) (.lst [])) [.par 6 4 (.p2 .idx (.var 4) (.int 0)) (.cut (.var 4) (some (.int 1)) none), .for_ (.nm 5) .val [.var 2] [.ite (.cmp .notin (.p2 .idx (.p2 .idx (.var 0) (.var 6)) (.var 5)) (.var 3)) [.expr (.app (.var 3) (.p2 .idx (.p2 .idx (.var 0) (.var 6)) (.var 5))), .expr (.app (.var 4) (.p2 .idx (.p2 .idx (.var 0) (.var 6)) (.var 5)))] []]], .ret (.p1 .tuple (.p1 .sorted (.var 3)))]
/-- _law_all: 0 _law_table_here -/
def law_all : List S := [.ret (.call "_law_reach" [.var 0, .lst [.int 0], .p1 .lrange (.p1 .len (.p2 .idx (.var 0) (.int 0)))])]
/-- Machine.__init__: 0 self 1 table 2 index 3 row -/
def Machine_init : List S := [.ite (.or (.not (.val (.p1 .isTuple (.var 1)))) (.not (.chn false (.int 1) (.p1 .len (.var 1)) (.gint "MOST_STANDS" 6)))) [.dead] [], .for_ (.tup [.nm 2, .nm 3]) .enum [.var 1] [.ite (.or (.not (.val (.call "is_stand_row" [.var 3, .p1 .len (.var 1)]))) (.cmp .ne (.p1 .len (.var 3)) (.p1 .len (.p2 .idx (.var 1) (.int 0))))) [.dead] []], .setF (.var 0) "Machine" "held" (.var 1)]
/-- Machine.table: 0 self -/
def Machine_table : List S := [.ret (.fld (.var 0) "Machine" "held")]
/-- Machine.letters: 0 self -/
def Machine_letters : List S := [.ret (.p1 .len (.p2 .idx (.fld (.var 0) "Machine" "held") (.int 0)))]
/-- Machine.__len__: 0 self -/
def Machine_len : List S := [.ret (.p1 .len (.fld (.var 0) "Machine" "held"))]
/-- Machine.__eq__: 0 self 1 other -/
def Machine_eq : List S := [.ret (.and (.isC (.var 1) "Machine") (.p2 .eq (.fld (.var 0) "Machine" "held") (.fld (.var 1) "Machine" "held")))]
/-- check_number: 0 value 1 low 2 high -/
def check_number : List S := [.ite (.not (.val (.call "is_from" [.var 0, .var 1, .var 2]))) [.raise "BadNumber" [] []] []]
/-- all_pairs: 0 stands 1 found 2 place 3 one 4 other -/
def all_pairs : List S := [.set 1 (.lst []), .for_ (.tup [.nm 2, .nm 3]) .enum [.var 0] [.expr (.ext (.var 1) (.comp (.tup [.var 3, .var 4]) (.nm 4) .val [.cut (.var 0) (some (.p2 .add (.var 2) (.int 1))) none] none [("other", 4)]))], .ret (.var 1)]
/-- next_pair: 0 machine 1 pair 2 letter 3 one 4 other -/
def next_pair : List S := [.par 3 4 (.p2 .idx (.p2 .idx (.fld (.var 0) "Machine" "held") (.p2 .idx (.var 1) (.int 0))) (.var 2)) (.p2 .idx (.p2 .idx (.fld (.var 0) "Machine" "held") (.p2 .idx (.var 1) (.int 1))) (.var 2)), .ite (.cmp .eq (.var 3) (.var 4)) [.ret .non] [], .ret (.tup [.p2 .min (.var 3) (.var 4), .p2 .max (.var 3) (.var 4)])]
/-- ranks_among: 0 machine 1 stands 2 pairs 3 found 4 moved 5 pair 6 later 7 letter 8 other -/
def ranks_among : List S := [.set 2 (.call "all_pairs" [.var 1]), .set 3 (.dnew true), .set 4 (.bl true), .while_ (.val (.var 4)) [.set 4 (.bl false), .for_ (.nm 5) .val [.var 2] [.ite (.cmp .notin (.var 5) (.var 3)) [.set 6 (.comp (.call "next_pair" [.var 0, .var 5, .var 7]) (.nm 7) .val [.call "all_letters" [.var 0]] none [("letter", 7)]), .set 6 (.comp (.var 8) (.nm 8) .val [.var 6] (some (.isN false (.var 8))) [("other", 8)]), .ite (.not (.val (.comp (.var 8) (.nm 8) .val [.var 6] (some (.cmp .notin (.var 8) (.var 3))) [("other", 8)]))) [.setI (.var 3) (.var 5) (.p1 .max (.p2 .add (.lst [.int 0]) (.comp (.p2 .add (.p2 .idx (.var 3) (.var 8)) (.int 1)) (.nm 8) .val [.var 6] none [("other", 8)]))), .set 4 (.bl true)] []] []]], .ite (.cmp .lt (.p1 .len (.var 3)) (.p1 .len (.var 2))) [.ret .non] [], .ret (.var 3)]
/-- least_among: 0 machine 1 stands 2 found 3 pair -/
def least_among : List S := [.set 2 (.call "ranks_among" [.var 0, .var 1]), .ite (.isN true (.var 2)) [.ret .non] [], .ret (.p1 .max (.p2 .add (.lst [.int 0]) (.comp (.p2 .add (.p2 .idx (.var 2) (.var 3)) (.int 1)) (.nm 3) .val [.var 2] none [("pair", 3)])))]
/-- least_tell: 0 machine -/
def least_tell : List S := [.expr (.call "check_machine" [.var 0]), .ret (.call "least_among" [.var 0, .call "reached_by" [.var 0]])]
/-- ranks: 0 machine 1 found 2 pair -/
def ranks : List S := [.expr (.call "check_machine" [.var 0]), .set 1 (.call "ranks_among" [.var 0, .call "reached_by" [.var 0]]), .ite (.isN true (.var 1)) [.ret .non] [], .ret (.comp (.tup [.var 2, .p2 .idx (.var 1) (.var 2)]) (.nm 2) .val [.p1 .sortD (.p1 .list (.var 1))] none [("pair", 2)])]
/-- is_entry: 0 machine 1 k 2 value 3 pair 4 last -/
def is_entry : List S := [.ite (.or (.not (.val (.p1 .isTuple (.var 2)))) (.or (.cmp .ne (.p1 .len (.var 2)) (.int 2)) (.not (.val (.call "is_from" [.p2 .idx (.var 2) (.int 1), .int 0, .p2 .sub (.var 1) (.int 1)]))))) [.ret (.bl false)] [], .par 3 4 (.p2 .idx (.var 2) (.int 0)) (.p2 .sub (.p1 .len (.fld (.var 0) "Machine" "held")) (.int 1)), .ite (.or (.not (.val (.p1 .isTuple (.var 3)))) (.cmp .ne (.p1 .len (.var 3)) (.int 2))) [.ret (.bl false)] [], .ret (.and (.call "is_from" [.p2 .idx (.var 3) (.int 0), .int 0, .var 4]) (.and (.call "is_from" [.p2 .idx (.var 3) (.int 1), .int 0, .var 4]) (.p2 .lt (.p2 .idx (.var 3) (.int 0)) (.p2 .idx (.var 3) (.int 1)))))]
/-- shows: 0 machine 1 k 2 value 3 known 4 entry 5 pair 6 letter 7 later -/
def shows : List S := [.expr (.call "check_machine" [.var 0]), .expr (.call "check_number" [.var 1, .int 0, .gint "MOST_SHOWN" 40]), .ite (.not (.val (.p1 .isLT (.var 2)))) [.ret (.bl false)] [], .set 3 (.dnew true), .for_ (.nm 4) .val [.var 2] [.ite (.or (.not (.val (.call "is_entry" [.var 0, .var 1, .var 4]))) (.cmp .inn (.p2 .idx (.var 4) (.int 0)) (.var 3))) [.ret (.bl false)] [], .setI (.var 3) (.p2 .idx (.var 4) (.int 0)) (.p2 .idx (.var 4) (.int 1))], .for_ (.nm 5) .val [.call "all_pairs" [.call "reached_by" [.var 0]]] [.ite (.cmp .notin (.var 5) (.var 3)) [.ret (.bl false)] []], .for_ (.nm 5) .val [.var 3] [.for_ (.nm 6) .val [.call "all_letters" [.var 0]] [.set 7 (.call "next_pair" [.var 0, .var 5, .var 6]), .ite (.and (.isN false (.var 7)) (.or (.cmp .notin (.var 7) (.var 3)) (.cmp .ge (.p2 .idx (.var 3) (.var 7)) (.p2 .idx (.var 3) (.var 5))))) [.ret (.bl false)] []]], .ret (.bl true)]
/-- _law_least: 0 _law_table_here 1 _law_begin 2 _law_letters 3 _law_hidden 4 _law_k 5 _law_lots 6 _law_seen 7 _law_later 8 _law_stands 9 _law_a 10 _law_new -/
def law_least : List S := [.par 5 6 (.lst [.var 1]) (.lst []), .for_ (.nm 4) .range1 [.int 70] [.set 5 (.comp (.var 8) (.nm 8) .val [.var 5] (some (.cmp .gt (.p1 .len (.var 8)) (.int 1))) [("_law_stands", 8)]), .ite (.cmp .eq (.var 5) (.lst [])) [.ret (.var 4)] [], .ite (.cmp .inn (.p1 .sortD (.var 5)) (.var 6)) [.ret .non] [], .expr (.app (.var 6) (.p1 .sortD (.var 5))), .set 7 (.lst []), .for_ (.nm 8) .val [.var 5] [.for_ (.nm 9) .val [.var 2] [.set 10 (.call "_law_reach" [.var 0, .p1 .list (.call "_law_led" [.var 0, .var 8, .var 9]), .var 3]), .ite (.cmp .notin (.var 10) (.var 7)) [.expr (.app (.var 7) (.var 10))] []]], .set 5 (.var 7)], .ret .non]
/-- lead_to: 0 machine 1 stand 2 found 3 waiting 4 later 5 here 6 letter 7 new -/
def lead_to : List S := [.set 2 (.d1 false (.int 0) (.tup [])), .set 3 (.lst [.int 0]), .while_ (.cmp .notin (.var 1) (.var 2)) [.set 4 (.lst []), .for_ (.nm 5) .val [.var 3] [.for_ (.tup [.nm 6, .nm 7]) .enum [.p2 .idx (.fld (.var 0) "Machine" "held") (.var 5)] [.ite (.cmp .notin (.var 7) (.var 2)) [.setI (.var 2) (.var 7) (.p2 .add (.p2 .idx (.var 2) (.var 5)) (.tup [.var 6])), .expr (.app (.var 4) (.var 7))] []]], .set 3 (.p1 .list (.var 4))], .ret (.p2 .idx (.var 2) (.var 1))]
/-- loop_at: 0 machine 1 one 2 other 3 found 4 waiting 5 later 6 pair 7 row 8 letter 9 new -/
def loop_at : List S := [.set 3 (.dnew true), .set 4 (.lst [.tup [.tup [.var 1, .var 2], .tup []]]), .while_ (.val (.var 4)) [.set 5 (.lst []), .for_ (.tup [.nm 6, .nm 7]) .val [.var 4] [.for_ (.nm 8) .val [.call "all_letters" [.var 0]] [.set 9 (.tup [.p2 .idx (.p2 .idx (.fld (.var 0) "Machine" "held") (.p2 .idx (.var 6) (.int 0))) (.var 8), .p2 .idx (.p2 .idx (.fld (.var 0) "Machine" "held") (.p2 .idx (.var 6) (.int 1))) (.var 8)]), .ite (.cmp .eq (.var 9) (.tup [.var 1, .var 2])) [.ret (.p2 .add (.var 7) (.tup [.var 8]))] [], .ite (.and (.cmp .ne (.p2 .idx (.var 9) (.int 0)) (.p2 .idx (.var 9) (.int 1))) (.cmp .notin (.var 9) (.var 3))) [.setI (.var 3) (.var 9) (.bl true), .expr (.app (.var 5) (.tup [.var 9, .p2 .add (.var 7) (.tup [.var 8])]))] []]], .set 4 (.p1 .list (.var 5))], .ret .non]
/-- ring: 0 machine 1 one 2 other 3 loop -/
def ring : List S := [.expr (.call "check_machine" [.var 0]), .for_ (.tup [.nm 1, .nm 2]) .val [.call "all_pairs" [.call "reached_by" [.var 0]]] [.set 3 (.call "loop_at" [.var 0, .var 1, .var 2]), .ite (.isN false (.var 3)) [.ret (.tup [.call "lead_to" [.var 0, .var 1], .call "lead_to" [.var 0, .var 2], .var 3])] []], .ret .non]
/-- right_ring: 0 machine 1 value 2 row 3 one 4 other -/
def right_ring : List S := [.expr (.call "check_machine" [.var 0]), .ite (.or (.not (.val (.p1 .isTuple (.var 1)))) (.cmp .ne (.p1 .len (.var 1)) (.int 3))) [.ret (.bl false)] [], .for_ (.nm 2) .val [.var 1] [.ite (.not (.val (.call "is_row" [.var 0, .var 2]))) [.ret (.bl false)] []], .par 3 4 (.call "gone" [.var 0, .int 0, .p2 .idx (.var 1) (.int 0)]) (.call "gone" [.var 0, .int 0, .p2 .idx (.var 1) (.int 1)]), .ite (.or (.cmp .eq (.var 3) (.var 4)) (.cmp .eq (.p2 .idx (.var 1) (.int 2)) (.tup []))) [.ret (.bl false)] [], .ret (.and (.p2 .eq (.call "gone" [.var 0, .var 3, .p2 .idx (.var 1) (.int 2)]) (.var 3)) (.p2 .eq (.call "gone" [.var 0, .var 4, .p2 .idx (.var 1) (.int 2)]) (.var 4)))]
/-- ends_alike: 0 machine 1 k 2 ways 3 turn 4 pair 5 later 6 letter 7 begin 8 row 9 new -/
def ends_alike : List S := [.expr (.call "check_machine" [.var 0]), .expr (.call "check_number" [.var 1, .int 0, .gint "MOST_ENDS" 20]), .set 2 (.dcomp true (.var 4) (.tup [.var 4, .tup []]) (.nm 4) .val [.call "all_pairs" [.call "reached_by" [.var 0]]] none [("pair", 4)]), .for_ (.nm 3) .range1 [.var 1] [.set 5 (.dnew true), .for_ (.nm 4) .val [.var 2] [.for_ (.nm 6) .val [.call "all_letters" [.var 0]] [.set 9 (.call "next_pair" [.var 0, .var 4, .var 6]), .ite (.and (.isN false (.var 9)) (.cmp .notin (.var 9) (.var 5))) [.setI (.var 5) (.var 9) (.tup [.p2 .idx (.p2 .idx (.var 2) (.var 4)) (.int 0), .p2 .add (.p2 .idx (.p2 .idx (.var 2) (.var 4)) (.int 1)) (.tup [.var 6])])] []]], .set 2 (.var 5)], .for_ (.nm 4) .val [.var 2] [.unpack (.tup [.nm 7, .nm 8]) (.p2 .idx (.var 2) (.var 4)), .ret (.tup [.p2 .add (.call "lead_to" [.var 0, .p2 .idx (.var 7) (.int 0)]) (.var 8), .p2 .add (.call "lead_to" [.var 0, .p2 .idx (.var 7) (.int 1)]) (.var 8)])], .ret .non]
/-- stands_after: 0 machine 1 many 2 found 3 turn 4 more 5 letter -/
def stands_after : List S := [.set 2 (.tup [.int 0]), .for_ (.nm 3) .range1 [.var 1] [.set 4 (.lst []), .for_ (.nm 5) .val [.call "all_letters" [.var 0]] [.expr (.ext (.var 4) (.p1 .list (.call "led" [.var 0, .var 2, .var 5])))], .set 2 (.p1 .tuple (.p1 .sset (.var 4)))], .ret (.p1 .list (.var 2))]
/-- least_with: 0 machine 1 first 2 found 3 stand 4 own -/
def least_with : List S := [.expr (.call "check_machine" [.var 0]), .expr (.call "check_number" [.var 1, .int 0, .gint "MOST_FIRST" 20]), .set 2 (.int 0), .for_ (.nm 3) .val [.call "stands_after" [.var 0, .var 1]] [.set 4 (.call "least_among" [.var 0, .call "stands_from" [.var 0, .var 3, .call "all_letters" [.var 0]]]), .ite (.isN true (.var 4)) [.ret .non] [], .set 2 (.p2 .max (.var 2) (.var 4))], .ret (.var 2)]
/-- check_kinds: 0 machine 1 value 2 before 3 letter -/
def check_kinds : List S := [.ite (.or (.not (.val (.p1 .isTuple (.var 1)))) (.cmp .eq (.p1 .len (.var 1)) (.int 0))) [.raise "BadKinds" [] []] [], .set 2 (.p1 .neg (.int 1)), .for_ (.nm 3) .val [.var 1] [.ite (.not (.val (.call "is_from" [.var 3, .p2 .add (.var 2) (.int 1), .p2 .sub (.p1 .len (.p2 .idx (.fld (.var 0) "Machine" "held") (.int 0))) (.int 1)]))) [.raise "BadKinds" [] []] [], .set 2 (.var 3)]]
/-- spread: 0 machine 1 stands 2 letters 3 found 4 stand -/
def spread : List S := [.set 3 (.lst []), .for_ (.nm 4) .val [.var 1] [.expr (.ext (.var 3) (.call "stands_from" [.var 0, .var 4, .var 2]))], .ret (.p1 .tuple (.p1 .sset (.var 3)))]
/-- lots_of: 0 machine 1 begin 2 kinds 3 hidden 4 leads 5 waiting 6 stands 7 letter -/
def lots_of : List S := [.set 3 (.comp (.var 7) (.nm 7) .val [.call "all_letters" [.var 0]] (some (.cmp .notin (.var 7) (.var 2))) [("letter", 7)]), .kill [3], .set 4 (.dnew true), .set 5 (.lst [.var 1]), .while_ (.val (.var 5)) [.set 6 (.pop (.var 5)), .ite (.cmp .notin (.var 6) (.var 4)) [.setI (.var 4) (.var 6) (.comp (.call "spread" [.var 0, .call "led" [.var 0, .var 6, .var 7], .var 3]) (.nm 7) .val [.var 2] none [("letter", 7)]), .expr (.ext (.var 5) (.p2 .idx (.var 4) (.var 6)))] []], .ret (.var 4)]
/-- untold_lots: 0 leads 1 found 2 moved 3 stands 4 new -/
def untold_lots : List S := [.set 1 (.dcomp true (.var 3) (.bl true) (.nm 3) .val [.var 0] (some (.cmp .gt (.p1 .len (.var 3)) (.int 1))) [("stands", 3)]), .set 2 (.bl true), .while_ (.val (.var 2)) [.set 2 (.bl false), .for_ (.nm 3) .val [.var 0] [.ite (.and (.cmp .notin (.var 3) (.var 1)) (.val (.comp (.var 4) (.nm 4) .val [.p2 .idx (.var 0) (.var 3)] (some (.cmp .inn (.var 4) (.var 1))) [("new", 4)]))) [.setI (.var 1) (.var 3) (.bl true), .set 2 (.bl true)] []]], .ret (.var 1)]
/-- least_kinds: 0 machine 1 kinds 2 begin 3 leads 4 untold 5 found 6 moved 7 stands 8 later 9 new -/
def least_kinds : List S := [.expr (.call "check_machine" [.var 0]), .expr (.call "check_kinds" [.var 0, .var 1]), .set 2 (.p1 .tuple (.call "reached_by" [.var 0])), .set 3 (.call "lots_of" [.var 0, .var 2, .var 1]), .set 4 (.call "untold_lots" [.var 3]), .kill [4], .set 5 (.dnew true), .set 6 (.bl true), .while_ (.val (.var 6)) [.set 6 (.bl false), .for_ (.nm 7) .val [.var 4] [.set 8 (.comp (.var 9) (.nm 9) .val [.p2 .idx (.var 3) (.var 7)] (some (.cmp .inn (.var 9) (.var 4))) [("new", 9)]), .ite (.and (.cmp .notin (.var 7) (.var 5)) (.not (.val (.comp (.var 9) (.nm 9) .val [.var 8] (some (.cmp .notin (.var 9) (.var 5))) [("new", 9)])))) [.setI (.var 5) (.var 7) (.p2 .add (.int 1) (.p1 .max (.p2 .add (.lst [.int 0]) (.comp (.p2 .idx (.var 5) (.var 9)) (.nm 9) .val [.var 8] none [("new", 9)])))), .set 6 (.bl true)] []]], .ite (.cmp .lt (.p1 .len (.var 5)) (.p1 .len (.var 4))) [.ret .non] [], .ret (.get (.var 5) (.var 2) (.int 0))]
/-- sure_letters: 0 machine 1 found 2 letter 3 stands -/
def sure_letters : List S := [.expr (.call "check_machine" [.var 0]), .set 1 (.lst []), .for_ (.nm 2) .val [.call "all_letters" [.var 0]] [.set 3 (.call "led" [.var 0, .call "reached_by" [.var 0], .var 2]), .ite (.cmp .eq (.p1 .len (.var 3)) (.int 1)) [.expr (.app (.var 1) (.tup [.var 2, .p2 .idx (.var 3) (.int 0)]))] []], .ret (.var 1)]
/-- least_sure: 0 machine 1 begin 2 seen 3 waiting 4 later 5 stands 6 row 7 letter 8 new -/
def least_sure : List S := [.expr (.call "check_machine" [.var 0]), .set 1 (.p1 .tuple (.call "reached_by" [.var 0])), .ite (.cmp .eq (.p1 .len (.var 1)) (.int 1)) [.ret (.tup [])] [], .set 2 (.d1 true (.var 1) (.bl true)), .set 3 (.lst [.tup [.var 1, .tup []]]), .while_ (.val (.var 3)) [.set 4 (.lst []), .for_ (.tup [.nm 5, .nm 6]) .val [.var 3] [.for_ (.nm 7) .val [.call "all_letters" [.var 0]] [.set 8 (.call "led" [.var 0, .var 5, .var 7]), .ite (.cmp .eq (.p1 .len (.var 8)) (.int 1)) [.ret (.p2 .add (.var 6) (.tup [.var 7]))] [], .ite (.cmp .notin (.var 8) (.var 2)) [.setI (.var 2) (.var 8) (.bl true), .expr (.app (.var 4) (.tup [.var 8, .p2 .add (.var 6) (.tup [.var 7])]))] []]], .set 3 (.p1 .list (.var 4))], .ret .non]
/-- telling: 0 machine 1 k 2 counts 3 turn 4 later 5 stands 6 letter 7 new -/
def telling : List S := [.expr (.call "check_machine" [.var 0]), .expr (.call "check_number" [.var 1, .int 0, .gint "MOST_COUNTED" 200]), .set 2 (.d1 true (.p1 .tuple (.call "reached_by" [.var 0])) (.int 1)), .for_ (.nm 3) .range1 [.var 1] [.set 4 (.dnew true), .for_ (.nm 5) .val [.var 2] [.for_ (.nm 6) .val [.call "all_letters" [.var 0]] [.set 7 (.call "led" [.var 0, .var 5, .var 6]), .setI (.var 4) (.var 7) (.p2 .add (.get (.var 4) (.var 7) (.int 0)) (.p2 .idx (.var 2) (.var 5)))]], .set 2 (.var 4)], .ret (.p1 .sum (.comp (.p2 .idx (.var 2) (.var 5)) (.nm 5) .val [.var 2] (some (.cmp .eq (.p1 .len (.var 5)) (.int 1))) [("stands", 5)]))]
/-- all_steps: 0 machine 1 found 2 stand 3 letter -/
def all_steps : List S := [.set 1 (.lst []), .for_ (.nm 2) .val [.call "reached_by" [.var 0]] [.expr (.ext (.var 1) (.comp (.tup [.var 2, .var 3]) (.nm 3) .val [.call "all_letters" [.var 0]] none [("letter", 3)]))], .ret (.var 1)]
/-- check_small: 0 machine -/
def check_small : List S := [.expr (.call "check_machine" [.var 0]), .ite (.cmp .gt (.p1 .len (.call "all_steps" [.var 0])) (.gint "MOST_STEPS" 10)) [.raise "TooMany" [] []] []]
/-- next_sets: 0 machine 1 stands 2 some 3 found 4 letter 5 plain 6 stand -/
def next_sets : List S := [.set 3 (.lst []), .for_ (.nm 4) .val [.call "all_letters" [.var 0]] [.set 5 (.comp (.var 6) (.nm 6) .val [.var 1] (some (.cmp .notin (.tup [.var 6, .var 4]) (.var 2))) [("stand", 6)]), .ite (.val (.var 5)) [.expr (.app (.var 3) (.call "led" [.var 0, .var 5, .var 4]))] []], .for_ (.tup [.nm 6, .nm 4]) .val [.var 2] [.ite (.cmp .inn (.var 6) (.var 1)) [.expr (.app (.var 3) (.tup [.p2 .idx (.p2 .idx (.fld (.var 0) "Machine" "held") (.var 6)) (.var 4)]))] []], .ret (.var 3)]
/-- tell_with: 0 machine 1 k 2 some 3 lots 4 turn 5 later 6 stands 7 new -/
def tell_with : List S := [.set 3 (.d1 false (.p1 .tuple (.call "reached_by" [.var 0])) (.bl true)), .for_ (.nm 4) .range1 [.var 1] [.set 5 (.dnew false), .for_ (.nm 6) .val [.var 3] [.for_ (.nm 7) .val [.call "next_sets" [.var 0, .var 6, .var 2]] [.setI (.var 5) (.var 7) (.bl true)]], .set 3 (.var 5)], .ret (.not (.comp (.var 6) (.nm 6) .val [.var 3] (some (.cmp .gt (.p1 .len (.var 6)) (.int 1))) [("stands", 6)]))]
/-- marks: 0 machine 1 k 2 every 3 size 4 found 5 some -/
def marks : List S := [.expr (.call "check_small" [.var 0]), .expr (.call "check_number" [.var 1, .int 1, .gint "MOST_KEPT" 10]), .set 2 (.call "all_steps" [.var 0]), .for_ (.nm 3) .range1 [.p1 .len (.var 2)] [.set 4 (.comp (.var 5) (.nm 5) .val [.call "subsets" [.var 2, .var 3]] (some (.val (.call "tell_with" [.var 0, .var 1, .var 5]))) [("some", 5)]), .ite (.val (.var 4)) [.ret (.var 4)] []], .ret (.lst [.p1 .tuple (.var 2)])]
/-- check_steps: 0 machine 1 value 2 known 3 place 4 step -/
def check_steps : List S := [.ite (.not (.val (.p1 .isTuple (.var 1)))) [.raise "BadSteps" [] []] [], .set 2 (.call "reached_by" [.var 0]), .for_ (.tup [.nm 3, .nm 4]) .enum [.var 1] [.ite (.or (.not (.val (.p1 .isTuple (.var 4)))) (.or (.cmp .ne (.p1 .len (.var 4)) (.int 2)) (.not (.val (.call "is_from" [.p2 .idx (.var 4) (.int 0), .int 0, .p2 .sub (.p1 .len (.fld (.var 0) "Machine" "held")) (.int 1)]))))) [.raise "BadSteps" [] []] [], .ite (.or (.cmp .notin (.p2 .idx (.var 4) (.int 0)) (.var 2)) (.not (.val (.call "is_from" [.p2 .idx (.var 4) (.int 1), .int 0, .p2 .sub (.p1 .len (.p2 .idx (.fld (.var 0) "Machine" "held") (.int 0))) (.int 1)])))) [.raise "BadSteps" [] []] [], .ite (.and (.cmp .gt (.var 3) (.int 0)) (.cmp .le (.var 4) (.p2 .idx (.var 1) (.p2 .sub (.var 3) (.int 1))))) [.raise "BadSteps" [] []] []]]
/-- are_enough: 0 machine 1 k 2 some -/
def are_enough : List S := [.expr (.call "check_small" [.var 0]), .expr (.call "check_number" [.var 1, .int 1, .gint "MOST_KEPT" 10]), .expr (.call "check_steps" [.var 0, .var 2]), .ret (.call "tell_with" [.var 0, .var 1, .var 2])]
/-- table_of: 0 machine 1 k 2 found 3 row 4 stands 5 letter -/
def table_of : List S := [.expr (.call "check_machine" [.var 0]), .expr (.call "check_number" [.var 1, .int 0, .gint "MOST_TABLE" 4]), .set 2 (.lst []), .for_ (.nm 3) .val [.call "rows_of" [.call "all_letters" [.var 0], .var 1]] [.set 4 (.p1 .tuple (.call "reached_by" [.var 0])), .for_ (.nm 5) .val [.var 3] [.set 4 (.call "led" [.var 0, .var 4, .var 5])], .ite (.cmp .eq (.p1 .len (.var 4)) (.int 1)) [.expr (.app (.var 2) (.p2 .idx (.var 4) (.int 0)))] [.expr (.app (.var 2) .non)]], .ret (.p1 .tuple (.var 2))]
/-- check_stands: 0 value 1 size 2 stand -/
def check_stands : List S := [.ite (.or (.not (.val (.p1 .isTuple (.var 0)))) (.cmp .ne (.p1 .len (.var 0)) (.var 1))) [.raise "BadStands" [] []] [], .for_ (.nm 2) .val [.var 0] [.ite (.not (.val (.call "is_from" [.var 2, .int 0, .p2 .sub (.gint "MOST_STANDS" 6) (.int 1)]))) [.raise "BadStands" [] []] []], .ite (.cmp .le (.p1 .lset (.var 0)) (.p1 .max (.var 0))) [.raise "BadStands" [] []] []]
/-- machine_by: 0 letters 1 k 2 stands 3 rows 4 told 5 table 6 row 7 later 8 stand 9 letter -/
def machine_by : List S := [.ite (.not (.val (.call "is_from" [.var 0, .int 1, .gint "MOST_LETTERS" 4]))) [.raise "BadLetters" [] []] [], .expr (.call "check_number" [.var 1, .int 0, .gint "MOST_TABLE" 4]), .set 3 (.call "rows_of" [.p1 .lrange (.var 0), .var 1]), .expr (.call "check_stands" [.var 2, .p1 .len (.var 3)]), .set 4 (.dcomp true (.var 6) (.var 8) (.tup [.nm 6, .nm 8]) .zip [.var 3, .var 2] none [("row", 6), ("stand", 8)]), .set 5 (.dnew true), .for_ (.nm 6) .val [.var 3] [.set 7 (.p1 .tuple (.comp (.p2 .idx (.var 4) (.cut (.p2 .add (.var 6) (.tup [.var 9])) (some (.int 1)) (some (.p2 .add (.p1 .len (.var 6)) (.int 1))))) (.nm 9) .range1 [.var 0] none [("letter", 9)])), .ite (.cmp .eq (.var 1) (.int 0)) [.set 7 (.p2 .mul (.tup [.int 0]) (.var 0))] [], .ite (.cmp .ne (.get (.var 5) (.p2 .idx (.var 4) (.var 6)) (.var 7)) (.var 7)) [.ret .non] [], .setI (.var 5) (.p2 .idx (.var 4) (.var 6)) (.var 7)], .ret (.make "Machine" true [.p1 .tuple (.comp (.p2 .idx (.var 5) (.var 8)) (.nm 8) .val [.p1 .sorted (.p1 .list (.var 5))] none [("stand", 8)])])]
/-- Keeper.__init__: 0 self 1 machine -/
def Keeper_init : List S := [.expr (.call "check_machine" [.var 1]), .setF (.var 0) "Machine" "base" (.var 1), .setF (.var 0) "Machine" "past" (.tup [.tup []])]
/-- read_row: 0 words 1 line 2 stands 3 least 4 most 5 known 6 place 7 stand 8 word -/
def read_row : List S := [.ite (.cmp .ne (.cut (.var 0) none (some (.int 1))) (.lst [.str "stand"])) [.dead] [], .set 5 (.comp (.p1 .str (.var 7)) (.nm 7) .range1 [.var 2] none [("stand", 7)]), .for_ (.nm 6) .range2 [.int 1, .p2 .max (.p1 .len (.var 0)) (.p2 .add (.var 3) (.int 1))] [.ite (.or (.cmp .ge (.var 6) (.p1 .len (.var 0))) (.or (.cmp .gt (.var 6) (.var 4)) (.cmp .notin (.p2 .idx (.var 0) (.var 6)) (.var 5)))) [.dead] []], .ret (.p1 .tuple (.comp (.p1 .int (.var 8)) (.nm 8) .val [.cut (.var 0) (some (.int 1)) none] none [("word", 8)]))]
/-- next_lots: 0 machine 1 lots 2 found 3 stands 4 letter -/
def next_lots : List S := [.set 2 (.dnew true), .for_ (.nm 3) .val [.var 1] [.for_ (.nm 4) .val [.call "all_letters" [.var 0]] [.setI (.var 2) (.call "led" [.var 0, .var 3, .var 4]) (.bl true)]], .ret (.p1 .tuple (.p1 .sortD (.p1 .list (.var 2))))]
/-- joined: 0 machine 1 lots 2 found 3 stands 4 own 5 rest 6 whole 7 part 8 stand -/
def joined : List S := [.set 2 (.comp (.tup [.var 8]) (.nm 8) .val [.call "reached_by" [.var 0]] none [("stand", 8)]), .for_ (.nm 3) .val [.var 1] [.set 4 (.comp (.var 7) (.nm 7) .val [.var 2] (some (.val (.comp (.var 8) (.nm 8) .val [.var 7] (some (.cmp .inn (.var 8) (.var 3))) [("stand", 8)]))) [("part", 7)]), .set 5 (.comp (.var 7) (.nm 7) .val [.var 2] (some (.cmp .notin (.var 7) (.var 4))) [("part", 7)]), .set 6 (.lst []), .for_ (.nm 7) .val [.var 4] [.expr (.ext (.var 6) (.p1 .list (.var 7)))], .set 2 (.p2 .add (.var 5) (.lst [.p1 .tuple (.p1 .sortD (.var 6))]))], .ret (.p1 .sortD (.var 2))]
/-- classes: 0 machine 1 k 2 lots 3 turn -/
def classes : List S := [.expr (.call "check_machine" [.var 0]), .expr (.call "check_number" [.var 1, .int 0, .gint "MOST_LAST" 40]), .set 2 (.tup [.p1 .tuple (.call "reached_by" [.var 0])]), .for_ (.nm 3) .range1 [.var 1] [.set 2 (.call "next_lots" [.var 0, .var 2])], .ret (.call "joined" [.var 0, .var 2])]
/-- last_classes: 0 machine 1 lots 2 seen 3 found -/
def last_classes : List S := [.expr (.call "check_machine" [.var 0]), .set 1 (.tup [.p1 .tuple (.call "reached_by" [.var 0])]), .set 2 (.dnew true), .set 3 (.lst []), .while_ (.cmp .notin (.var 1) (.var 2)) [.setI (.var 2) (.var 1) (.bl true), .expr (.app (.var 3) (.call "joined" [.var 0, .var 1])), .set 1 (.call "next_lots" [.var 0, .var 1])], .ret (.tup [.index (.var 3) (.p2 .idx (.var 3) (.p1 .neg (.int 1))), .p2 .idx (.var 3) (.p1 .neg (.int 1))])]
/-- kept_apart: 0 machine 1 pairs 2 kept 3 moved 4 pair 5 later 6 letter 7 other -/
def kept_apart : List S := [.expr (.call "check_machine" [.var 0]), .set 1 (.call "all_pairs" [.call "reached_by" [.var 0]]), .set 2 (.dcomp true (.var 4) (.bl true) (.nm 4) .val [.var 1] none [("pair", 4)]), .set 3 (.bl true), .while_ (.val (.var 3)) [.set 3 (.bl false), .for_ (.nm 4) .val [.var 1] [.ite (.cmp .inn (.var 4) (.var 2)) [.set 5 (.comp (.call "next_pair" [.var 0, .var 4, .var 6]) (.nm 6) .val [.call "all_letters" [.var 0]] none [("letter", 6)]), .ite (.not (.val (.comp (.var 7) (.nm 7) .val [.var 5] (some (.cmp .inn (.var 7) (.var 2))) [("other", 7)]))) [.del (.var 2) (.var 4), .set 3 (.bl true)] []] []]], .ret (.p1 .sortD (.p1 .list (.var 2)))]
/-- check_prices: 0 machine 1 value 2 price -/
def check_prices : List S := [.ite (.or (.not (.val (.p1 .isTuple (.var 1)))) (.cmp .ne (.p1 .len (.var 1)) (.p1 .len (.p2 .idx (.fld (.var 0) "Machine" "held") (.int 0))))) [.raise "BadPrices" [] []] [], .for_ (.nm 2) .val [.var 1] [.ite (.not (.val (.call "is_from" [.var 2, .int 1, .gint "MOST_PRICE" 1000000000000000000000000000000]))) [.raise "BadPrices" [] []] []]]
/-- cheapest_sure: 0 machine 1 prices 2 waiting 3 done 4 letter 5 best 6 stands 7 new 8 way 9 own -/
def cheapest_sure : List S := [.expr (.call "check_machine" [.var 0]), .expr (.call "check_prices" [.var 0, .var 1]), .set 2 (.d1 true (.p1 .tuple (.call "reached_by" [.var 0])) (.tup [.int 0, .int 0, .tup []])), .set 3 (.dnew true), .while_ (.val (.var 2)) [.unpack (.tup [.nm 5, .nm 6]) (.p1 .minT (.lend 2 (.comp (.tup [.p2 .idx (.var 2) (.var 9), .var 9]) (.nm 9) .val [.var 2] none [("own", 9)]))), .ite (.cmp .eq (.p1 .len (.var 6)) (.int 1)) [.ret (.tup [.p2 .idx (.var 5) (.int 0), .p2 .idx (.var 5) (.int 2)])] [], .del (.var 2) (.var 6), .setI (.var 3) (.var 6) (.bl true), .for_ (.nm 4) .val [.call "all_letters" [.var 0]] [.set 7 (.call "led" [.var 0, .var 6, .var 4]), .set 8 (.tup [.p2 .add (.p2 .idx (.var 5) (.int 0)) (.p2 .idx (.var 1) (.var 4)), .p2 .add (.p2 .idx (.var 5) (.int 1)) (.int 1), .p2 .add (.p2 .idx (.var 5) (.int 2)) (.tup [.var 4])]), .ite (.and (.cmp .notin (.var 7) (.var 3)) (.or (.cmp .notin (.var 7) (.var 2)) (.cmp .lt (.var 8) (.p2 .idx (.var 2) (.var 7))))) [.setI (.var 2) (.var 7) (.var 8)] []]], .ret .non]
/-- left_counts: 0 machine 1 k 2 counts 3 turn 4 found 5 stands 6 later 7 letter 8 new -/
def left_counts : List S := [.expr (.call "check_machine" [.var 0]), .expr (.call "check_number" [.var 1, .int 0, .gint "MOST_COUNTED" 200]), .set 2 (.d1 true (.p1 .tuple (.call "reached_by" [.var 0])) (.int 1)), .for_ (.nm 3) .range1 [.var 1] [.set 6 (.dnew true), .for_ (.nm 5) .val [.var 2] [.for_ (.nm 7) .val [.call "all_letters" [.var 0]] [.set 8 (.call "led" [.var 0, .var 5, .var 7]), .setI (.var 6) (.var 8) (.p2 .add (.get (.var 6) (.var 8) (.int 0)) (.p2 .idx (.var 2) (.var 5)))]], .set 2 (.var 6)], .set 4 (.p2 .mul (.lst [.int 0]) (.p1 .len (.call "reached_by" [.var 0]))), .for_ (.nm 5) .val [.var 2] [.augI (.var 4) (.p2 .sub (.p1 .len (.var 5)) (.int 1)) (.p2 .idx (.var 2) (.var 5))], .ret (.p1 .tuple (.var 4))]
/-- check_few: 0 machine -/
def check_few : List S := [.expr (.call "check_machine" [.var 0]), .ite (.cmp .gt (.p1 .len (.call "reached_by" [.var 0])) (.gint "MOST_REACHED" 4)) [.raise "TooMany" [] []] []]
/-- all_lots: 0 machine 1 found 2 at 3 letter 4 new -/
def all_lots : List S := [.set 1 (.lst [.p1 .tuple (.call "reached_by" [.var 0])]), .set 2 (.int 0), .while_ (.cmp .lt (.var 2) (.p1 .len (.var 1))) [.for_ (.nm 3) .val [.call "all_letters" [.var 0]] [.set 4 (.call "led" [.var 0, .p2 .idx (.var 1) (.var 2), .var 3]), .ite (.cmp .notin (.var 4) (.var 1)) [.expr (.app (.var 1) (.var 4))] []], .aug 2 .add (.int 1)], .ret (.var 1)]
/-- steps_of: 0 machine 1 lots 2 found 3 stands 4 row 5 letter -/
def steps_of : List S := [.set 2 (.lst []), .for_ (.nm 3) .val [.var 1] [.set 4 (.p2 .mul (.lst [.int 0]) (.p1 .len (.var 1))), .for_ (.nm 5) .val [.call "all_letters" [.var 0]] [.augI (.var 4) (.index (.var 1) (.call "led" [.var 0, .var 3, .var 5])) (.int 1)], .expr (.app (.var 2) (.var 4))], .ret (.var 2)]
/-- product: 0 one 1 other 2 modulus 3 size 4 found 5 row 6 end 7 mid -/
def product : List S := [.set 3 (.p1 .len (.var 1)), .set 4 (.lst []), .for_ (.nm 5) .val [.var 0] [.expr (.app (.var 4) (.comp (.p2 .mod (.p1 .sum (.comp (.p2 .mul (.p2 .idx (.var 5) (.var 7)) (.p2 .idx (.p2 .idx (.var 1) (.var 7)) (.var 6))) (.nm 7) .range1 [.var 3] none [("mid", 7)])) (.var 2)) (.nm 6) .range1 [.var 3] none [("end", 6)]))], .ret (.var 4)]
/-- telling_by: 0 machine 1 k 2 modulus 3 lots 4 power 5 step 6 left 7 end 8 place 9 stands -/
def telling_by : List S := [.expr (.call "check_few" [.var 0]), .expr (.call "check_number" [.var 1, .int 0, .gint "MOST_FAR" 1000000000000000000000000000000]), .expr (.call "check_number" [.var 2, .int 1, .gint "MOST_MODULUS" 1000000000]), .set 3 (.call "all_lots" [.var 0]), .set 4 (.lst [.comp (.p2 .mod (.p1 .int (.p2 .eq (.var 7) (.int 0))) (.var 2)) (.nm 7) .range1 [.p1 .len (.var 3)] none [("end", 7)]]), .set 5 (.call "steps_of" [.var 0, .var 3]), .set 6 (.var 1), .while_ (.cmp .gt (.var 6) (.int 0)) [.ite (.cmp .eq (.p2 .mod (.var 6) (.int 2)) (.int 1)) [.set 4 (.call "product" [.var 4, .var 5, .var 2])] [], .set 5 (.call "product" [.var 5, .var 5, .var 2]), .aug 6 .fdiv (.int 2)], .ret (.p2 .mod (.p1 .sum (.comp (.p2 .idx (.p2 .idx (.var 4) (.int 0)) (.var 8)) (.tup [.nm 8, .nm 9]) .enum [.var 3] (some (.cmp .eq (.p1 .len (.var 9)) (.int 1))) [("place", 8), ("stands", 9)])) (.var 2))]
/-- common: 0 one 1 other -/
def common : List S := [.par 0 1 (.p1 .abs (.var 0)) (.p1 .abs (.var 1)), .while_ (.val (.var 1)) [.par 0 1 (.var 1) (.p2 .mod (.var 0) (.var 1))], .ret (.var 0)]
/-- reduced: 0 row 1 part 2 number -/
def reduced : List S := [.set 1 (.int 0), .for_ (.nm 2) .val [.var 0] [.set 1 (.call "common" [.var 1, .var 2])], .ret (.comp (.p2 .fdiv (.var 2) (.p2 .max (.int 1) (.var 1))) (.nm 2) .val [.var 0] none [("number", 2)])]
/-- can_all: 0 machine 1 lots 2 known 3 moved 4 stands 5 place 6 later 7 letter 8 other -/
def can_all : List S := [.set 2 (.comp (.p2 .eq (.p1 .len (.var 4)) (.int 1)) (.nm 4) .val [.var 1] none [("stands", 4)]), .set 3 (.bl true), .while_ (.val (.var 3)) [.set 3 (.bl false), .for_ (.tup [.nm 5, .nm 4]) .enum [.var 1] [.ite (.not (.val (.p2 .idx (.var 2) (.var 5)))) [.set 6 (.comp (.index (.var 1) (.call "led" [.var 0, .var 4, .var 7])) (.nm 7) .val [.call "all_letters" [.var 0]] none [("letter", 7)]), .ite (.val (.comp (.var 8) (.nm 8) .val [.var 6] (some (.val (.p2 .idx (.var 2) (.var 8)))) [("other", 8)])) [.setI (.var 2) (.var 5) (.bl true), .set 3 (.bl true)] []] []]], .ret (.p2 .notin (.bl false) (.var 2))]
/-- least_by: 0 machine 1 kept 2 found 3 letter 4 later 5 stand 6 own 7 many 8 new -/
def least_by : List S := [.set 2 (.dcomp false (.var 5) (.int 0) (.nm 5) .val [.call "reached_by" [.var 0]] none [("stand", 5)]), .for_ (.nm 3) .val [.var 1] [.set 4 (.dnew false), .for_ (.nm 5) .val [.var 2] [.for_ (.nm 6) .val [.call "all_letters" [.var 0]] [.set 7 (.p2 .add (.p2 .idx (.var 2) (.var 5)) (.p1 .int (.and (.p1 .notNone (.var 3)) (.p2 .ne (.var 3) (.var 6))))), .set 8 (.p2 .idx (.p2 .idx (.fld (.var 0) "Machine" "held") (.var 5)) (.var 6)), .ite (.or (.cmp .notin (.var 8) (.var 4)) (.cmp .lt (.var 7) (.p2 .idx (.var 4) (.var 8)))) [.setI (.var 4) (.var 8) (.var 7)] []]], .set 2 (.var 4)], .ret (.var 2)]
/-- stands_if_wrong: 0 machine 1 kept 2 wrong 3 found 4 stand -/
def stands_if_wrong : List S := [.expr (.call "check_machine" [.var 0]), .expr (.call "check_kept" [.var 0, .var 1]), .expr (.call "check_number" [.var 2, .int 0, .gint "MOST_WRONG" 40]), .set 3 (.call "least_by" [.var 0, .var 1]), .ret (.p1 .sorted (.comp (.var 4) (.nm 4) .val [.var 3] (some (.cmp .le (.p2 .idx (.var 3) (.var 4)) (.var 2))) [("stand", 4)]))]
/-- least_wrong: 0 machine 1 kept 2 stand -/
def least_wrong : List S := [.expr (.call "check_machine" [.var 0]), .expr (.call "check_kept" [.var 0, .var 1]), .expr (.call "check_stand" [.var 0, .var 2]), .ret (.get (.call "least_by" [.var 0, .var 1]) (.var 2) .non)]
/-- check_two: 0 one 1 other -/
def check_two : List S := [.expr (.call "check_machine" [.var 0]), .expr (.call "check_machine" [.var 1]), .ite (.cmp .ne (.p1 .len (.p2 .idx (.fld (.var 0) "Machine" "held") (.int 0))) (.p1 .len (.p2 .idx (.fld (.var 1) "Machine" "held") (.int 0)))) [.raise "NotAlike" [] []] []]
/-- both_rows: 0 one 1 other 2 found 3 waiting 4 later 5 pair 6 letter 7 new -/
def both_rows : List S := [.set 2 (.d1 true (.tup [.int 0, .int 0]) (.tup [])), .set 3 (.lst [.tup [.int 0, .int 0]]), .while_ (.val (.var 3)) [.set 4 (.lst []), .for_ (.nm 5) .val [.var 3] [.for_ (.nm 6) .val [.call "all_letters" [.var 0]] [.set 7 (.tup [.p2 .idx (.p2 .idx (.fld (.var 0) "Machine" "held") (.p2 .idx (.var 5) (.int 0))) (.var 6), .p2 .idx (.p2 .idx (.fld (.var 1) "Machine" "held") (.p2 .idx (.var 5) (.int 1))) (.var 6)]), .ite (.cmp .notin (.var 7) (.var 2)) [.setI (.var 2) (.var 7) (.p2 .add (.p2 .idx (.var 2) (.var 5)) (.tup [.var 6])), .expr (.app (.var 4) (.var 7))] []]], .set 3 (.p1 .list (.var 4))], .ret (.var 2)]
/-- both_reached: 0 one 1 other -/
def both_reached : List S := [.expr (.call "check_two" [.var 0, .var 1]), .ret (.p1 .sortD (.p1 .list (.call "both_rows" [.var 0, .var 1])))]
/-- both_behind: 0 one 1 other 2 kept 3 pairs 4 letter 5 later 6 pair 7 own -/
def both_behind : List S := [.expr (.call "check_two" [.var 0, .var 1]), .expr (.call "check_kept" [.var 0, .var 2]), .set 3 (.p1 .sortD (.p1 .list (.call "both_rows" [.var 0, .var 1]))), .for_ (.nm 4) .val [.var 2] [.set 5 (.dnew true), .for_ (.nm 6) .val [.var 3] [.for_ (.nm 7) .val [.call "ways_of" [.var 0, .var 4]] [.setI (.var 5) (.tup [.p2 .idx (.p2 .idx (.fld (.var 0) "Machine" "held") (.p2 .idx (.var 6) (.int 0))) (.var 7), .p2 .idx (.p2 .idx (.fld (.var 1) "Machine" "held") (.p2 .idx (.var 6) (.int 1))) (.var 7)]) (.bl true)]], .set 3 (.p1 .sortD (.p1 .list (.var 5)))], .ret (.var 3)]
/-- untold_by: 0 one 1 other 2 rows 3 known 4 pair -/
def untold_by : List S := [.set 2 (.call "both_rows" [.var 0, .var 1]), .set 3 (.dnew false), .for_ (.nm 4) .val [.p1 .sortD (.p1 .list (.var 2))] [.ite (.cmp .inn (.p2 .idx (.var 4) (.int 0)) (.var 3)) [.ret (.tup [.p2 .idx (.var 2) (.p2 .idx (.var 3) (.p2 .idx (.var 4) (.int 0))), .p2 .idx (.var 2) (.var 4)])] [], .setI (.var 3) (.p2 .idx (.var 4) (.int 0)) (.var 4)], .ret .non]
/-- tells_other: 0 one 1 other -/
def tells_other : List S := [.expr (.call "check_two" [.var 0, .var 1]), .ret (.p1 .isNone (.call "untold_by" [.var 0, .var 1]))]
/-- untold_rows: 0 one 1 other -/
def untold_rows : List S := [.expr (.call "check_two" [.var 0, .var 1]), .ret (.call "untold_by" [.var 0, .var 1])]
end TL.A

set_option Elab.async false
set_option linter.all false
set_option maxRecDepth 100000
set_option maxHeartbeats 4000000
/-! LSA: what the defs of machines do. -/
namespace TL
open PySem PySem.Spec PyProof.Rows L2
local macro_rules | `(tactic| push_cast [$a,*] $[$loc]?) => `(tactic| simp only [$a,*, isEmpty_conc, List.isEmpty_nil, List.isEmpty_cons, List.getLast?_concat, List.dropLast_concat, Option.bind_some, Option.map_some, and_self, and_true, true_and, bodyW, bodyF, wipeS, backS, unown, List.getD_cons_succ, List.getD_cons_zero, W_bind, W_ok, W_ex, r_ok, r_ex, slots0, List.map_cons, List.map_nil, List.length_cons, List.length_nil, List.replicate_succ, List.replicate_zero, List.cons_append, List.nil_append, List.getElem?_cons_succ, List.getElem?_cons_zero, List.set_cons_succ, List.set_cons_zero, if_true, if_false, Bool.false_eq_true, Bool.not_true, Bool.not_false, Nat.reduceAdd, Nat.reduceSub, Nat.reduceLT, Nat.reduceLeDiff, varR_own, varR_fz, pkR_own, pkR_fz, mvR_own, mvR_fz, slV_own, slV_fz, optR_some, x_var, m_var, p_var, jn_some, rd_obj, rd_bor, rd_non, rd_bl, rd_int, rd_str, rd_tup, rd_lst, rd_dct, rd_ins, x_int, x_str, x_bl, x_non, x_gint, x_dnew, p_p1, p_p2, p_int, p_str, p_bl, p_non, p_gint, p_cut, p_and, p_or, p_not, p_ife, p_chain, p_tup, p_lst, p_dnew, p_call, p_make, p_fld, p_get, p_index, p_comp, m_p1, m_p2, m_int, m_str, m_bl, m_non, m_gint, m_cut, m_and, m_or, m_not, m_ife, m_chain, m_tup, m_lst, m_dnew, m_call, m_make, m_fld, m_get, m_index, p_dcomp, m_dcomp, m_comp, m_d1, m_nobj, m_isC, m_pop, p_isC, p_pop, p_d1, x_p1, x_p2, x_cut, x_and, x_or, andR_t, andR_f, orR_f, orR_t, x_not, x_ife, x_tup, x_lst, x_d1, x_nobj, x_call, ofFR_ok, ofFR_ex, mkR_f, mkR_t, mkI_some, x_make, x_fld, fldR_ins, isCR_ins, isCR_tup, isCR_lst, isCR_int, isCR_non, isCR_bl, isCR_str, isCR_dct, x_isC, x_get, getRV_d, idxRV_l, x_index0, x_index, x_app, x_ext, extR_l, x_pop, put_bor, putLR_own, putLX_some, put_obj, putOR_l, putOX_some, chk_d, chk_l, isLs_l, isDc_d, puti_bor, putIR_own, putCV_some, puti_obj, putIO_some, putC_l, putC_d, del_bor, delR_own, st_del, putf_obj, putFR_ins, pF_nil, pF_eq, xs_nil, xs_cons, xo_none, xo_some, xoR_int, t_and, t_or, t_not, t_cmp, tR_some, t_isN, x_chain, chR_int, chX_int, t_chn, t_val, s_nil, s_cons, seq_nx, seq_ret, seq_brk, st_set, setV_ok, st_par, st_unpack2, st_unpack, tgR_some, st_setI, st_setF, st_aug, augR_fz, augY_int, augX_some, st_augI, idxL_l, addI_i, st_expr, st_ite, st_for, st_while, st_ret, st_retN, st_brk, st_pass, st_raise, st_try, try_ok, st_kill, tg_nm, tg2, tg2a, p_lend, m_lend, p_prop, m_prop, p_lenC, m_lenC, p_eqC, m_eqC, x_prop, propR_ins, x_lenC, lenX_ins, ofFN_ok2, boolR_bl, x_eqC, blT_bl, t_eqC, eqOk_i, eqOk_t, q_len_l, q_len_t, q_len_d, q_sum, q_sum_t, q_list_l, q_list_t, q_list_d, q_tuple_l, q_tuple_t, q_sorted, q_max, q_min, q_int_i, q_int_b, q_abs, q_neg, q_isNone, q_notNone, q_isInt_i, q_isBool_i, q_isTuple_t, q_isList_l, q_add_i, q_sub, q_gt, q_le, q_ge, q_rev, q_isLT_l, q_isLT_t, q_isLT_n, q_max2, q_min2, bM_s, nM_s, vM_s, q_eq, q_ne, q_lt, q_in_l, q_in_t, kM_s, q_in_d, q_nin_l, q_nin_t, q_nin_d, q_idx_l, q_idx_t, q_idx_d, q_tr_bl, q_tr_int, q_tr_non, q_tr_tup, q_tr_lst, q_tr_dct, at_0, at_1, at_2, w_lst, w_tup, w_dct, w_enum_l, w_enum_t, w_rev_l, w_rev_t, key_i, vk_num, vk_kT, vk_kP, key_t, key_p, e_int, e_tup, e_lst, e_pair, e_rows, e_tab, n_int, n_tup, e_nn, e_tt, e_cn, e_ct, e_nil_l, e_nil_t, l_int, l_tup, q_minT, q_sortD, lM_s, min_rows] $[$loc]?)
abbrev Fn1 := List Val → List (Option Val) → FR
abbrev machV (t : List (List Int)) : Val := .ins "Machine" [("held", .tup (t.map tupI))]
def Sp_is_from (φ : Fn1) : Prop := ∀ (i lo hi : Int) w, φ [.int i, .int lo, .int hi] w = .ok (.bl (decide (lo ≤ i ∧ i ≤ hi))) false w
theorem ok_is_from {Φ : Fns} : Sp_is_from (runDef Φ 3 A.is_from) := fun i lo hi w => by
  push_cast [runDef, A.is_from]
  by_cases h : lo ≤ i
  · push_cast [h, true_and]
  · push_cast [h, false_and, decide_false]
def Sp_is_stand_row (φ : Fn1) : Prop := ∀ (r : List Int) (n : Int) w, 1 ≤ r.length → r.length ≤ 4 → (∀ x ∈ r, 0 ≤ x ∧ x < n) → φ [.tup (r.map .int), .int n] w = .ok (.bl true) false w
theorem ok_is_stand_row {Φ : Fns} (h1 : Sp_is_from (Φ "is_from")) : Sp_is_stand_row (runDef Φ 3 A.is_stand_row) := fun r n w l1 l4 hr => by
  refine FW_eq (run_W ?_)
  have e1 : (1 : Int) ≤ (r.length : Int) := by omega
  have e2 : (r.length : Int) ≤ 4 := by omega
  push_cast [A.is_stand_row, List.length_map, e1, e2, decide_true]
  refine forL_W (fun d r' s => ∃ j, s = ⟨[.fz (.tup (r.map .int)), .fz (.int n), j], w⟩) ⟨_, rfl⟩ ?_ ?_
  · rintro d x r' _ e ⟨j, rfl⟩
    have hx := hr x (by rw [e]; simp)
    have e3 : 0 ≤ x ∧ x ≤ n - 1 := by omega
    refine ⟨_, tg_nm (by simp), ?_⟩
    push_cast [h1 _ _ _ _, e3, and_self, decide_true]
    exact ⟨_, rfl⟩
  · rintro _ ⟨j, rfl⟩
    push_cast [r_ok]
def Sp_Machine (φ : Fn1) : Prop := ∀ (t : List (List Int)) (m o : Nat) (w : List (Option Val)), TOk t m → w[o]? = some (some (.ins "Machine" [])) → φ [.obj o, .tup (t.map tupI)] w = .ok .non false (w.set o (some (machV t)))
theorem mem_enumI {α : Type} {p : Int × α} : ∀ {xs : List α} {i : Int}, p ∈ enumI i xs → p.2 ∈ xs ∧ i ≤ p.1 ∧ p.1 < i + xs.length
  | x :: xs, i, h => by
    rcases List.mem_cons.mp h with e | e
    · subst e; simp; omega
    · have := mem_enumI e
      simp only [List.mem_cons, List.length_cons]
      exact ⟨.inr this.1, by omega, by omega⟩
theorem ok_Machine {Φ : Fns} (h1 : Sp_is_stand_row (Φ "is_stand_row")) : Sp_Machine (runDef Φ 4 A.Machine_init) := fun t m o w ht ho => by
  refine FW_eq (run_W ?_)
  have e1 : (1 : Int) ≤ (t.length : Int) := by have := ht.n1; omega
  have e2 : (t.length : Int) ≤ 6 := by have := ht.n6; omega
  push_cast [A.Machine_init, List.length_map, e1, e2, decide_true]
  rw [enumV_map]
  refine forL_W (fun d r' s => ∃ j k, s = ⟨[.fz (.obj o), .fz (.tup (t.map tupI)), j, k], w⟩) ⟨_, _, rfl⟩ ?_ ?_
  · rintro d ⟨i, r⟩ r' _ e ⟨j, k, rfl⟩
    have hr : r ∈ t := (mem_enumI (p := (i, r)) (xs := t) (i := 0) (by rw [e]; simp)).1
    have hn : (t.length : Int) > 0 := by omega
    have h0 := at_row (t := t) (s := 0) (by omega) (by omega)
    have hm := ht.len0
    have m1 := ht.m1
    have m4 := ht.m4
    have hl := ht.row r hr
    refine ⟨_, tg2 (by simp) (by simp), ?_⟩
    push_cast [tupI_eq, h1 _ _ _ (by rw [hl]; exact m1) (by rw [hl]; exact m4) (ht.ent r hr), h0, List.length_map, Int.toNat_zero, hm, hl, e_int]
    exact ⟨_, _, rfl⟩
  · rintro _ ⟨j, k, rfl⟩
    push_cast [ho, putFR_ins (fs := []) (by decide)]
def Sp_check_machine (φ : Fn1) : Prop := ∀ (t : List (List Int)) w, φ [machV t] w = .ok .non false w
theorem ok_check_machine {Φ : Fns} : Sp_check_machine (runDef Φ 1 A.check_machine) := fun t w => by
  push_cast [runDef, A.check_machine]
def Sp_check_number (φ : Fn1) : Prop := ∀ (i lo hi : Int) w, lo ≤ i → i ≤ hi → φ [.int i, .int lo, .int hi] w = .ok .non false w
theorem ok_check_number {Φ : Fns} (h1 : Sp_is_from (Φ "is_from")) : Sp_check_number (runDef Φ 3 A.check_number) := fun i lo hi w e1 e2 => by
  push_cast [runDef, A.check_number, h1 _ _ _ _, e1, e2, and_self, decide_true]
def Sp_all_letters (φ : Fn1) : Prop := ∀ (t : List (List Int)) (m : Nat) w, TOk t m → φ [machV t] w = .ok (.lst ((rangeI 0 m).map .int)) true w
theorem ok_all_letters {Φ : Fns} : Sp_all_letters (runDef Φ 1 A.all_letters) := fun t m w ht => by
  refine FW_eq (run_W ?_)
  have h0 := at_row (t := t) (s := 0) (by omega) (by have := ht.n1; omega)
  have m4 := ht.m4
  push_cast [A.all_letters, h0]
  push_cast [tupI_eq, Int.toNat_zero, List.length_map, ht.len0]
  rw [q_lrange (i := m) (by omega) (by omega)]
  push_cast [r_ok]
  rw [intRange_eq, Int.toNat_natCast]
def Sp_led (φ : Fn1) : Prop := ∀ (t : List (List Int)) (m : Nat) (S : List Int) (a : Int) w, TOk t m → (∀ s ∈ S, IsS t s) → S.length ≤ 6 → IsL m a →
  φ [machV t, .tup (S.map .int), .int a] w = .ok (.tup ((ledI t S a).map .int)) false w ∧ φ [machV t, .lst (S.map .int), .int a] w = .ok (.tup ((ledI t S a).map .int)) false w
theorem ok_led {Φ : Fns} : Sp_led (runDef Φ 4 A.led) := fun t m S a w ht hS hl ha => by
  have key : ∀ (v : Val), (v = .tup (S.map .int) ∨ v = .lst (S.map .int)) → runDef Φ 4 A.led [machV t, v, .int a] w = .ok (.tup ((ledI t S a).map .int)) false w := fun v hv => by
    have hw : walk .val [v] = some (S.map .int) := by rcases hv with rfl | rfl <;> rfl
    have hu : (usort (S.map fun s => go t s a)).length < 64 := by
      have := srtS_len ht (ledI_srt (t := t) (S := S) (a := a)) (ledI_is ht hS ha)
      unfold ledI at this
      omega
    refine FW_eq (run_W ?_)
    push_cast [A.led]
    refine W_comp_map S .int (fun s => .int (go t s a)) ?_
    push_cast [r_ok]
    refine ⟨hw, by rw [sz]; omega, fun x hx => ?_, ?_⟩
    · obtain ⟨h1, h2⟩ := hS x hx
      push_cast [at_row h1 h2, tupI_eq, at_go ht h1 h2 ha.1 ha.2, tg_nm]
    · have := q_sset (ns := S.map fun s => go t s a) (by simp; omega) hu
      rw [List.map_map] at this
      simp only [Function.comp_def] at this
      push_cast [this]
      trivial
  exact ⟨key _ (.inl rfl), key _ (.inr rfl)⟩
end TL

set_option Elab.async false
set_option linter.all false
set_option maxRecDepth 100000
set_option maxHeartbeats 4000000
/-! LSB: the stands that are reached. -/
namespace TL
open PySem PySem.Spec PyProof.Rows L2
local macro_rules | `(tactic| push_cast [$a,*] $[$loc]?) => `(tactic| simp only [$a,*, isEmpty_conc, List.isEmpty_nil, List.isEmpty_cons, List.getLast?_concat, List.dropLast_concat, Option.bind_some, Option.map_some, and_self, and_true, true_and, bodyW, bodyF, wipeS, backS, unown, List.getD_cons_succ, List.getD_cons_zero, W_bind, W_ok, W_ex, r_ok, r_ex, slots0, List.map_cons, List.map_nil, List.length_cons, List.length_nil, List.replicate_succ, List.replicate_zero, List.cons_append, List.nil_append, List.getElem?_cons_succ, List.getElem?_cons_zero, List.set_cons_succ, List.set_cons_zero, if_true, if_false, Bool.false_eq_true, Bool.not_true, Bool.not_false, Nat.reduceAdd, Nat.reduceSub, Nat.reduceLT, Nat.reduceLeDiff, varR_own, varR_fz, pkR_own, pkR_fz, mvR_own, mvR_fz, slV_own, slV_fz, optR_some, x_var, m_var, p_var, jn_some, rd_obj, rd_bor, rd_non, rd_bl, rd_int, rd_str, rd_tup, rd_lst, rd_dct, rd_ins, x_int, x_str, x_bl, x_non, x_gint, x_dnew, p_p1, p_p2, p_int, p_str, p_bl, p_non, p_gint, p_cut, p_and, p_or, p_not, p_ife, p_chain, p_tup, p_lst, p_dnew, p_call, p_make, p_fld, p_get, p_index, p_comp, m_p1, m_p2, m_int, m_str, m_bl, m_non, m_gint, m_cut, m_and, m_or, m_not, m_ife, m_chain, m_tup, m_lst, m_dnew, m_call, m_make, m_fld, m_get, m_index, p_dcomp, m_dcomp, m_comp, m_d1, m_nobj, m_isC, m_pop, p_isC, p_pop, p_d1, x_p1, x_p2, x_cut, x_and, x_or, andR_t, andR_f, orR_f, orR_t, x_not, x_ife, x_tup, x_lst, x_d1, x_nobj, x_call, ofFR_ok, ofFR_ex, mkR_f, mkR_t, mkI_some, x_make, x_fld, fldR_ins, isCR_ins, isCR_tup, isCR_lst, isCR_int, isCR_non, isCR_bl, isCR_str, isCR_dct, x_isC, x_get, getRV_d, idxRV_l, x_index0, x_index, x_app, x_ext, extR_l, x_pop, put_bor, putLR_own, putLX_some, put_obj, putOR_l, putOX_some, chk_d, chk_l, isLs_l, isDc_d, puti_bor, putIR_own, putCV_some, puti_obj, putIO_some, putC_l, putC_d, del_bor, delR_own, st_del, putf_obj, putFR_ins, pF_nil, pF_eq, xs_nil, xs_cons, xo_none, xo_some, xoR_int, t_and, t_or, t_not, t_cmp, tR_some, t_isN, x_chain, chR_int, chX_int, t_chn, t_val, s_nil, s_cons, seq_nx, seq_ret, seq_brk, st_set, setV_ok, st_par, st_unpack2, st_unpack, tgR_some, st_setI, st_setF, st_aug, augR_fz, augY_int, augX_some, st_augI, idxL_l, addI_i, st_expr, st_ite, st_for, st_while, st_ret, st_retN, st_brk, st_pass, st_raise, st_try, try_ok, st_kill, tg_nm, tg2, tg2a, p_lend, m_lend, p_prop, m_prop, p_lenC, m_lenC, p_eqC, m_eqC, x_prop, propR_ins, x_lenC, lenX_ins, ofFN_ok2, boolR_bl, x_eqC, blT_bl, t_eqC, eqOk_i, eqOk_t, q_len_l, q_len_t, q_len_d, q_sum, q_sum_t, q_list_l, q_list_t, q_list_d, q_tuple_l, q_tuple_t, q_sorted, q_max, q_min, q_int_i, q_int_b, q_abs, q_neg, q_isNone, q_notNone, q_isInt_i, q_isBool_i, q_isTuple_t, q_isList_l, q_add_i, q_sub, q_gt, q_le, q_ge, q_rev, q_isLT_l, q_isLT_t, q_isLT_n, q_max2, q_min2, bM_s, nM_s, vM_s, q_eq, q_ne, q_lt, q_in_l, q_in_t, kM_s, q_in_d, q_nin_l, q_nin_t, q_nin_d, q_idx_l, q_idx_t, q_idx_d, q_tr_bl, q_tr_int, q_tr_non, q_tr_tup, q_tr_lst, q_tr_dct, at_0, at_1, at_2, w_lst, w_tup, w_dct, w_enum_l, w_enum_t, w_rev_l, w_rev_t, key_i, vk_num, vk_kT, vk_kP, key_t, key_p, e_int, e_tup, e_lst, e_pair, e_rows, e_tab, n_int, n_tup, e_nn, e_tt, e_cn, e_ct, e_nil_l, e_nil_t, l_int, l_tup, q_minT, q_sortD, lM_s, min_rows] $[$loc]?)
def Sp_stands_from (φ : Fn1) : Prop := ∀ (t : List (List Int)) (m : Nat) (s : Int) (ls : List Int) w, TOk t m → IsS t s → (∀ a ∈ ls, IsL m a) →
  φ [machV t, .int s, .lst (ls.map .int)] w = .ok (.lst ((closI t ls s).map .int)) true w
/-- found stands, and those that wait -/
structure WL (t : List (List Int)) (ls : List Int) (s : Int) (F W X : List Int) : Prop where
  nd : F.Nodup
  re : ∀ x ∈ F, Reach t ls s x
  sF : s ∈ F
  sub : ∀ x ∈ W, x ∈ F
  cl : ∀ x ∈ F, x ∈ W ∨ x ∈ X ∨ ∀ a ∈ ls, go t x a ∈ F
theorem WL.len {t : List (List Int)} {m : Nat} {ls : List Int} {s : Int} {F W X : List Int} (h : WL t ls s F W X) (ht : TOk t m) (hs : IsS t s) (hl : ∀ a ∈ ls, IsL m a) : F.length ≤ t.length := nodup_len h.nd fun x hx => (h.re x hx).is ht hl hs
/-- at the end all is found -/
theorem WL.fin {t : List (List Int)} {m : Nat} {ls : List Int} {s : Int} {F : List Int} (h : WL t ls s F [] []) (ht : TOk t m) (hs : IsS t s) (hl : ∀ a ∈ ls, IsL m a) : isort F = closI t ls s := by
  rw [isort_eq h.nd]
  refine srt_ext (usort_srt _) closI_srt fun x => ?_
  rw [mem_usort, mem_closI ht hl hs]
  constructor
  · exact h.re x
  · intro r
    induction r with
    | here => exact h.sF
    | next r ha ih => exact ((h.cl _ ih).resolve_left (by simp)).resolve_left (by simp) _ ha
theorem ok_stands_from {Φ : Fns} : Sp_stands_from (runDef Φ 8 A.stands_from) := fun t m s ls w ht hs hl => by
  refine FW_eq (run_W ?_)
  have n6 := ht.n6
  have h1 : (1 : Nat) ≤ sizeLine := by rw [sz]; omega
  push_cast [A.stands_from, h1]
  refine whileN_W (α := List Int × List Int) (fun a s' => ∃ j5 j6 j7, s' = ⟨[.fz (machV t), .fz (.int s), .fz (.lst (ls.map .int)), .own (.dct false (dS .num a.1)), .own (.lst (a.2.map .int)), j5, j6, j7], w⟩ ∧ WL t ls s a.1 a.2 [] ∧ 2 * (t.length - a.1.length) + a.2.length ≤ 12) (fun a => 2 * (t.length - a.1.length) + a.2.length) ?_ _ ([s], [s]) _ ⟨_, _, _, rfl, ?_⟩ (by rw [fu]; simp; omega)
  rotate_left
  · exact ⟨⟨by simp, by simp; exact .here, by simp, by simp, by simp⟩, by simp; omega⟩
  rintro ⟨F, Wt⟩ _ ⟨j5, j6, j7, rfl, inv, hb⟩
  rcases List.eq_nil_or_concat Wt with rfl | ⟨W0, h, rfl⟩
  · push_cast [List.isEmpty_nil]
    push_cast [dS_keys, vk_num, inv.fin ht hs hl]
  have hhF : h ∈ F := inv.sub h (by simp)
  have hh := (inv.re h hhF).is ht hl hs
  push_cast [List.concat_eq_append, List.map_append]
  refine forL_W (fun d r s' => ∃ F' W' j6 j7, s' = ⟨[.fz (machV t), .fz (.int s), .fz (.lst (ls.map .int)), .own (.dct false (dS .num F')), .own (.lst (W'.map .int)), .fz (.int h), j6, j7], w⟩ ∧ WL t ls s F' W' [h] ∧ h ∈ F' ∧ (∀ a ∈ d, go t h a ∈ F') ∧ 2 * (t.length - F'.length) + W'.length < 2 * (t.length - F.length) + (W0 ++ [h]).length) ⟨F, W0, _, _, rfl, ?_, hhF, by simp, by simp⟩ ?_ ?_
  · refine ⟨inv.nd, inv.re, inv.sF, fun x hx => inv.sub x (by simp [hx]), fun x hx => ?_⟩
    rcases inv.cl x hx with e | e | e
    · simp at e
      rcases e with e | e
      · exact .inl e
      · exact .inr (.inl (by simp [e]))
    · cases e
    · exact .inr (.inr e)
  · rintro d a r _ e ⟨F', W', j6, j7, rfl, inv', hF', hd, hm⟩
    have ha : IsL m a := hl a (by rw [e]; simp)
    have hlen := inv'.len ht hs hl
    refine ⟨_, tg_nm (by simp), ?_⟩
    push_cast [at_row hh.1 hh.2, tupI_eq, at_go ht hh.1 hh.2 ha.1 ha.2, dS_in num_inj]
    by_cases hn : go t h a ∈ F'
    · push_cast [hn, decide_true]
      refine ⟨F', W', _, _, rfl, inv', hF', fun b hb => ?_, hm⟩
      rcases List.mem_append.mp hb with hb | hb
      · exact hd b hb
      · simp at hb; rw [hb]; exact hn
    · have h2 : (dS NestedKey.num F').length < sizeLine := by rw [dS_len, sz]; omega
      have hF2 : (F' ++ [go t h a]).Nodup := by
        rw [List.nodup_append]
        exact ⟨inv'.nd, by simp, fun x hx y hy => by simp at hy; rintro rfl; rw [hy] at hx; exact hn hx⟩
      have inv2 : WL t ls s (F' ++ [go t h a]) (W' ++ [go t h a]) [h] := by
        refine ⟨hF2, fun x hx => ?_, by simp [inv'.sF], fun x hx => ?_, fun x hx => ?_⟩
        · rcases List.mem_append.mp hx with hx | hx
          · exact inv'.re x hx
          · simp at hx; rw [hx]; exact .next (inv'.re h hF') (by rw [e]; simp)
        · rcases List.mem_append.mp hx with hx | hx
          · exact List.mem_append_left _ (inv'.sub x hx)
          · exact List.mem_append_right _ hx
        · rcases List.mem_append.mp hx with hx | hx
          · rcases inv'.cl x hx with q | q | q
            · exact .inl (List.mem_append_left _ q)
            · exact .inr (.inl q)
            · exact .inr (.inr fun b hb => List.mem_append_left _ (q b hb))
          · exact .inl (List.mem_append_right _ hx)
      have hlen2 := inv2.len ht hs hl
      simp only [List.concat_eq_append, List.length_append, List.length_cons, List.length_nil] at hlen2 hm hb
      have hW : W'.length < sizeLine := by rw [sz]; omega
      push_cast [hn, decide_false, h2, dS_put num_inj, List.length_map, hW]
      refine ⟨F' ++ [go t h a], W' ++ [go t h a], _, _, by rw [List.map_append]; rfl, inv2, List.mem_append_left _ hF', fun b hb => ?_, ?_⟩
      · rcases List.mem_append.mp hb with hb | hb
        · exact List.mem_append_left _ (hd b hb)
        · simp at hb; rw [hb]; simp
      · simp only [List.length_append, List.length_cons, List.length_nil]
        omega
  · rintro _ ⟨F', W', j6, j7, rfl, inv', hF', hd, hm⟩
    simp only [List.concat_eq_append] at hb
    refine ⟨(F', W'), by simpa using hm, _, _, _, rfl, ⟨inv'.nd, inv'.re, inv'.sF, inv'.sub, fun x hx => ?_⟩, by simp only; omega⟩
    rcases inv'.cl x hx with q | q | q
    · exact .inl q
    · simp at q; rw [q]; exact .inr (.inr hd)
    · exact .inr (.inr q)
def Sp_reached_by (φ : Fn1) : Prop := ∀ (t : List (List Int)) (m : Nat) w, TOk t m → φ [machV t] w = .ok (.lst ((reachI t m).map .int)) true w
theorem ok_reached_by {Φ : Fns} (h1 : Sp_stands_from (Φ "stands_from")) (h2 : Sp_all_letters (Φ "all_letters")) : Sp_reached_by (runDef Φ 1 A.reached_by) := fun t m w ht => by
  refine FW_eq (run_W ?_)
  push_cast [A.reached_by, h2 t m _ ht, h1 t m 0 _ _ ht ⟨by omega, by have := ht.n1; omega⟩ letters_is]
  trivial
end TL

set_option Elab.async false
set_option linter.all false
set_option maxRecDepth 100000
set_option maxHeartbeats 4000000
/-! LSC: the laws' source of draws, and their tables. -/
namespace TL
open PySem PySem.Spec PyProof.Rows L2
local macro_rules | `(tactic| push_cast [$a,*] $[$loc]?) => `(tactic| simp only [$a,*, isEmpty_conc, List.isEmpty_nil, List.isEmpty_cons, List.getLast?_concat, List.dropLast_concat, Option.bind_some, Option.map_some, and_self, and_true, true_and, bodyW, bodyF, wipeS, backS, unown, List.getD_cons_succ, List.getD_cons_zero, W_bind, W_ok, W_ex, r_ok, r_ex, slots0, List.map_cons, List.map_nil, List.length_cons, List.length_nil, List.replicate_succ, List.replicate_zero, List.cons_append, List.nil_append, List.getElem?_cons_succ, List.getElem?_cons_zero, List.set_cons_succ, List.set_cons_zero, if_true, if_false, Bool.false_eq_true, Bool.not_true, Bool.not_false, Nat.reduceAdd, Nat.reduceSub, Nat.reduceLT, Nat.reduceLeDiff, varR_own, varR_fz, pkR_own, pkR_fz, mvR_own, mvR_fz, slV_own, slV_fz, optR_some, x_var, m_var, p_var, jn_some, rd_obj, rd_bor, rd_non, rd_bl, rd_int, rd_str, rd_tup, rd_lst, rd_dct, rd_ins, x_int, x_str, x_bl, x_non, x_gint, x_dnew, p_p1, p_p2, p_int, p_str, p_bl, p_non, p_gint, p_cut, p_and, p_or, p_not, p_ife, p_chain, p_tup, p_lst, p_dnew, p_call, p_make, p_fld, p_get, p_index, p_comp, m_p1, m_p2, m_int, m_str, m_bl, m_non, m_gint, m_cut, m_and, m_or, m_not, m_ife, m_chain, m_tup, m_lst, m_dnew, m_call, m_make, m_fld, m_get, m_index, p_dcomp, m_dcomp, m_comp, m_d1, m_nobj, m_isC, m_pop, p_isC, p_pop, p_d1, x_p1, x_p2, x_cut, x_and, x_or, andR_t, andR_f, orR_f, orR_t, x_not, x_ife, x_tup, x_lst, x_d1, x_nobj, x_call, ofFR_ok, ofFR_ex, mkR_f, mkR_t, mkI_some, x_make, x_fld, fldR_ins, isCR_ins, isCR_tup, isCR_lst, isCR_int, isCR_non, isCR_bl, isCR_str, isCR_dct, x_isC, x_get, getRV_d, idxRV_l, x_index0, x_index, x_app, x_ext, extR_l, x_pop, put_bor, putLR_own, putLX_some, put_obj, putOR_l, putOX_some, chk_d, chk_l, isLs_l, isDc_d, puti_bor, putIR_own, putCV_some, puti_obj, putIO_some, putC_l, putC_d, del_bor, delR_own, st_del, putf_obj, putFR_ins, pF_nil, pF_eq, xs_nil, xs_cons, xo_none, xo_some, xoR_int, t_and, t_or, t_not, t_cmp, tR_some, t_isN, x_chain, chR_int, chX_int, t_chn, t_val, s_nil, s_cons, seq_nx, seq_ret, seq_brk, st_set, setV_ok, st_par, st_unpack2, st_unpack, tgR_some, st_setI, st_setF, st_aug, augR_fz, augY_int, augX_some, st_augI, idxL_l, addI_i, st_expr, st_ite, st_for, st_while, st_ret, st_retN, st_brk, st_pass, st_raise, st_try, try_ok, st_kill, tg_nm, tg2, tg2a, p_lend, m_lend, p_prop, m_prop, p_lenC, m_lenC, p_eqC, m_eqC, x_prop, propR_ins, x_lenC, lenX_ins, ofFN_ok2, boolR_bl, x_eqC, blT_bl, t_eqC, eqOk_i, eqOk_t, q_len_l, q_len_t, q_len_d, q_sum, q_sum_t, q_list_l, q_list_t, q_list_d, q_tuple_l, q_tuple_t, q_sorted, q_max, q_min, q_int_i, q_int_b, q_abs, q_neg, q_isNone, q_notNone, q_isInt_i, q_isBool_i, q_isTuple_t, q_isList_l, q_add_i, q_sub, q_gt, q_le, q_ge, q_rev, q_isLT_l, q_isLT_t, q_isLT_n, q_max2, q_min2, bM_s, nM_s, vM_s, q_eq, q_ne, q_lt, q_in_l, q_in_t, kM_s, q_in_d, q_nin_l, q_nin_t, q_nin_d, q_idx_l, q_idx_t, q_idx_d, q_tr_bl, q_tr_int, q_tr_non, q_tr_tup, q_tr_lst, q_tr_dct, at_0, at_1, at_2, w_lst, w_tup, w_dct, w_enum_l, w_enum_t, w_rev_l, w_rev_t, key_i, vk_num, vk_kT, vk_kP, key_t, key_p, e_int, e_tup, e_lst, e_pair, e_rows, e_tab, n_int, n_tup, e_nn, e_tt, e_cn, e_ct, e_nil_l, e_nil_t, l_int, l_tup, q_minT, q_sortD, lM_s, min_rows] $[$loc]?)
/-- the source of draws stands in the world -/
def HW (w : List (Option Val)) : Prop := ∃ (cs : List Int) (st ix : Int), w[0]? = some (some (.lst (cs.map .int))) ∧ w[1]? = some (some (.lst [.int st, .obj 0, .int ix])) ∧ cs.length ≤ 63
theorem HW.len {w : List (Option Val)} (h : HW w) : 2 ≤ w.length := by
  obtain ⟨cs, st, ix, h0, h1, _⟩ := h
  rcases Nat.lt_or_ge 1 w.length with q | q
  · exact q
  · rw [List.getElem?_eq_none q] at h1; cases h1
theorem HW.app {w : List (Option Val)} (h : HW w) (x : Option Val) : HW (w ++ [x]) := by
  have := h.len
  obtain ⟨cs, st, ix, h0, h1, h2⟩ := h
  exact ⟨cs, st, ix, by rw [List.getElem?_append_left (by omega), h0], by rw [List.getElem?_append_left (by omega), h1], h2⟩
theorem HW.set {w : List (Option Val)} (h : HW w) {i : Nat} (hi : 2 ≤ i) (x : Option Val) : HW (w.set i x) := by
  obtain ⟨cs, st, ix, h0, h1, h2⟩ := h
  exact ⟨cs, st, ix, by rw [List.getElem?_set_ne (by omega), h0], by rw [List.getElem?_set_ne (by omega), h1], h2⟩
def Sp_law_mix (φ : Fn1) : Prop := ∀ (ns : List Int) (seed : Int), ns.length ≤ 63 → ∃ st : Int, φ [.lst (ns.map .int), .int seed] [] = .ok (.lst [.int st, .obj 0, .int 0]) true [some (.lst (ns.map .int))]
theorem ok_law_mix {Φ : Fns} : Sp_law_mix (runDef Φ 4 A.law_mix) := fun ns seed hn => by
  have key : (runDef Φ 4 A.law_mix [.lst (ns.map .int), .int seed] []).W (fun v b w' => ∃ st : Int, v = .lst [.int st, .obj 0, .int 0] ∧ b = true ∧ w' = [some (.lst (ns.map .int))]) noF := by
    refine run_W ?_
    push_cast [A.law_mix]
    refine forL_W (fun d r s' => ∃ (st : Int) (j : Slot), s' = ⟨[.fz (.lst (ns.map .int)), .fz (.int seed), .fz (.int st), j], []⟩) ⟨_, _, rfl⟩ ?_ ?_
    · rintro d x r _ e ⟨st, j, rfl⟩
      refine ⟨_, tg_nm (by simp), ?_⟩
      have h1 : mulOk st 48271 = true := by simp [mulOk]
      push_cast [q_mul h1, q_mod (j := 2147483629) (by decide), q_mod (j := 2147483647) (by decide)]
      exact ⟨_, _, rfl⟩
    · rintro _ ⟨st, j, rfl⟩
      have h3 : (3 : Nat) ≤ sizeLine := by rw [sz]; omega
      push_cast [h3]
      exact ⟨st, rfl⟩
  obtain ⟨v, fr, w, e, st, rfl, rfl, rfl⟩ := FW_get key
  exact ⟨st, e⟩
def Sp_law_next (φ : Fn1) : Prop := ∀ (bd : Int) w, HW w → 1 ≤ bd → bd < 2 ^ 200 → ∃ (v : Int) (w' : List (Option Val)), φ [.obj 1, .int bd] w = .ok (.int v) false w' ∧ 0 ≤ v ∧ v < bd ∧ HW w' ∧ w'.length = w.length ∧ ∀ i, 2 ≤ i → w'[i]? = w[i]?
theorem ok_law_next {Φ : Fns} : Sp_law_next (runDef Φ 4 A.law_next) := fun bd w hw b1 b2 => by
  have hl := hw.len
  obtain ⟨cs, st, ix, h0, h1, hc⟩ := hw
  have key : (runDef Φ 4 A.law_next [.obj 1, .int bd] w).W (fun v b w' => ∃ v' : Int, v = .int v' ∧ b = false ∧ 0 ≤ v' ∧ v' < bd ∧ HW w' ∧ w'.length = w.length ∧ ∀ i, 2 ≤ i → w'[i]? = w[i]?) noF := by
    refine run_W ?_
    have hs1 : (1 : Nat) ≤ sizeLine := by rw [sz]; omega
    have hadd : (cs.map Val.int).length + ([Val.int 0] : List Val).length ≤ sizeLine := by simp [sz]; omega
    push_cast [A.law_next, h0, h1, hs1, List.length_map, q_add_l hadd]
    generalize hM : (if (cs.length : Int) > 1 then (cs.length : Int) else 1) = M
    have hM1 : 0 < M := by rw [← hM]; split <;> omega
    have hM2 : M ≤ cs.length + 1 := by rw [← hM]; split <;> omega
    have hM3 : 0 < cs.length → M = cs.length := by intro h; rw [← hM]; split <;> omega
    have hi0 := Int.emod_nonneg ix (b := M) (by omega)
    have hi1 := Int.emod_lt_of_pos ix hM1
    have e1 : cs.map Val.int ++ [Val.int 0] = (cs ++ [0]).map Val.int := by simp
    rw [e1]
    push_cast [q_mod hM1, at_int (ns := cs ++ [0]) hi0 (by simp; omega)]
    generalize hcell : (cs ++ [0]).getD (ix % M).toNat 0 = cell
    rw [q_pow (i := 10) (j := 18) (by decide)]
    push_cast [h0, h1]
    by_cases hbig : (10 : Int) ^ (18 : Int).toNat ≤ cell
    · have hcs : 0 < cs.length := by
        rcases Nat.eq_zero_or_pos cs.length with h | h
        · exfalso
          have : cs = [] := List.eq_nil_of_length_eq_zero h
          subst this
          have hM' : M = 1 := by rw [← hM]; rfl
          subst hM'
          rw [Int.emod_one] at hcell
          simp at hcell
          subst hcell
          exact absurd hbig (by decide)
        · exact h
      have hME := hM3 hcs
      have hpos : (0 : Int) < (cs.length : Int) := by omega
      push_cast [hbig, decide_true, h0, h1, q_fdiv (i := cell) ⟨(by omega : (0 : Int) < bd), b2⟩, q_mod hpos, List.length_map, q_mod (i := cell) (show (0 : Int) < bd by omega)]
      rw [ixN_of ⟨by rw [← hME]; exact hi0, by rw [← hME]; exact hi1⟩]
      push_cast [q_mod (i := cell) (show (0 : Int) < bd by omega)]
      refine ⟨_, rfl, Int.emod_nonneg _ (by omega), Int.emod_lt_of_pos _ (by omega), ⟨cs.set (ix % (cs.length : Int)).toNat (cell / bd), st, ix, ?_, ?_, by simpa using hc⟩, by simp, fun i hi => ?_⟩
      · rw [List.getElem?_set_self (by omega), List.map_set]
      · rw [List.getElem?_set_ne (by omega), h1]
      · rw [List.getElem?_set_ne (by omega)]
    · have hm1 : mulOk st 48271 = true := by simp [mulOk]
      have hm2 : mulOk cell 69621 = true := by simp [mulOk]
      push_cast [hbig, decide_false, h0, h1, q_mul hm1, q_mul hm2, q_mod (j := 2147483647) (by decide)]
      rw [ixN_of (n := 3) (i := 0) (by decide)]
      generalize hst : (st * 48271 + cell * 69621 + 11) % 2147483647 = st'
      have g1 : ∀ x, (w.set 1 x)[1]? = some x := fun x => by rw [List.getElem?_set_self (by omega)]
      push_cast [Int.toNat_zero, g1]
      rw [ixN_of (n := 3) (i := 2) (by decide)]
      have g2 : ∀ x y, ((w.set 1 x).set 1 y)[1]? = some y := fun x y => by rw [List.getElem?_set_self (by simp; omega)]
      have t2 : (2 : Int).toNat = 2 := rfl
      push_cast [t2, g2, q_fdiv (j := 7) (by decide), q_mod (show (0 : Int) < bd by omega)]
      refine ⟨_, rfl, Int.emod_nonneg _ (by omega), Int.emod_lt_of_pos _ (by omega), ⟨cs, st', ix + 1, ?_, ?_, hc⟩, by simp, fun i hi => ?_⟩
      · rw [List.getElem?_set_ne (by omega), List.getElem?_set_ne (by omega), h0]
      · rw [g2]
      · rw [List.getElem?_set_ne (by omega), List.getElem?_set_ne (by omega)]
  obtain ⟨v, fr, w', e, v', rfl, rfl, r⟩ := FW_get key
  exact ⟨v', w', e, r⟩
end TL

set_option Elab.async false
set_option linter.all false
set_option maxRecDepth 100000
set_option maxHeartbeats 4000000
/-! LSD: the laws' tables, and their own walks. -/
namespace TL
open PySem PySem.Spec PyProof.Rows L2
local macro_rules | `(tactic| push_cast [$a,*] $[$loc]?) => `(tactic| simp only [$a,*, isEmpty_conc, List.isEmpty_nil, List.isEmpty_cons, List.getLast?_concat, List.dropLast_concat, Option.bind_some, Option.map_some, and_self, and_true, true_and, bodyW, bodyF, wipeS, backS, unown, List.getD_cons_succ, List.getD_cons_zero, W_bind, W_ok, W_ex, r_ok, r_ex, slots0, List.map_cons, List.map_nil, List.length_cons, List.length_nil, List.replicate_succ, List.replicate_zero, List.cons_append, List.nil_append, List.getElem?_cons_succ, List.getElem?_cons_zero, List.set_cons_succ, List.set_cons_zero, if_true, if_false, Bool.false_eq_true, Bool.not_true, Bool.not_false, Nat.reduceAdd, Nat.reduceSub, Nat.reduceLT, Nat.reduceLeDiff, varR_own, varR_fz, pkR_own, pkR_fz, mvR_own, mvR_fz, slV_own, slV_fz, optR_some, x_var, m_var, p_var, jn_some, rd_obj, rd_bor, rd_non, rd_bl, rd_int, rd_str, rd_tup, rd_lst, rd_dct, rd_ins, x_int, x_str, x_bl, x_non, x_gint, x_dnew, p_p1, p_p2, p_int, p_str, p_bl, p_non, p_gint, p_cut, p_and, p_or, p_not, p_ife, p_chain, p_tup, p_lst, p_dnew, p_call, p_make, p_fld, p_get, p_index, p_comp, m_p1, m_p2, m_int, m_str, m_bl, m_non, m_gint, m_cut, m_and, m_or, m_not, m_ife, m_chain, m_tup, m_lst, m_dnew, m_call, m_make, m_fld, m_get, m_index, p_dcomp, m_dcomp, m_comp, m_d1, m_nobj, m_isC, m_pop, p_isC, p_pop, p_d1, x_p1, x_p2, x_cut, x_and, x_or, andR_t, andR_f, orR_f, orR_t, x_not, x_ife, x_tup, x_lst, x_d1, x_nobj, x_call, ofFR_ok, ofFR_ex, mkR_f, mkR_t, mkI_some, x_make, x_fld, fldR_ins, isCR_ins, isCR_tup, isCR_lst, isCR_int, isCR_non, isCR_bl, isCR_str, isCR_dct, x_isC, x_get, getRV_d, idxRV_l, x_index0, x_index, x_app, x_ext, extR_l, x_pop, put_bor, putLR_own, putLX_some, put_obj, putOR_l, putOX_some, chk_d, chk_l, isLs_l, isDc_d, puti_bor, putIR_own, putCV_some, puti_obj, putIO_some, putC_l, putC_d, del_bor, delR_own, st_del, putf_obj, putFR_ins, pF_nil, pF_eq, xs_nil, xs_cons, xo_none, xo_some, xoR_int, t_and, t_or, t_not, t_cmp, tR_some, t_isN, x_chain, chR_int, chX_int, t_chn, t_val, s_nil, s_cons, seq_nx, seq_ret, seq_brk, st_set, setV_ok, st_par, st_unpack2, st_unpack, tgR_some, st_setI, st_setF, st_aug, augR_fz, augY_int, augX_some, st_augI, idxL_l, addI_i, st_expr, st_ite, st_for, st_while, st_ret, st_retN, st_brk, st_pass, st_raise, st_try, try_ok, st_kill, tg_nm, tg2, tg2a, p_lend, m_lend, p_prop, m_prop, p_lenC, m_lenC, p_eqC, m_eqC, x_prop, propR_ins, x_lenC, lenX_ins, ofFN_ok2, boolR_bl, x_eqC, blT_bl, t_eqC, eqOk_i, eqOk_t, q_len_l, q_len_t, q_len_d, q_sum, q_sum_t, q_list_l, q_list_t, q_list_d, q_tuple_l, q_tuple_t, q_sorted, q_max, q_min, q_int_i, q_int_b, q_abs, q_neg, q_isNone, q_notNone, q_isInt_i, q_isBool_i, q_isTuple_t, q_isList_l, q_add_i, q_sub, q_gt, q_le, q_ge, q_rev, q_isLT_l, q_isLT_t, q_isLT_n, q_max2, q_min2, bM_s, nM_s, vM_s, q_eq, q_ne, q_lt, q_in_l, q_in_t, kM_s, q_in_d, q_nin_l, q_nin_t, q_nin_d, q_idx_l, q_idx_t, q_idx_d, q_tr_bl, q_tr_int, q_tr_non, q_tr_tup, q_tr_lst, q_tr_dct, at_0, at_1, at_2, w_lst, w_tup, w_dct, w_enum_l, w_enum_t, w_rev_l, w_rev_t, key_i, vk_num, vk_kT, vk_kP, key_t, key_p, e_int, e_tup, e_lst, e_pair, e_rows, e_tab, n_int, n_tup, e_nn, e_tt, e_cn, e_ct, e_nil_l, e_nil_t, l_int, l_tup, q_minT, q_sortD, lM_s, min_rows] $[$loc]?)
def Sp_law_led (φ : Fn1) : Prop := ∀ (t : List (List Int)) (m : Nat) (S : List Int) (a : Int) w, TOk t m → (∀ s ∈ S, IsS t s) → S.length ≤ 6 → IsL m a →
  φ [.tup (t.map tupI), .tup (S.map .int), .int a] w = .ok (.tup ((ledI t S a).map .int)) false w ∧ φ [.tup (t.map tupI), .lst (S.map .int), .int a] w = .ok (.tup ((ledI t S a).map .int)) false w
theorem ok_law_led {Φ : Fns} : Sp_law_led (runDef Φ 4 A.law_led) := fun t m S a w ht hS hl ha => by
  have key : ∀ (v : Val), (v = .tup (S.map .int) ∨ v = .lst (S.map .int)) → runDef Φ 4 A.law_led [.tup (t.map tupI), v, .int a] w = .ok (.tup ((ledI t S a).map .int)) false w := fun v hv => by
    have hw : walk .val [v] = some (S.map .int) := by rcases hv with rfl | rfl <;> rfl
    have hu : (usort (S.map fun s => go t s a)).length < 64 := by
      have := srtS_len ht (ledI_srt (t := t) (S := S) (a := a)) (ledI_is ht hS ha)
      unfold ledI at this
      omega
    refine FW_eq (run_W ?_)
    push_cast [A.law_led]
    refine W_comp_map S .int (fun s => .int (go t s a)) ?_
    push_cast [r_ok]
    refine ⟨hw, by rw [sz]; omega, fun x hx => ?_, ?_⟩
    · obtain ⟨h1, h2⟩ := hS x hx
      push_cast [at_row h1 h2, tupI_eq, at_go ht h1 h2 ha.1 ha.2, tg_nm]
    · have := q_sset (ns := S.map fun s => go t s a) (by simp; omega) hu
      rw [List.map_map] at this
      simp only [Function.comp_def] at this
      push_cast [this]
      trivial
  exact ⟨key _ (.inl rfl), key _ (.inr rfl)⟩
open Classical in
/-- the stands behind rows of some letters from some stands -/
noncomputable def closB (t : List (List Int)) (ls B : List Int) : List Int := (rangeI 0 t.length).filter fun x => decide (∃ b ∈ B, Reach t ls b x)
theorem mem_closB {t : List (List Int)} {m : Nat} (h : TOk t m) {ls B : List Int} (hl : ∀ a ∈ ls, IsL m a) (hs : ∀ b ∈ B, IsS t b) {x : Int} : x ∈ closB t ls B ↔ ∃ b ∈ B, Reach t ls b x := by
  unfold closB
  rw [List.mem_filter, mem_rangeI]
  simp only [decide_eq_true_eq]
  constructor
  · exact fun h => h.2
  · rintro ⟨b, hb, r⟩
    have := r.is h hl (hs b hb)
    exact ⟨by omega, b, hb, r⟩
theorem closB_srt {t : List (List Int)} {ls B : List Int} : Srt (closB t ls B) := List.Pairwise.filter _ (rangeI_srt _ _)
theorem closB_one {t : List (List Int)} {ls : List Int} {s : Int} : closB t ls [s] = closI t ls s := by
  unfold closB closI
  congr 1
  funext x
  simp
theorem closB_is {t : List (List Int)} {ls B : List Int} : ∀ x ∈ closB t ls B, IsS t x := fun x hx => by
  have := mem_rangeI.mp (List.mem_filter.mp hx).1
  exact ⟨by omega, by omega⟩
structure WB (t : List (List Int)) (ls B : List Int) (F W X : List Int) : Prop where
  nd : F.Nodup
  re : ∀ x ∈ F, ∃ b ∈ B, Reach t ls b x
  sF : ∀ b ∈ B, b ∈ F
  sub : ∀ x ∈ W, x ∈ F
  cl : ∀ x ∈ F, x ∈ W ∨ x ∈ X ∨ ∀ a ∈ ls, go t x a ∈ F
section
variable {t : List (List Int)} {m : Nat} {ls B F W X : List Int}
theorem WB.is (h : WB t ls B F W X) (ht : TOk t m) (hs : ∀ b ∈ B, IsS t b) (hl : ∀ a ∈ ls, IsL m a) : ∀ x ∈ F, IsS t x := fun x hx => by
  obtain ⟨b, hb, r⟩ := h.re x hx
  exact r.is ht hl (hs b hb)
theorem WB.len (h : WB t ls B F W X) (ht : TOk t m) (hs : ∀ b ∈ B, IsS t b) (hl : ∀ a ∈ ls, IsL m a) : F.length ≤ t.length := nodup_len h.nd (h.is ht hs hl)
theorem WB.fin (h : WB t ls B F [] []) (ht : TOk t m) (hs : ∀ b ∈ B, IsS t b) (hl : ∀ a ∈ ls, IsL m a) : isort F = closB t ls B := by
  rw [isort_eq h.nd]
  refine srt_ext (usort_srt _) closB_srt fun x => ?_
  rw [mem_usort, mem_closB ht hl hs]
  constructor
  · exact h.re x
  · rintro ⟨b, hb, r⟩
    induction r with
    | here => exact h.sF b hb
    | next r ha ih => exact ((h.cl _ ih).resolve_left (by simp)).resolve_left (by simp) _ ha
theorem WB.put (h : WB t ls B F W X) {x a : Int} (hx : x ∈ F) (ha : a ∈ ls) (hn : go t x a ∉ F) : WB t ls B (F ++ [go t x a]) (W ++ [go t x a]) X := by
  refine ⟨?_, fun y hy => ?_, fun b hb => List.mem_append_left _ (h.sF b hb), fun y hy => ?_, fun y hy => ?_⟩
  · rw [List.nodup_append]
    exact ⟨h.nd, by simp, fun y hy z hz => by simp at hz; rintro rfl; rw [hz] at hy; exact hn hy⟩
  · rcases List.mem_append.mp hy with hy | hy
    · exact h.re y hy
    · simp at hy
      obtain ⟨b, hb, r⟩ := h.re x hx
      exact ⟨b, hb, by rw [hy]; exact .next r ha⟩
  · rcases List.mem_append.mp hy with hy | hy
    · exact List.mem_append_left _ (h.sub y hy)
    · exact List.mem_append_right _ hy
  · rcases List.mem_append.mp hy with hy | hy
    · rcases h.cl y hy with q | q | q
      · exact .inl (List.mem_append_left _ q)
      · exact .inr (.inl q)
      · exact .inr (.inr fun b hb => List.mem_append_left _ (q b hb))
    · exact .inl (List.mem_append_right _ hy)
end
def Sp_law_reach (φ : Fn1) : Prop := ∀ (t : List (List Int)) (m : Nat) (B ls : List Int) w, TOk t m → (∀ b ∈ B, IsS t b) → B.Nodup → (∀ a ∈ ls, IsL m a) → ls.length ≤ 4 →
  φ [.tup (t.map tupI), .lst (B.map .int), .lst (ls.map .int)] w = .ok (.tup ((closB t ls B).map .int)) false w ∧ φ [.tup (t.map tupI), .tup (B.map .int), .lst (ls.map .int)] w = .ok (.tup ((closB t ls B).map .int)) false w
theorem ok_law_reach {Φ : Fns} : Sp_law_reach (runDef Φ 7 A.law_reach) := fun t m B ls w ht hB nd hl hl4 => by
  have key : ∀ v, (v = .lst (B.map .int) ∨ v = .tup (B.map .int)) → runDef Φ 7 A.law_reach [.tup (t.map tupI), v, .lst (ls.map .int)] w = .ok (.tup ((closB t ls B).map .int)) false w := fun v hv => by
    refine FW_eq (run_W ?_)
    have n6 := ht.n6
    have hlist : prim1 .list v = some (.lst (B.map .int), true) := by rcases hv with rfl | rfl <;> rfl
    have hrd : ∀ ρ, rdv ⟨ρ, w⟩ (.val v) = some v := fun ρ => by rcases hv with rfl | rfl <;> rfl
    push_cast [A.law_reach, hrd, hlist]
    have inv0 : WB t ls B B B [] := ⟨nd, fun x hx => ⟨x, hx, .here⟩, fun _ h => h, fun _ h => h, fun _ h => .inl h⟩
    have hB6 := inv0.len ht hB hl
    refine whileN_W (α := List Int × List Int) (fun a s' => ∃ j5 j6, s' = ⟨[.fz (.tup (t.map tupI)), .fz v, .fz (.lst (ls.map .int)), .own (.lst (a.1.map .int)), .own (.lst (a.2.map .int)), j5, j6], w⟩ ∧ WB t ls B a.1 a.2 [] ∧ 2 * (t.length - a.1.length) + a.2.length ≤ 12) (fun a => 2 * (t.length - a.1.length) + a.2.length) ?_ _ (B, B) _ ⟨_, _, rfl, inv0, by simp; omega⟩ (by rw [fu]; simp; omega)
    rintro ⟨F, Wt⟩ _ ⟨j5, j6, rfl, inv, hb⟩
    cases Wt with
    | nil =>
      have h0 : 0 ≤ sizeLine := by rw [sz]; omega
      push_cast [h0, decide_true, inv.fin ht hB hl]
    | cons h W0 =>
      have hhF : h ∈ F := inv.sub h (by simp)
      have hb2 : 2 * (t.length - F.length) + (h :: W0).length ≤ 12 := hb
      have hh := inv.is ht hB hl h hhF
      have h0 : 0 ≤ sizeLine := by rw [sz]; omega
      have hcut : vCut (.int h :: W0.map .int) (some 1) none = W0.map .int := by
        simp [vCut, HT.sIx]
        exact List.take_of_length_le (by simp)
      push_cast [h0, primCut, hcut]
      refine forL_W (fun d r s' => ∃ F' W' j5, s' = ⟨[.fz (.tup (t.map tupI)), .fz v, .fz (.lst (ls.map .int)), .own (.lst (F'.map .int)), .own (.lst (W'.map .int)), j5, .fz (.int h)], w⟩ ∧ WB t ls B F' W' [h] ∧ h ∈ F' ∧ (∀ a ∈ d, go t h a ∈ F') ∧ 2 * (t.length - F'.length) + W'.length < 2 * (t.length - F.length) + (h :: W0).length) ⟨F, W0, _, rfl, ?_, hhF, by simp, by simp⟩ ?_ ?_
      · refine ⟨inv.nd, inv.re, inv.sF, fun x hx => inv.sub x (by simp [hx]), fun x hx => ?_⟩
        rcases inv.cl x hx with e | e | e
        · simp at e
          rcases e with e | e
          · exact .inr (.inl (by simp [e]))
          · exact .inl e
        · cases e
        · exact .inr (.inr e)
      · rintro d a r _ e ⟨F', W', j5, rfl, inv', hF', hd, hm⟩
        have ha : IsL m a := hl a (by rw [e]; simp)
        have hal : a ∈ ls := by rw [e]; simp
        have hlen := inv'.len ht hB hl
        refine ⟨_, tg_nm (by simp), ?_⟩
        push_cast [at_row hh.1 hh.2, tupI_eq, at_go ht hh.1 hh.2 ha.1 ha.2]
        by_cases hn : go t h a ∈ F'
        · push_cast [hn, decide_true]
          refine ⟨F', W', _, rfl, inv', hF', fun b hb => ?_, hm⟩
          rcases List.mem_append.mp hb with hb | hb
          · exact hd b hb
          · simp at hb; rw [hb]; exact hn
        · have inv2 := inv'.put hF' hal hn
          have hlen2 := inv2.len ht hB hl
          simp only [List.length_append, List.length_cons, List.length_nil] at hlen2 hm hb
          have hF3 : F'.length < sizeLine := by rw [sz]; omega
          have hW : W'.length < sizeLine := by rw [sz]; omega
          push_cast [hn, decide_false, List.length_map, hF3, hW, at_row hh.1 hh.2, tupI_eq, at_go ht hh.1 hh.2 ha.1 ha.2]
          refine ⟨F' ++ [go t h a], W' ++ [go t h a], _, by rw [List.map_append, List.map_append]; rfl, inv2, List.mem_append_left _ hF', fun b hb => ?_, ?_⟩
          · rcases List.mem_append.mp hb with hb | hb
            · exact List.mem_append_left _ (hd b hb)
            · simp at hb; rw [hb]; simp
          · simp only [List.length_append, List.length_cons, List.length_nil]
            omega
      · rintro _ ⟨F', W', j5, rfl, inv', hF', hd, hm⟩
        refine ⟨(F', W'), by simpa using hm, _, _, rfl, ⟨inv'.nd, inv'.re, inv'.sF, inv'.sub, fun x hx => ?_⟩, by simp only; omega⟩
        rcases inv'.cl x hx with q | q | q
        · exact .inl q
        · simp at q; rw [q]; exact .inr (.inr hd)
        · exact .inr (.inr q)
  exact ⟨key _ (.inl rfl), key _ (.inr rfl)⟩
def Sp_law_all (φ : Fn1) : Prop := ∀ (t : List (List Int)) (m : Nat) w, TOk t m → φ [.tup (t.map tupI)] w = .ok (.tup ((reachI t m).map .int)) false w
theorem ok_law_all {Φ : Fns} (h1 : Sp_law_reach (Φ "_law_reach")) : Sp_law_all (runDef Φ 1 A.law_all) := fun t m w ht => by
  refine FW_eq (run_W ?_)
  have n1 := ht.n1
  have m4 := ht.m4
  have hs1 : (1 : Nat) ≤ sizeLine := by rw [sz]; omega
  have h0 := at_row (t := t) (s := 0) (by omega) (by omega)
  push_cast [A.law_all, h0, hs1]
  push_cast [tupI_eq, Int.toNat_zero, List.length_map, ht.len0]
  rw [q_lrange (i := m) (by omega) (by omega)]
  push_cast [r_ok]
  rw [intRange_eq, Int.toNat_natCast]
  have := (h1 t m [0] (rangeI 0 m) w ht (by simp; omega) (by simp) letters_is (by rw [rangeI_len]; omega)).1
  simp only [List.map_cons, List.map_nil] at this
  push_cast [this, closB_one]
  trivial
end TL

set_option Elab.async false
set_option linter.all false
set_option maxRecDepth 100000
set_option maxHeartbeats 4000000
/-! LSE: the laws' tables. -/
namespace TL
open PySem PySem.Spec PyProof.Rows L2
local macro_rules | `(tactic| push_cast [$a,*] $[$loc]?) => `(tactic| simp only [$a,*, isEmpty_conc, List.isEmpty_nil, List.isEmpty_cons, List.getLast?_concat, List.dropLast_concat, Option.bind_some, Option.map_some, and_self, and_true, true_and, bodyW, bodyF, wipeS, backS, unown, List.getD_cons_succ, List.getD_cons_zero, W_bind, W_ok, W_ex, r_ok, r_ex, slots0, List.map_cons, List.map_nil, List.length_cons, List.length_nil, List.replicate_succ, List.replicate_zero, List.cons_append, List.nil_append, List.getElem?_cons_succ, List.getElem?_cons_zero, List.set_cons_succ, List.set_cons_zero, if_true, if_false, Bool.false_eq_true, Bool.not_true, Bool.not_false, Nat.reduceAdd, Nat.reduceSub, Nat.reduceLT, Nat.reduceLeDiff, varR_own, varR_fz, pkR_own, pkR_fz, mvR_own, mvR_fz, slV_own, slV_fz, optR_some, x_var, m_var, p_var, jn_some, rd_obj, rd_bor, rd_non, rd_bl, rd_int, rd_str, rd_tup, rd_lst, rd_dct, rd_ins, x_int, x_str, x_bl, x_non, x_gint, x_dnew, p_p1, p_p2, p_int, p_str, p_bl, p_non, p_gint, p_cut, p_and, p_or, p_not, p_ife, p_chain, p_tup, p_lst, p_dnew, p_call, p_make, p_fld, p_get, p_index, p_comp, m_p1, m_p2, m_int, m_str, m_bl, m_non, m_gint, m_cut, m_and, m_or, m_not, m_ife, m_chain, m_tup, m_lst, m_dnew, m_call, m_make, m_fld, m_get, m_index, p_dcomp, m_dcomp, m_comp, m_d1, m_nobj, m_isC, m_pop, p_isC, p_pop, p_d1, x_p1, x_p2, x_cut, x_and, x_or, andR_t, andR_f, orR_f, orR_t, x_not, x_ife, x_tup, x_lst, x_d1, x_nobj, x_call, ofFR_ok, ofFR_ex, mkR_f, mkR_t, mkI_some, x_make, x_fld, fldR_ins, isCR_ins, isCR_tup, isCR_lst, isCR_int, isCR_non, isCR_bl, isCR_str, isCR_dct, x_isC, x_get, getRV_d, idxRV_l, x_index0, x_index, x_app, x_ext, extR_l, x_pop, put_bor, putLR_own, putLX_some, put_obj, putOR_l, putOX_some, chk_d, chk_l, isLs_l, isDc_d, puti_bor, putIR_own, putCV_some, puti_obj, putIO_some, putC_l, putC_d, del_bor, delR_own, st_del, putf_obj, putFR_ins, pF_nil, pF_eq, xs_nil, xs_cons, xo_none, xo_some, xoR_int, t_and, t_or, t_not, t_cmp, tR_some, t_isN, x_chain, chR_int, chX_int, t_chn, t_val, s_nil, s_cons, seq_nx, seq_ret, seq_brk, st_set, setV_ok, st_par, st_unpack2, st_unpack, tgR_some, st_setI, st_setF, st_aug, augR_fz, augY_int, augX_some, st_augI, idxL_l, addI_i, st_expr, st_ite, st_for, st_while, st_ret, st_retN, st_brk, st_pass, st_raise, st_try, try_ok, st_kill, tg_nm, tg2, tg2a, p_lend, m_lend, p_prop, m_prop, p_lenC, m_lenC, p_eqC, m_eqC, x_prop, propR_ins, x_lenC, lenX_ins, ofFN_ok2, boolR_bl, x_eqC, blT_bl, t_eqC, eqOk_i, eqOk_t, q_len_l, q_len_t, q_len_d, q_sum, q_sum_t, q_list_l, q_list_t, q_list_d, q_tuple_l, q_tuple_t, q_sorted, q_max, q_min, q_int_i, q_int_b, q_abs, q_neg, q_isNone, q_notNone, q_isInt_i, q_isBool_i, q_isTuple_t, q_isList_l, q_add_i, q_sub, q_gt, q_le, q_ge, q_rev, q_isLT_l, q_isLT_t, q_isLT_n, q_max2, q_min2, bM_s, nM_s, vM_s, q_eq, q_ne, q_lt, q_in_l, q_in_t, kM_s, q_in_d, q_nin_l, q_nin_t, q_nin_d, q_idx_l, q_idx_t, q_idx_d, q_tr_bl, q_tr_int, q_tr_non, q_tr_tup, q_tr_lst, q_tr_dct, at_0, at_1, at_2, w_lst, w_tup, w_dct, w_enum_l, w_enum_t, w_rev_l, w_rev_t, key_i, vk_num, vk_kT, vk_kP, key_t, key_p, e_int, e_tup, e_lst, e_pair, e_rows, e_tab, n_int, n_tup, e_nn, e_tt, e_cn, e_ct, e_nil_l, e_nil_t, l_int, l_tup, q_minT, q_sortD, lM_s, min_rows] $[$loc]?)
theorem TOk.of_rows {t : List (List Int)} {n m : Nat} (hl : t.length = n) (n1 : 1 ≤ n) (n6 : n ≤ 6) (m1 : 1 ≤ m) (m4 : m ≤ 4) (hr : ∀ r ∈ t, r.length = m ∧ ∀ x ∈ r, 0 ≤ x ∧ x < (n : Int)) : TOk t m :=
  ⟨by omega, by omega, m1, m4, fun r h => (hr r h).1, fun r h x hx => by rw [hl]; exact (hr r h).2 x hx⟩
/-- a row of the world that is a list of two numbers below four -/
def TwoR (r : List Int) : Prop := r.length = 2 ∧ ∀ x ∈ r, 0 ≤ x ∧ x < 4
def Sp_law_shift (φ : Fn1) : Prop := ∀ w, HW w → ∃ (t : List (List Int)) (w' : List (Option Val)), φ [.obj 1] w = .ok (.tup (t.map tupI)) false w' ∧ TOk t 2 ∧ HW w'
def rowsW (w : List (Option Val)) (n : Nat) (r : List (List Int)) : Prop := r.length = 4 ∧ (∀ x ∈ r, TwoR x) ∧ ∀ i, i < 4 → w[n + i]? = some (some (.lst ((r.getD i []).map .int)))
theorem ok_law_shift {Φ : Fns} (h1 : Sp_law_next (Φ "_law_next")) : Sp_law_shift (runDef Φ 3 A.law_shift) := fun w hw => by
  have key : (runDef Φ 3 A.law_shift [.obj 1] w).W (fun v b w' => b = false ∧ ∃ t : List (List Int), v = .tup (t.map tupI) ∧ TOk t 2 ∧ HW w') noF := by
    refine run_W ?_
    have hl := hw.len
    have h2 : (2 : Nat) ≤ sizeLine := by rw [sz]; omega
    have h4 : (4 : Nat) ≤ sizeLine := by rw [sz]; omega
    push_cast [A.law_shift, h2, h4, x_nobj]
    push_cast [List.append_assoc]
    generalize hW : w ++ [some (Val.lst [Val.int 0, Val.int 1]), some (Val.lst [Val.int 2, Val.int 3]), some (Val.lst [Val.int 0, Val.int 1]), some (Val.lst [Val.int 2, Val.int 3])] = W0
    have hw0 : HW W0 := by
      rw [← hW]
      have := (((hw.app (some (Val.lst [Val.int 0, Val.int 1]))).app (some (Val.lst [Val.int 2, Val.int 3]))).app (some (Val.lst [Val.int 0, Val.int 1]))).app (some (Val.lst [Val.int 2, Val.int 3]))
      simpa using this
    have hr0 : rowsW W0 w.length [[0, 1], [2, 3], [0, 1], [2, 3]] := by
      refine ⟨rfl, by simp [TwoR], fun i hi => ?_⟩
      rw [← hW, List.getElem?_append_right (by omega), Nat.add_sub_cancel_left]
      have : i = 0 ∨ i = 1 ∨ i = 2 ∨ i = 3 := by omega
      rcases this with rfl | rfl | rfl | rfl <;> rfl
    simp only [List.length_append, List.length_cons, List.length_nil, Nat.zero_add, Nat.add_assoc, Nat.reduceAdd]
    obtain ⟨v1, W1, e1, b1, c1, hw1, l1, f1⟩ := h1 3 W0 hw0 (by decide) (by decide)
    have hr1 : rowsW W1 w.length [[0, 1], [2, 3], [0, 1], [2, 3]] := ⟨hr0.1, hr0.2.1, fun i hi => by rw [f1 _ (by omega)]; exact hr0.2.2 i hi⟩
    have fin : ∀ (W : List (Option Val)) (r : List (List Int)), HW W → rowsW W w.length r → (ev Φ (.comp (.p1 .tuple (.var 2)) (.nm 2) .val [.var 1] none [("_law_row", 2)]) ⟨[.fz (.obj 1), .own (.lst [.obj w.length, .obj (w.length + 1), .obj (w.length + 2), .obj (w.length + 3)]), .e], W⟩).W
        (fun x s => ∃ t : List (List Int), x.1 = .lst (t.map tupI) ∧ TOk t 2 ∧ HW s.w) (fun c fs s => noF c fs s.w) := fun W r hW hr => by
      refine W_comp_map [0, 1, 2, 3] (fun i => .obj (w.length + i)) (fun i => tupI (r.getD i [])) ?_
      push_cast [r_ok]
      refine ⟨rfl, by simp [sz], fun i hi => ?_, r, ?_, TOk.of_rows hr.1 (by decide) (by decide) (by decide) (by decide) fun x hx => hr.2.1 x hx, hW⟩
      · have hi4 : i < 4 := by simp at hi; omega
        push_cast [tg_nm, hr.2.2 i hi4, tupI_eq]
      · have hl := hr.1
        match r, hl with
        | [r0, r1, r2, r3], _ => rfl
    push_cast [e1]
    by_cases hv : v1 = 0
    · obtain ⟨v2, W2, e2, b2, c2, hw2, l2, f2⟩ := h1 4 W1 hw1 (by decide) (by decide)
      obtain ⟨v3, W3, e3, b3, c3, hw3, l3, f3⟩ := h1 4 W2 hw2 (by decide) (by decide)
      obtain ⟨v4, W4, e4, b4, c4, hw4, l4, f4⟩ := h1 2 W3 hw3 (by decide) (by decide)
      have hr4 : rowsW W4 w.length [[0, 1], [2, 3], [0, 1], [2, 3]] := ⟨hr1.1, hr1.2.1, fun i hi => by rw [f4 _ (by omega), f3 _ (by omega), f2 _ (by omega)]; exact hr1.2.2 i hi⟩
      have hat : atV [Val.obj w.length, .obj (w.length + 1), .obj (w.length + 2), .obj (w.length + 3)] v3 = some (.obj (w.length + v3.toNat)) := by
        have := at_of (f := fun i : Nat => Val.obj (w.length + i)) (xs := [0, 1, 2, 3]) (i := v3) (a := v3.toNat) b3 (by
          have : v3.toNat = 0 ∨ v3.toNat = 1 ∨ v3.toNat = 2 ∨ v3.toNat = 3 := by omega
          rcases this with h | h | h | h <;> rw [h] <;> rfl)
        exact this
      have hrow := hr4.2.2 v3.toNat (by omega)
      have hrl : (([[0, 1], [2, 3], [0, 1], [2, 3]] : List (List Int)).getD v3.toNat []).length = 2 := by
        have : v3.toNat = 0 ∨ v3.toNat = 1 ∨ v3.toNat = 2 ∨ v3.toNat = 3 := by omega
        rcases this with h | h | h | h <;> rw [h] <;> rfl
      have hrt : TwoR (([[0, 1], [2, 3], [0, 1], [2, 3]] : List (List Int)).getD v3.toNat []) := by
        have : v3.toNat = 0 ∨ v3.toNat = 1 ∨ v3.toNat = 2 ∨ v3.toNat = 3 := by omega
        rcases this with h | h | h | h <;> rw [h] <;> simp [TwoR]
      push_cast [hv, decide_true, e2, e3, e4, hat, hrow]
      rw [List.length_map, hrl, ixN_of ⟨b4, by omega⟩]
      push_cast [r_ok]
      refine W_imp (fin _ (([[0, 1], [2, 3], [0, 1], [2, 3]] : List (List Int)).set v3.toNat ((([[0, 1], [2, 3], [0, 1], [2, 3]] : List (List Int)).getD v3.toNat []).set v4.toNat v2)) (hw4.set (by omega) _) ⟨by simp, fun x hx => ?_, fun i hi => ?_⟩) ?_
      · rcases List.mem_or_eq_of_mem_set hx with h | h
        · exact hr4.2.1 x h
        · rw [h]
          refine ⟨by rw [List.length_set]; exact hrt.1, fun y hy => ?_⟩
          rcases List.mem_or_eq_of_mem_set hy with h | h
          · exact hrt.2 y h
          · rw [h]; exact ⟨b2, c2⟩
      · by_cases hi2 : i = v3.toNat
        · subst hi2
          rw [List.getElem?_set_self (by have := hrow; rcases Nat.lt_or_ge (w.length + v3.toNat) W4.length with q | q; exact q; rw [List.getElem?_eq_none q] at this; cases this)]
          simp only [List.getD_eq_getElem?_getD]
          rw [List.getElem?_set_self (by simp; omega)]
          simp [List.map_set]
        · rw [List.getElem?_set_ne (by omega), hr4.2.2 i hi]
          simp only [List.getD_eq_getElem?_getD]
          rw [List.getElem?_set_ne (by omega)]
      · rintro ⟨x, b⟩ ⟨ρ, W⟩ ⟨t, q1, q2, q3⟩
        simp only at q1
        push_cast [q1]
        exact ⟨t, rfl, q2, q3⟩
    · push_cast [hv, decide_false]
      refine W_imp (fin W1 _ hw1 hr1) ?_
      rintro ⟨x, b⟩ ⟨ρ, W⟩ ⟨t, q1, q2, q3⟩
      simp only at q1
      push_cast [q1]
      exact ⟨t, rfl, q2, q3⟩
  obtain ⟨v, fr, w', e, rfl, t, rfl, r⟩ := FW_get key
  exact ⟨t, w', e, r⟩
/-- a row of draws -/
def Drawn (lo hi : Int) (L : List Int) : Prop := ∀ x ∈ L, lo ≤ x ∧ x < hi
theorem Drawn.at {lo hi : Int} {L : List Int} (h : Drawn lo hi L) {a : Int} (h0 : 0 ≤ a) (h1 : a < L.length) : lo ≤ L.getD a.toNat 0 ∧ L.getD a.toNat 0 < hi := by
  rw [List.getD_eq_getElem?_getD, List.getElem?_eq_getElem (by omega)]
  exact h _ (List.getElem_mem _)
def Sp_law_table (φ : Fn1) : Prop := ∀ (most far : Int) w, HW w → 1 ≤ most → most ≤ 6 → 1 ≤ far → far ≤ 4 → ∃ (t : List (List Int)) (m : Nat) (w' : List (Option Val)), φ [.obj 1, .int most, .int far] w = .ok (.tup (t.map tupI)) false w' ∧ TOk t m ∧ HW w'
def law_table_rest : List S := [.set 4 (.comp (.p2 .add (.int 1) (.call "_law_next" [.var 0, .var 8])) (.nm 11) .range1 [.var 9] none [("_law_a", 11)]), .set 5 (.comp (.call "_law_next" [.var 0, .var 8]) (.nm 11) .range1 [.var 9] none [("_law_a", 11)]), .set 6 (.lst []), .for_ (.nm 7) .range1 [.var 8] [.set 10 (.comp (.call "_law_next" [.var 0, .var 8]) (.nm 11) .range1 [.var 9] none [("_law_a", 11)]), .ite (.cmp .lt (.var 3) (.int 4)) [.set 10 (.comp (.p2 .mod (.p2 .add (.p2 .idx (.var 5) (.var 11)) (.p2 .mod (.p2 .idx (.var 10) (.var 11)) (.p2 .idx (.var 4) (.var 11)))) (.var 8)) (.nm 11) .range1 [.var 9] none [("_law_a", 11)])] [], .expr (.app (.var 6) (.p1 .tuple (.var 10)))], .ret (.p1 .tuple (.var 6))]
theorem law_table_eq : A.law_table = .unpack2 (.nm 8) (.nm 9) (.p2 .add (.int 1) (.call "_law_next" [.var 0, .var 1])) (.p2 .add (.int 1) (.call "_law_next" [.var 0, .var 2])) :: .set 3 (.call "_law_next" [.var 0, .int 5]) :: .ite (.and (.cmp .eq (.var 3) (.int 0)) (.cmp .gt (.var 1) (.int 3))) [.ret (.call "_law_shift" [.var 0])] [] :: law_table_rest := rfl
theorem ok_law_table {Φ : Fns} (h1 : Sp_law_next (Φ "_law_next")) (h2 : Sp_law_shift (Φ "_law_shift")) : Sp_law_table (runDef Φ 12 A.law_table) := fun most far w hw a1 a2 b1 b2 => by
  have key : (runDef Φ 12 A.law_table [.obj 1, .int most, .int far] w).W (fun v b w' => b = false ∧ ∃ (t : List (List Int)) (m : Nat), v = .tup (t.map tupI) ∧ TOk t m ∧ HW w') noF := by
    refine run_W ?_
    obtain ⟨v1, W1, e1, c1, d1, hw1, _⟩ := h1 most w hw a1 (by omega)
    obtain ⟨v2, W2, e2, c2, d2, hw2, _⟩ := h1 far W1 hw1 b1 (by omega)
    obtain ⟨v3, W3, e3, c3, d3, hw3, _⟩ := h1 5 W2 hw2 (by decide) (by decide)
    push_cast [law_table_eq, e1, e2, e3, setM]
    have rest : ∀ (kB : Bool), (decide (v3 < 4) = kB) → (evSs Φ law_table_rest
        ⟨[.fz (.obj 1), .fz (.int most), .fz (.int far), .fz (.int v3), .e, .e, .e, .e, .fz (.int (1 + v1)), .fz (.int (1 + v2)), .e, .e], W3⟩).W
        (fun f s => match f with | .ret v fr => fr = false ∧ ∃ (t : List (List Int)) (m : Nat), v = .tup (t.map tupI) ∧ TOk t m ∧ HW s.w | .nx => False | .brk => False) (fun c fs s => noF c fs s.w) := fun kB hk => by
      generalize hsz : 1 + v1 = sz1
      generalize hlt : 1 + v2 = lt1
      have s1 : 1 ≤ sz1 := by omega
      have s6 : sz1 ≤ 6 := by omega
      have l1 : 1 ≤ lt1 := by omega
      have l4 : lt1 ≤ 4 := by omega
      have hr : walk .range1 [.int lt1] = some ((rangeI 0 lt1.toNat).map .int) := by rw [w_range1 (by omega) (by omega), intRange_eq]
      have hrl : (rangeI 0 lt1.toNat).length ≤ sizeLine := by rw [rangeI_len, sz]; omega
      push_cast [law_table_rest]
      refine W_comp_eff (rangeI 0 lt1.toNat) .int (fun d acc w => HW w ∧ ∃ L : List Int, acc = L.map .int ∧ Drawn 1 (sz1 + 1) L) ?_
      push_cast [r_ok]
      refine ⟨hr, hrl, ⟨hw3, [], rfl, by simp [Drawn]⟩, ?_, ?_⟩
      · rintro d x r acc w' _ _ ⟨hw', L, rfl, hL⟩
        obtain ⟨v, W, e, c, dd, hw2', _⟩ := h1 sz1 w' hw' s1 (by omega)
        push_cast [tg_nm, e]
        exact ⟨hw2', L ++ [1 + v], by simp, fun y hy => by
          rcases List.mem_append.mp hy with hy | hy
          · exact hL y hy
          · simp at hy; omega⟩
      rintro _ w4 hl4 ⟨hw4, L4, rfl, hL4⟩
      rw [List.length_map, rangeI_len] at hl4
      refine W_comp_eff (rangeI 0 lt1.toNat) .int (fun d acc w => HW w ∧ ∃ L : List Int, acc = L.map .int ∧ Drawn 0 sz1 L) ?_
      push_cast [r_ok]
      refine ⟨hr, hrl, ⟨hw4, [], rfl, by simp [Drawn]⟩, ?_, ?_⟩
      · rintro d x r acc w' _ _ ⟨hw', L, rfl, hL⟩
        obtain ⟨v, W, e, c, dd, hw2', _⟩ := h1 sz1 w' hw' s1 (by omega)
        push_cast [tg_nm, e]
        exact ⟨hw2', L ++ [v], by simp, fun y hy => by
          rcases List.mem_append.mp hy with hy | hy
          · exact hL y hy
          · simp at hy; omega⟩
      rintro _ w5 hl5 ⟨hw5, L5, rfl, hL5⟩
      rw [List.length_map, rangeI_len] at hl5
      have h0 : 0 ≤ sizeLine := by rw [sz]; omega
      have hrs : walk .range1 [.int sz1] = some ((rangeI 0 sz1.toNat).map .int) := by rw [w_range1 (by omega) (by omega), intRange_eq]
      try push_cast [h0, hrs]
      refine forL_W (fun d r s' => ∃ (rows : List (List Int)) (j7 j10 : Slot) (w : List (Option Val)), s' = ⟨[.fz (.obj 1), .fz (.int most), .fz (.int far), .fz (.int v3), .own (.lst (L4.map .int)), .own (.lst (L5.map .int)), .own (.lst (rows.map tupI)), j7, .fz (.int sz1), .fz (.int lt1), j10, .e], w⟩ ∧ HW w ∧ rows.length = d.length ∧ ∀ x ∈ rows, x.length = lt1.toNat ∧ ∀ y ∈ x, 0 ≤ y ∧ y < sz1) ⟨[], _, _, _, rfl, hw5, rfl, by simp⟩ ?_ ?_
      · rintro d x r _ ed ⟨rows, j7, j10, w6, rfl, hw6, hlr, hrows⟩
        have hd6 : d.length < 6 := by
          have := congrArg List.length ed
          rw [rangeI_len] at this
          simp at this
          omega
        refine ⟨_, tg_nm (by simp), ?_⟩
        have fin : ∀ (R : List Int) (w7 : List (Option Val)), R.length = lt1.toNat → (∀ y ∈ R, 0 ≤ y ∧ y < sz1) → HW w7 → (∃ (rows' : List (List Int)) (j7 j10 : Slot) (w : List (Option Val)), (⟨[.fz (.obj 1), .fz (.int most), .fz (.int far), .fz (.int v3), .own (.lst (L4.map .int)), .own (.lst (L5.map .int)), .own (.lst (rows.map tupI ++ [.tup (R.map .int)])), .fz (.int x), .fz (.int sz1), .fz (.int lt1), .own (.lst (R.map .int)), .e], w7⟩ : Sta) = ⟨[.fz (.obj 1), .fz (.int most), .fz (.int far), .fz (.int v3), .own (.lst (L4.map .int)), .own (.lst (L5.map .int)), .own (.lst (rows'.map tupI)), j7, .fz (.int sz1), .fz (.int lt1), j10, .e], w⟩ ∧ HW w ∧ rows'.length = (d ++ [x]).length ∧ ∀ x ∈ rows', x.length = lt1.toNat ∧ ∀ y ∈ x, 0 ≤ y ∧ y < sz1) := fun R w7 hR hR2 hw7 =>
          ⟨rows ++ [R], _, _, _, by rw [List.map_append]; rfl, hw7, by simp [hlr], fun z hz => by
            rcases List.mem_append.mp hz with hz | hz
            · exact hrows z hz
            · simp at hz; rw [hz]; exact ⟨hR, hR2⟩⟩
        have hls : rows.length < sizeLine := by rw [sz]; omega
        push_cast [r_ok]
        refine W_comp_eff (rangeI 0 lt1.toNat) .int (fun d acc w => HW w ∧ ∃ L : List Int, acc = L.map .int ∧ Drawn 0 sz1 L) ?_
        push_cast [r_ok]
        refine ⟨hr, hrl, ⟨hw6, [], rfl, by simp [Drawn]⟩, ?_, ?_⟩
        · rintro d x r acc w' _ _ ⟨hw', L, rfl, hL⟩
          obtain ⟨v, W, e, c, dd, hw2', _⟩ := h1 sz1 w' hw' s1 (by omega)
          push_cast [tg_nm, e]
          exact ⟨hw2', L ++ [v], by simp, fun y hy => by
            rcases List.mem_append.mp hy with hy | hy
            · exact hL y hy
            · simp at hy; omega⟩
        rintro _ w7 hl7 ⟨hw7, L7, rfl, hL7⟩
        rw [List.length_map, rangeI_len] at hl7
        push_cast [hk]
        cases kB with
        | false =>
          push_cast [List.length_map, hls]
          exact fin L7 w7 hl7 hL7 hw7
        | true =>
          push_cast [r_ok]
          refine W_comp_map (rangeI 0 lt1.toNat) .int (fun a => .int ((L5.getD a.toNat 0 + L7.getD a.toNat 0 % L4.getD a.toNat 0) % sz1)) ?_
          push_cast [r_ok]
          refine ⟨hr, hrl, fun a ha => ?_, ?_⟩
          · have hm := mem_rangeI.mp ha
            have g4 := hL4.at hm.1 (by omega)
            have g5 := hL5.at hm.1 (by omega)
            push_cast [tg_nm, at_int (ns := L4) hm.1 (by omega), at_int (ns := L5) hm.1 (by omega), at_int (ns := L7) hm.1 (by omega), q_mod (i := L7.getD a.toNat 0) (j := L4.getD a.toNat 0) (by omega), q_mod (j := sz1) (by omega)]
          · have := fin ((rangeI 0 lt1.toNat).map fun a => (L5.getD a.toNat 0 + L7.getD a.toNat 0 % L4.getD a.toNat 0) % sz1) w7 (by rw [List.length_map, rangeI_len]) (fun y hy => by
              obtain ⟨a, _, rfl⟩ := List.mem_map.mp hy
              exact ⟨Int.emod_nonneg _ (by omega), Int.emod_lt_of_pos _ (by omega)⟩) hw7
            rw [List.map_map] at this
            push_cast [List.length_map, hls]
            exact this
      · rintro _ ⟨rows, j7, j10, w6, rfl, hw6, hlr, hrows⟩
        rw [rangeI_len] at hlr
        push_cast [r_ok]
        exact ⟨rows, lt1.toNat, rfl, TOk.of_rows hlr (by omega) (by omega) (by omega) (by omega) (fun z hz => ⟨(hrows z hz).1, fun y hy => by have := (hrows z hz).2 y hy; omega⟩), hw6⟩
    have fin2 := rest _ rfl
    by_cases hz : v3 = 0
    · by_cases hm : (3 : Int) < most
      · obtain ⟨t, w', e, ht, hw'⟩ := h2 W3 hw3
        push_cast [hz, hm, decide_true, e]
        exact ⟨t, 2, rfl, ht, hw'⟩
      · subst hz
        push_cast [hm, decide_true, decide_false]
        refine W_imp fin2 fun f s q => ?_
        cases f <;> first | exact q | exact q.elim
    · push_cast [hz, decide_false]
      refine W_imp fin2 fun f s q => ?_
      cases f <;> first | exact q | exact q.elim
  obtain ⟨v, fr, w', e, rfl, t, m, rfl, r⟩ := FW_get key
  exact ⟨t, m, w', e, r⟩
end TL

set_option Elab.async false
set_option linter.all false
set_option maxRecDepth 100000
set_option maxHeartbeats 4000000
/-! LSF: sure rows: what the defs do. -/
namespace TL
open PySem PySem.Spec PyProof.Rows L2
local macro_rules | `(tactic| push_cast [$a,*] $[$loc]?) => `(tactic| simp only [$a,*, isEmpty_conc, List.isEmpty_nil, List.isEmpty_cons, List.getLast?_concat, List.dropLast_concat, Option.bind_some, Option.map_some, and_self, and_true, true_and, bodyW, bodyF, wipeS, backS, unown, List.getD_cons_succ, List.getD_cons_zero, W_bind, W_ok, W_ex, r_ok, r_ex, slots0, List.map_cons, List.map_nil, List.length_cons, List.length_nil, List.replicate_succ, List.replicate_zero, List.cons_append, List.nil_append, List.getElem?_cons_succ, List.getElem?_cons_zero, List.set_cons_succ, List.set_cons_zero, if_true, if_false, Bool.false_eq_true, Bool.not_true, Bool.not_false, Nat.reduceAdd, Nat.reduceSub, Nat.reduceLT, Nat.reduceLeDiff, varR_own, varR_fz, pkR_own, pkR_fz, mvR_own, mvR_fz, slV_own, slV_fz, optR_some, x_var, m_var, p_var, jn_some, rd_obj, rd_bor, rd_non, rd_bl, rd_int, rd_str, rd_tup, rd_lst, rd_dct, rd_ins, x_int, x_str, x_bl, x_non, x_gint, x_dnew, p_p1, p_p2, p_int, p_str, p_bl, p_non, p_gint, p_cut, p_and, p_or, p_not, p_ife, p_chain, p_tup, p_lst, p_dnew, p_call, p_make, p_fld, p_get, p_index, p_comp, m_p1, m_p2, m_int, m_str, m_bl, m_non, m_gint, m_cut, m_and, m_or, m_not, m_ife, m_chain, m_tup, m_lst, m_dnew, m_call, m_make, m_fld, m_get, m_index, p_dcomp, m_dcomp, m_comp, m_d1, m_nobj, m_isC, m_pop, p_isC, p_pop, p_d1, x_p1, x_p2, x_cut, x_and, x_or, andR_t, andR_f, orR_f, orR_t, x_not, x_ife, x_tup, x_lst, x_d1, x_nobj, x_call, ofFR_ok, ofFR_ex, mkR_f, mkR_t, mkI_some, x_make, x_fld, fldR_ins, isCR_ins, isCR_tup, isCR_lst, isCR_int, isCR_non, isCR_bl, isCR_str, isCR_dct, x_isC, x_get, getRV_d, idxRV_l, x_index0, x_index, x_app, x_ext, extR_l, x_pop, put_bor, putLR_own, putLX_some, put_obj, putOR_l, putOX_some, chk_d, chk_l, isLs_l, isDc_d, puti_bor, putIR_own, putCV_some, puti_obj, putIO_some, putC_l, putC_d, del_bor, delR_own, st_del, putf_obj, putFR_ins, pF_nil, pF_eq, xs_nil, xs_cons, xo_none, xo_some, xoR_int, t_and, t_or, t_not, t_cmp, tR_some, t_isN, x_chain, chR_int, chX_int, t_chn, t_val, s_nil, s_cons, seq_nx, seq_ret, seq_brk, st_set, setV_ok, st_par, st_unpack2, st_unpack, tgR_some, st_setI, st_setF, st_aug, augR_fz, augY_int, augX_some, st_augI, idxL_l, addI_i, st_expr, st_ite, st_for, st_while, st_ret, st_retN, st_brk, st_pass, st_raise, st_try, try_ok, st_kill, tg_nm, tg2, tg2a, p_lend, m_lend, p_prop, m_prop, p_lenC, m_lenC, p_eqC, m_eqC, x_prop, propR_ins, x_lenC, lenX_ins, ofFN_ok2, boolR_bl, x_eqC, blT_bl, t_eqC, eqOk_i, eqOk_t, q_len_l, q_len_t, q_len_d, q_sum, q_sum_t, q_list_l, q_list_t, q_list_d, q_tuple_l, q_tuple_t, q_sorted, q_max, q_min, q_int_i, q_int_b, q_abs, q_neg, q_isNone, q_notNone, q_isInt_i, q_isBool_i, q_isTuple_t, q_isList_l, q_add_i, q_sub, q_gt, q_le, q_ge, q_rev, q_isLT_l, q_isLT_t, q_isLT_n, q_max2, q_min2, bM_s, nM_s, vM_s, q_eq, q_ne, q_lt, q_in_l, q_in_t, kM_s, q_in_d, q_nin_l, q_nin_t, q_nin_d, q_idx_l, q_idx_t, q_idx_d, q_tr_bl, q_tr_int, q_tr_non, q_tr_tup, q_tr_lst, q_tr_dct, at_0, at_1, at_2, w_lst, w_tup, w_dct, w_enum_l, w_enum_t, w_rev_l, w_rev_t, key_i, vk_num, vk_kT, vk_kP, key_t, key_p, e_int, e_tup, e_lst, e_pair, e_rows, e_tab, n_int, n_tup, e_nn, e_tt, e_cn, e_ct, e_nil_l, e_nil_t, l_int, l_tup, q_minT, q_sortD, lM_s, min_rows] $[$loc]?)
theorem leni1 (n : Nat) : decide ((n : Int) = 1) = decide (n = 1) := decide_eq_decide.mpr (by omega)
theorem getD_mapI {o : Option Int} {d : Int} : (o.map Val.int).getD (.int d) = .int (o.getD d) := by cases o <;> rfl
theorem dE1 {k : List Int} {v : Int} : [(kT k, Val.int v)] = dE kT .int [(k, v)] := rfl
theorem dE0 : ([] : List (NestedKey × Val)) = dE kT .int [] := rfl
def pairV (p : Int × Int) : Val := .tup [.int p.1, .int p.2]
theorem pairV_eq {p : Int × Int} : pairV p = .tup [.int p.1, .int p.2] := rfl
/-- the letters that make sure, and the stands then -/
def sureF (t : List (List Int)) (R : List Int) (a : Int) : List (Int × Int) := if (ledI t R a).length = 1 then [(a, (ledI t R a).headD 0)] else []
def sureI (t : List (List Int)) (m : Nat) (R : List Int) : List (Int × Int) := (rangeI 0 m).flatMap (sureF t R)
theorem sure_snoc {t : List (List Int)} {R d : List Int} {a : Int} : (d ++ [a]).flatMap (sureF t R) = d.flatMap (sureF t R) ++ sureF t R a := by simp
theorem sure_len {t : List (List Int)} {R : List Int} : ∀ d : List Int, (d.flatMap (sureF t R)).length ≤ d.length
  | [] => Nat.le_refl _
  | a :: d => by
    have := sure_len (t := t) (R := R) d
    have h : (sureF t R a).length ≤ 1 := by unfold sureF; split <;> simp
    rw [List.flatMap_cons, List.length_append, List.length_cons]
    omega
def Sp_sure_letters (φ : Fn1) : Prop := ∀ (t : List (List Int)) (m : Nat) w, TOk t m → φ [machV t] w = .ok (.lst ((sureI t m (reachI t m)).map pairV)) true w
theorem ok_sure_letters {Φ : Fns} (h1 : Sp_check_machine (Φ "check_machine")) (h2 : Sp_all_letters (Φ "all_letters")) (h3 : Sp_led (Φ "led")) (h4 : Sp_reached_by (Φ "reached_by")) : Sp_sure_letters (runDef Φ 4 A.sure_letters) := fun t m w ht => by
  refine FW_eq (run_W ?_)
  have h0 : 0 ≤ sizeLine := by rw [sz]; omega
  have h02 : 2 ≤ sizeLine := by rw [sz]; omega
  push_cast [A.sure_letters, h1 t w, h2 t m w ht, h0]
  refine forL_W (fun d r s' => ∃ j2 j3, s' = ⟨[.fz (machV t), .own (.lst ((d.flatMap (sureF t (reachI t m))).map pairV)), j2, j3], w⟩) ⟨_, _, rfl⟩ ?_ ?_
  · rintro d a r _ e ⟨j2, j3, rfl⟩
    have ha : IsL m a := letters_is a (by rw [e]; simp)
    have hd : d.length < 5 := by
      have := congrArg List.length e
      have m4 := ht.m4
      rw [rangeI_len] at this; simp at this; omega
    have hs : (d.flatMap (sureF t (reachI t m))).length < sizeLine := by
      have := sure_len (t := t) (R := reachI t m) d
      rw [sz]; omega
    refine ⟨_, tg_nm (by simp), ?_⟩
    push_cast [h4 t m w ht, (h3 t m (reachI t m) a w ht reachI_is (reach_lot.len ht) ha).2, List.length_map, leni1]
    cases hL : ledI t (reachI t m) a with
    | nil => 
      have hF : sureF t (reachI t m) a = [] := by simp [sureF, hL]
      have hn : decide ((0 : Nat) = 1) = false := rfl
      push_cast [hn]
      exact ⟨_, _, by rw [sure_snoc, hF, List.append_nil]⟩
    | cons x L =>
      cases L with
      | nil =>
        have hF : sureF t (reachI t m) a = [(a, x)] := by simp [sureF, hL]
        push_cast [decide_true, h02, hs, List.length_map]
        exact ⟨_, _, by rw [sure_snoc, hF, List.map_append]; rfl⟩
      | cons y L =>
        have hF : sureF t (reachI t m) a = [] := by simp [sureF, hL]
        have hn : decide ((L.length + 1 + 1 : Nat) = 1) = false := by simp
        push_cast [hn]
        exact ⟨_, _, by rw [sure_snoc, hF, List.append_nil]⟩
  · rintro _ ⟨j2, j3, rfl⟩
    push_cast [r_ok]
    rfl
theorem cnt_snoc {t : List (List Int)} {S : List Int} {c : Int} {acc : Cnt} {d : List Int} {a : Int} : (d ++ [a]).foldl (cnt1 t S c) acc = cnt1 t S c (d.foldl (cnt1 t S c) acc) a := by simp
theorem cntP_snoc {t : List (List Int)} {ls : List Int} {acc : Cnt} {d : Cnt} {p : List Int × Int} : (d ++ [p]).foldl (cntP t ls) acc = cntP t ls (d.foldl (cntP t ls) acc) p := by simp
theorem cntIt_succ {t : List (List Int)} {ls : List Int} {k : Nat} {kvs : Cnt} : cntIt t ls (k + 1) kvs = cntS t ls (cntIt t ls k kvs) := rfl
def Sp_telling (φ : Fn1) : Prop := ∀ (t : List (List Int)) (m : Nat) (k : Int) w, TOk t m → 0 ≤ k → k ≤ 200 → φ [machV t, .int k] w = .ok (.int (telI t m (reachI t m) k.toNat)) false w
theorem ok_telling {Φ : Fns} (h1 : Sp_check_machine (Φ "check_machine")) (h2 : Sp_check_number (Φ "check_number")) (h3 : Sp_reached_by (Φ "reached_by")) (h4 : Sp_all_letters (Φ "all_letters")) (h5 : Sp_led (Φ "led")) : Sp_telling (runDef Φ 8 A.telling) := fun t m k w ht k0 k2 => by
  refine FW_eq (run_W ?_)
  have hr : walk .range1 [.int k] = some ((rangeI 0 k.toNat).map .int) := by rw [w_range1 (by omega) (by omega), intRange_eq]
  push_cast [A.telling, h1 t w, h2 k 0 200 w k0 k2, h3 t m w ht, dE1, hr]
  refine forL_W (fun d r s' => ∃ j3 j4 j5 j6 j7, s' = ⟨[.fz (machV t), .fz (.int k), .own (.dct true (dE kT .int (cntIt t (rangeI 0 m) d.length [(reachI t m, 1)]))), j3, j4, j5, j6, j7], w⟩) ⟨_, _, _, _, _, rfl⟩ ?_ ?_
  · rintro d x r _ e ⟨j3, j4, j5, j6, j7, rfl⟩
    have hI := CI.it ht letters_is (CI.one (reach_lot (t := t) (m := m))) d.length
    generalize hk : cntIt t (rangeI 0 m) d.length [(reachI t m, 1)] = kvs at hI ⊢
    refine ⟨_, tg_nm (by simp), ?_⟩
    have hw : (dE kT .int kvs).map (fun p => vk p.1) = kvs.map fun p => tupI p.1 := by simp [dE, vk_kT]
    push_cast [hw, dE0]
    refine forL_W (fun d2 r2 s' => ∃ j5 j6 j7, s' = ⟨[.fz (machV t), .fz (.int k), .fz (.dct true (dE kT .int kvs)), .fz (.int x), .own (.dct true (dE kT .int (d2.foldl (cntP t (rangeI 0 m)) []))), j5, j6, j7], w⟩ ∧ CI t (d2.foldl (cntP t (rangeI 0 m)) [])) ⟨_, _, _, rfl, ⟨by simp, by simp⟩⟩ ?_ ?_
    · rintro d2 p r2 _ e2 ⟨j5, j6, j7, rfl, hC⟩
      have hp : p ∈ kvs := by rw [e2]; simp
      have hS := hI.lot p hp
      generalize hacc : d2.foldl (cntP t (rangeI 0 m)) [] = acc at hC ⊢
      refine ⟨_, tg_nm (by simp), ?_⟩
      push_cast [h4 t m w ht]
      refine forL_W (fun d3 r3 s' => ∃ j6 j7, s' = ⟨[.fz (machV t), .fz (.int k), .fz (.dct true (dE kT .int kvs)), .fz (.int x), .own (.dct true (dE kT .int (d3.foldl (cnt1 t p.1 p.2) acc))), .fz (tupI p.1), j6, j7], w⟩ ∧ CI t (d3.foldl (cnt1 t p.1 p.2) acc)) ⟨_, _, rfl, hC⟩ ?_ ?_
      · rintro d3 a r3 _ e3 ⟨j6, j7, rfl, hC3⟩
        have ha : IsL m a := letters_is a (by rw [e3]; simp)
        have hget : aGet kvs p.1 = some p.2 := aGet_of hI.nd hp
        have hlen : (dE kT .int (d3.foldl (cnt1 t p.1 p.2) acc)).length < sizeLine := by
          have := hC3.len ht
          rw [dE_len, sz]; omega
        refine ⟨_, tg_nm (by simp), ?_⟩
        push_cast [tupI_eq, (h5 t m p.1 a w ht hS.2 (hS.len ht) ha).1, getR, dGet_E kT_inj, hget, getD_mapI, hlen, dPut_E kT_inj]
        exact ⟨_, _, by rw [cnt_snoc]; rfl, by rw [cnt_snoc]; exact hC3.cnt1 ht hS ha⟩
      · rintro _ ⟨j6, j7, rfl, hC3⟩
        exact ⟨_, _, _, by rw [cntP_snoc, hacc]; rfl, by rw [cntP_snoc, hacc]; exact hC3⟩
    · rintro _ ⟨j5, j6, j7, rfl, hC⟩
      push_cast [r_ok]
      exact ⟨_, _, _, _, _, by rw [List.length_append, List.length_cons, List.length_nil, cntIt_succ, hk]; rfl⟩
  · rintro _ ⟨j3, j4, j5, j6, j7, rfl⟩
    rw [rangeI_len]
    have hI := CI.it ht letters_is (CI.one (reach_lot (t := t) (m := m))) k.toNat
    push_cast [r_ok]
    refine W_comp_filt (cntIt t (rangeI 0 m) k.toNat [(reachI t m, 1)]) (fun p => tupI p.1) (fun p => .int p.2) (fun p => decide (p.1.length = 1)) ?_
    push_cast [r_ok]
    refine ⟨?_, by have := hI.len ht; rw [sz]; omega, fun p hp => ?_, ?_⟩
    · simp [dE, vk_kT]
    · push_cast [tg_nm, tupI_eq, List.length_map, leni1, dGet_E kT_inj, aGet_of hI.nd hp]
      exact fun _ => trivial
    · have e : ∀ l : Cnt, l.map (fun p => Val.int p.2) = (l.map (·.2)).map .int := fun l => by simp
      rw [e]
      push_cast [r_ok]
      rfl
end TL

set_option Elab.async false
set_option linter.all false
set_option maxRecDepth 100000
set_option maxHeartbeats 4000000
/-! LSG: the least of the shortest rows. -/
namespace TL
open PySem PySem.Spec PyProof.Rows L2
local macro_rules | `(tactic| push_cast [$a,*] $[$loc]?) => `(tactic| simp only [$a,*, isEmpty_conc, List.isEmpty_nil, List.isEmpty_cons, List.getLast?_concat, List.dropLast_concat, Option.bind_some, Option.map_some, and_self, and_true, true_and, bodyW, bodyF, wipeS, backS, unown, List.getD_cons_succ, List.getD_cons_zero, W_bind, W_ok, W_ex, r_ok, r_ex, slots0, List.map_cons, List.map_nil, List.length_cons, List.length_nil, List.replicate_succ, List.replicate_zero, List.cons_append, List.nil_append, List.getElem?_cons_succ, List.getElem?_cons_zero, List.set_cons_succ, List.set_cons_zero, if_true, if_false, Bool.false_eq_true, Bool.not_true, Bool.not_false, Nat.reduceAdd, Nat.reduceSub, Nat.reduceLT, Nat.reduceLeDiff, varR_own, varR_fz, pkR_own, pkR_fz, mvR_own, mvR_fz, slV_own, slV_fz, optR_some, x_var, m_var, p_var, jn_some, rd_obj, rd_bor, rd_non, rd_bl, rd_int, rd_str, rd_tup, rd_lst, rd_dct, rd_ins, x_int, x_str, x_bl, x_non, x_gint, x_dnew, p_p1, p_p2, p_int, p_str, p_bl, p_non, p_gint, p_cut, p_and, p_or, p_not, p_ife, p_chain, p_tup, p_lst, p_dnew, p_call, p_make, p_fld, p_get, p_index, p_comp, m_p1, m_p2, m_int, m_str, m_bl, m_non, m_gint, m_cut, m_and, m_or, m_not, m_ife, m_chain, m_tup, m_lst, m_dnew, m_call, m_make, m_fld, m_get, m_index, p_dcomp, m_dcomp, m_comp, m_d1, m_nobj, m_isC, m_pop, p_isC, p_pop, p_d1, x_p1, x_p2, x_cut, x_and, x_or, andR_t, andR_f, orR_f, orR_t, x_not, x_ife, x_tup, x_lst, x_d1, x_nobj, x_call, ofFR_ok, ofFR_ex, mkR_f, mkR_t, mkI_some, x_make, x_fld, fldR_ins, isCR_ins, isCR_tup, isCR_lst, isCR_int, isCR_non, isCR_bl, isCR_str, isCR_dct, x_isC, x_get, getRV_d, idxRV_l, x_index0, x_index, x_app, x_ext, extR_l, x_pop, put_bor, putLR_own, putLX_some, put_obj, putOR_l, putOX_some, chk_d, chk_l, isLs_l, isDc_d, puti_bor, putIR_own, putCV_some, puti_obj, putIO_some, putC_l, putC_d, del_bor, delR_own, st_del, putf_obj, putFR_ins, pF_nil, pF_eq, xs_nil, xs_cons, xo_none, xo_some, xoR_int, t_and, t_or, t_not, t_cmp, tR_some, t_isN, x_chain, chR_int, chX_int, t_chn, t_val, s_nil, s_cons, seq_nx, seq_ret, seq_brk, st_set, setV_ok, st_par, st_unpack2, st_unpack, tgR_some, st_setI, st_setF, st_aug, augR_fz, augY_int, augX_some, st_augI, idxL_l, addI_i, st_expr, st_ite, st_for, st_while, st_ret, st_retN, st_brk, st_pass, st_raise, st_try, try_ok, st_kill, tg_nm, tg2, tg2a, p_lend, m_lend, p_prop, m_prop, p_lenC, m_lenC, p_eqC, m_eqC, x_prop, propR_ins, x_lenC, lenX_ins, ofFN_ok2, boolR_bl, x_eqC, blT_bl, t_eqC, eqOk_i, eqOk_t, q_len_l, q_len_t, q_len_d, q_sum, q_sum_t, q_list_l, q_list_t, q_list_d, q_tuple_l, q_tuple_t, q_sorted, q_max, q_min, q_int_i, q_int_b, q_abs, q_neg, q_isNone, q_notNone, q_isInt_i, q_isBool_i, q_isTuple_t, q_isList_l, q_add_i, q_sub, q_gt, q_le, q_ge, q_rev, q_isLT_l, q_isLT_t, q_isLT_n, q_max2, q_min2, bM_s, nM_s, vM_s, q_eq, q_ne, q_lt, q_in_l, q_in_t, kM_s, q_in_d, q_nin_l, q_nin_t, q_nin_d, q_idx_l, q_idx_t, q_idx_d, q_tr_bl, q_tr_int, q_tr_non, q_tr_tup, q_tr_lst, q_tr_dct, at_0, at_1, at_2, w_lst, w_tup, w_dct, w_enum_l, w_enum_t, w_rev_l, w_rev_t, key_i, vk_num, vk_kT, vk_kP, key_t, key_p, e_int, e_tup, e_lst, e_pair, e_rows, e_tab, n_int, n_tup, e_nn, e_tt, e_cn, e_ct, e_nil_l, e_nil_t, l_int, l_tup, q_minT, q_sortD, lM_s, min_rows] $[$loc]?)
def lvV (p : List Int × List Int) : Val := .tup [tupI p.1, tupI p.2]
theorem lvV_eq {p : List Int × List Int} : lvV p = .tup [.tup (p.1.map .int), .tup (p.2.map .int)] := rfl
def optV : Option (List Int) → Val
  | none => .non
  | some r => tupI r
theorem dS1 {k : List Int} : [(kT k, Val.bl true)] = dS kT [k] := rfl
theorem lv_snoc {L : Lv} {S row : List Int} {a : Int} : L.map lvV ++ [.tup [.tup (S.map .int), .tup (row.map .int ++ [.int a])]] = (L ++ [(S, row ++ [a])]).map lvV := by simp [lvV_eq]
def Sp_least_sure (φ : Fn1) : Prop := ∀ (t : List (List Int)) (m : Nat) w, TOk t m → φ [machV t] w = .ok (optV (lsI t m (reachI t m))) false w
theorem ok_least_sure {Φ : Fns} (h1 : Sp_check_machine (Φ "check_machine")) (h2 : Sp_reached_by (Φ "reached_by")) (h3 : Sp_all_letters (Φ "all_letters")) (h4 : Sp_led (Φ "led")) : Sp_least_sure (runDef Φ 9 A.least_sure) := fun t m w ht => by
  refine FW_eq (run_W ?_)
  have h0 : 0 ≤ sizeLine := by rw [sz]; omega
  have h01 : 1 ≤ sizeLine := by rw [sz]; omega
  have h02 : 2 ≤ sizeLine := by rw [sz]; omega
  have hR := reach_lot (t := t) (m := m)
  have hRn : 1 ≤ (reachI t m).length := List.length_pos_of_mem (zero_reach ht)
  generalize hRR : reachI t m = R at hR hRn ⊢
  push_cast [A.least_sure, h1 t w, h2 t m w ht, hRR, List.length_map, leni1]
  by_cases hone : R.length = 1
  · push_cast [hone, decide_true, h0]
    simp only [lsI, hone, if_true, optV, tupI_eq, List.map_nil]
  push_cast [hone, decide_false, h0, h01, h02, dS1]
  have hls : lsI t m R = srch t (rangeI 0 m) 200 [(R, [])] [R] := if_neg hone
  refine whileN_W (α := Lv × List (List Int) × Nat × Nat) (fun x s' => ∃ j4 j5 j6 j7 j8, s' = ⟨[.fz (machV t), .fz (.tup (R.map .int)), .own (.dct true (dS kT x.2.1)), .own (.lst (x.1.map lvV)), j4, j5, j6, j7, j8], w⟩ ∧
    BI t m x.2.1 x.1 x.2.2.1 ∧ (∀ S ∈ x.2.1, S.length ≠ 1) ∧ (x.1 ≠ [] → x.2.2.1 + 1 ≤ x.2.1.length) ∧ lsI t m R = (if x.1 = [] then none else srch t (rangeI 0 m) x.2.2.2 x.1 x.2.1) ∧ x.1.length ≤ 64 ∧
    2 * (64 - x.2.1.length) + (if x.1 = [] then 0 else 1) < x.2.2.2) (fun x => 2 * (64 - x.2.1.length) + (if x.1 = [] then 0 else 1)) ?_ _ ([(R, [])], [R], 0, 200) _ ⟨_, _, _, _, _, rfl, ⟨by simp, by simpa using hR, by simpa using hRn, by simp, by simp⟩, by simpa using hone, by simp, by simpa using hls, by simp, by simp⟩ (by rw [fu]; simp)
  rintro ⟨level, seen, n, k⟩ _ ⟨j4, j5, j6, j7, j8, rfl, hbi, hns, hn, hval, hl64, hk⟩
  simp only at hbi hns hn hval hl64 hk
  cases hlev : level with
  | nil =>
    subst hlev
    simp only [if_true] at hval
    push_cast [r_ok]
    rw [hval]
    rfl
  | cons q0 qs =>
    rw [← hlev]
    have hne : level ≠ [] := by rw [hlev]; simp
    simp only [hne, if_false] at hval hk
    obtain ⟨k, rfl⟩ : ∃ j, k = j + 1 := ⟨k - 1, by omega⟩
    have hn := hn hne
    have hs64 : seen.length ≤ 64 := lots_len ht hbi.nd hbi.lot
    have htr : (level.map lvV).isEmpty = false := by rw [hlev]; rfl
    push_cast [htr, h0, hne]
    refine forL_W (fun d r s' => ∃ j5 j6 j7 j8, s' = ⟨[.fz (machV t), .fz (.tup (R.map .int)), .own (.dct true (dS kT (d.foldl (putLv t (rangeI 0 m)) (seen, [])).1)), .fz (.lst (level.map lvV)), .own (.lst ((d.foldl (putLv t (rangeI 0 m)) (seen, [])).2.map lvV)), j5, j6, j7, j8], w⟩ ∧
      BS t m seen (n + 1) (d.foldl (putLv t (rangeI 0 m)) (seen, [])) ∧ ∀ S ∈ (d.foldl (putLv t (rangeI 0 m)) (seen, [])).1, S.length ≠ 1) ⟨_, _, _, _, rfl, BS.start hbi, hns⟩ ?_ ?_
    · rintro d p r _ e ⟨j5, j6, j7, j8, rfl, hst, hst1⟩
      have hp : p ∈ level := by rw [e]; simp
      have hpS := hbi.lot p.1 (hbi.sub p hp)
      have hpn := hbi.ne p.1 (hbi.sub p hp)
      have hpl := hbi.len p hp
      have hsp := stepB_split (t := t) (ls := rangeI 0 m) (seen := seen) e
      generalize hS0 : d.foldl (putLv t (rangeI 0 m)) (seen, []) = st at hst hst1 hsp ⊢
      refine ⟨_, tg2 (by simp) (by simp), ?_⟩
      push_cast [h3 t m w ht, tupI_eq]
      refine forL_W (fun d3 r3 s' => ∃ j7 j8, s' = ⟨[.fz (machV t), .fz (.tup (R.map .int)), .own (.dct true (dS kT (d3.foldl (put1 t p.1 p.2) st).1)), .fz (.lst (level.map lvV)), .own (.lst ((d3.foldl (put1 t p.1 p.2) st).2.map lvV)), .fz (.tup (p.1.map .int)), .fz (.tup (p.2.map .int)), j7, j8], w⟩ ∧
        BS t m seen (n + 1) (d3.foldl (put1 t p.1 p.2) st) ∧ ∀ S ∈ (d3.foldl (put1 t p.1 p.2) st).1, S.length ≠ 1) ⟨_, _, rfl, hst, hst1⟩ ?_ ?_
      · rintro d3 a r3 _ e3 ⟨j7, j8, rfl, hs3, hs31⟩
        have ha : IsL m a := letters_is a (by rw [e3]; simp)
        have hsp3 := putLv_split (t := t) (st := st) (p := p) e3
        generalize hS3 : d3.foldl (put1 t p.1 p.2) st = st3 at hs3 hs31 hsp3 ⊢
        have hadd : (p.2.map Val.int).length + ([Val.int a] : List Val).length ≤ sizeLine := by simp only [List.length_map, List.length_cons, List.length_nil]; rw [sz]; omega
        have hlen2 := hs3.len2 ht
        have hlen1 := hs3.len ht
        have hd1 : (dS kT st3.1).length < sizeLine := by rw [dS_len, sz]; omega
        have hd2 : st3.2.length < sizeLine := by rw [sz]; omega
        refine ⟨_, tg_nm (by simp), ?_⟩
        push_cast [(h4 t m p.1 a w ht hpS.2 (hpS.len ht) ha).1, List.length_map, leni1, h01]
        by_cases hsing : (ledI t p.1 a).length = 1
        · have hnew : ledI t p.1 a ∉ st3.1 := fun hm => hs31 _ hm hsing
          push_cast [hsing, decide_true, q_add_t hadd]
          have f1 : (put1 t p.1 p.2 st3 a).2.find? single = some (ledI t p.1 a, p.2 ++ [a]) := by
            rw [put1_new hnew]
            simp only
            rw [List.find?_append, find_no fun x hx => hs31 _ (by rw [hs3.app]; exact List.mem_append_right _ (List.mem_map_of_mem hx))]
            simp [single, hsing]
          have f2 := find_grow (putLv_grow (t := t) (p := p) (ls := r3) (st := put1 t p.1 p.2 st3 a)) f1
          rw [← hsp3] at f2
          have f3 := find_grow (stepB_grow (t := t) (ls := rangeI 0 m) (level := r) (st := putLv t (rangeI 0 m) st p)) f2
          rw [← hsp] at f3
          rw [hval]
          simp only [srch, f3, optV, tupI_eq, List.map_append, List.map_cons, List.map_nil]
        · by_cases hm : ledI t p.1 a ∈ st3.1
          · push_cast [hsing, hm, decide_true, decide_false, dS_in kT_inj]
            exact ⟨_, _, by rw [List.foldl_append, hS3, List.foldl_cons, List.foldl_nil, put1_in hm], by rw [List.foldl_append, hS3, List.foldl_cons, List.foldl_nil, put1_in hm]; exact hs3, by rw [List.foldl_append, hS3, List.foldl_cons, List.foldl_nil, put1_in hm]; exact hs31⟩
          · have hput := hs3.put ht hpS hpn (row := p.2) (by omega) ha
            rw [put1_new hm] at hput
            push_cast [hsing, hm, decide_false, dS_in kT_inj, hd1, hd2, dS_put kT_inj, q_add_t hadd, h01, h02, List.length_map]
            refine ⟨_, _, by rw [List.foldl_append, hS3, List.foldl_cons, List.foldl_nil, put1_new hm, lv_snoc], by rw [List.foldl_append, hS3, List.foldl_cons, List.foldl_nil, put1_new hm]; exact hput, ?_⟩
            rw [List.foldl_append, hS3, List.foldl_cons, List.foldl_nil, put1_new hm]
            intro S hS
            rcases List.mem_append.mp hS with hS | hS
            · exact hs31 S hS
            · simp at hS; rw [hS]; exact hsing
      · rintro _ ⟨j7, j8, rfl, hs3, hs31⟩
        have ee : (d ++ [p]).foldl (putLv t (rangeI 0 m)) (seen, []) = (rangeI 0 m).foldl (put1 t p.1 p.2) st := by
          rw [List.foldl_append, hS0]; rfl
        exact ⟨_, _, _, _, by rw [ee], by rw [ee]; exact hs3, by rw [ee]; exact hs31⟩
    · rintro _ ⟨j5, j6, j7, j8, rfl, hst, hst1⟩
      have hsp : stepB t (rangeI 0 m) level seen = level.foldl (putLv t (rangeI 0 m)) (seen, []) := rfl
      generalize hS0 : level.foldl (putLv t (rangeI 0 m)) (seen, []) = st at hst hst1 hsp ⊢
      have hlen2 := hst.len2 ht
      have hlen1 := hst.len ht
      have hlen : st.1.length = seen.length + st.2.length := by rw [hst.app, List.length_append, List.length_map]
      have hno := find_no fun x hx => hst1 _ (by rw [hst.app]; exact List.mem_append_right _ (List.mem_map_of_mem (f := (·.1)) hx))
      push_cast [r_ok]
      refine ⟨(st.2, st.1, n + 1, k), ?_, _, _, _, _, _, rfl, hst.bi, hst1, fun h => ?_, ?_, hlen2, ?_⟩
      · simp only [hne, if_false]
        by_cases h : st.2 = []
        · simp [h] at hlen ⊢
          omega
        · have := List.length_pos_iff.mpr h
          simp only [h, if_false]; omega
      · have h' : st.2 ≠ [] := h
        have := List.length_pos_iff.mpr h'
        simp only
        omega
      · rw [hval]
        simp only [srch, hsp, hno]
      · by_cases h : st.2 = []
        · simp [h] at hlen ⊢
          omega
        · have := List.length_pos_iff.mpr h
          simp only [h, if_false]; omega
end TL

set_option Elab.async false
set_option linter.all false
set_option maxRecDepth 100000
set_option maxHeartbeats 4000000
/-! LSV: the cheapest row that makes sure. -/
namespace TL
open PySem PySem.Spec PyProof.Rows L2
local macro_rules | `(tactic| push_cast [$a,*] $[$loc]?) => `(tactic| simp only [$a,*, isEmpty_conc, List.isEmpty_nil, List.isEmpty_cons, List.getLast?_concat, List.dropLast_concat, Option.bind_some, Option.map_some, and_self, and_true, true_and, bodyW, bodyF, wipeS, backS, unown, List.getD_cons_succ, List.getD_cons_zero, W_bind, W_ok, W_ex, r_ok, r_ex, slots0, List.map_cons, List.map_nil, List.length_cons, List.length_nil, List.replicate_succ, List.replicate_zero, List.cons_append, List.nil_append, List.getElem?_cons_succ, List.getElem?_cons_zero, List.set_cons_succ, List.set_cons_zero, if_true, if_false, Bool.false_eq_true, Bool.not_true, Bool.not_false, Nat.reduceAdd, Nat.reduceSub, Nat.reduceLT, Nat.reduceLeDiff, varR_own, varR_fz, pkR_own, pkR_fz, mvR_own, mvR_fz, slV_own, slV_fz, optR_some, x_var, m_var, p_var, jn_some, rd_obj, rd_bor, rd_non, rd_bl, rd_int, rd_str, rd_tup, rd_lst, rd_dct, rd_ins, x_int, x_str, x_bl, x_non, x_gint, x_dnew, p_p1, p_p2, p_int, p_str, p_bl, p_non, p_gint, p_cut, p_and, p_or, p_not, p_ife, p_chain, p_tup, p_lst, p_dnew, p_call, p_make, p_fld, p_get, p_index, p_comp, m_p1, m_p2, m_int, m_str, m_bl, m_non, m_gint, m_cut, m_and, m_or, m_not, m_ife, m_chain, m_tup, m_lst, m_dnew, m_call, m_make, m_fld, m_get, m_index, p_dcomp, m_dcomp, m_comp, m_d1, m_nobj, m_isC, m_pop, p_isC, p_pop, p_d1, x_p1, x_p2, x_cut, x_and, x_or, andR_t, andR_f, orR_f, orR_t, x_not, x_ife, x_tup, x_lst, x_d1, x_nobj, x_call, ofFR_ok, ofFR_ex, mkR_f, mkR_t, mkI_some, x_make, x_fld, fldR_ins, isCR_ins, isCR_tup, isCR_lst, isCR_int, isCR_non, isCR_bl, isCR_str, isCR_dct, x_isC, x_get, getRV_d, idxRV_l, x_index0, x_index, x_app, x_ext, extR_l, x_pop, put_bor, putLR_own, putLX_some, put_obj, putOR_l, putOX_some, chk_d, chk_l, isLs_l, isDc_d, puti_bor, putIR_own, putCV_some, puti_obj, putIO_some, putC_l, putC_d, del_bor, delR_own, st_del, putf_obj, putFR_ins, pF_nil, pF_eq, xs_nil, xs_cons, xo_none, xo_some, xoR_int, t_and, t_or, t_not, t_cmp, tR_some, t_isN, x_chain, chR_int, chX_int, t_chn, t_val, s_nil, s_cons, seq_nx, seq_ret, seq_brk, st_set, setV_ok, st_par, st_unpack2, st_unpack, tgR_some, st_setI, st_setF, st_aug, augR_fz, augY_int, augX_some, st_augI, idxL_l, addI_i, st_expr, st_ite, st_for, st_while, st_ret, st_retN, st_brk, st_pass, st_raise, st_try, try_ok, st_kill, tg_nm, tg2, tg2a, p_lend, m_lend, p_prop, m_prop, p_lenC, m_lenC, p_eqC, m_eqC, x_prop, propR_ins, x_lenC, lenX_ins, ofFN_ok2, boolR_bl, x_eqC, blT_bl, t_eqC, eqOk_i, eqOk_t, q_len_l, q_len_t, q_len_d, q_sum, q_sum_t, q_list_l, q_list_t, q_list_d, q_tuple_l, q_tuple_t, q_sorted, q_max, q_min, q_int_i, q_int_b, q_abs, q_neg, q_isNone, q_notNone, q_isInt_i, q_isBool_i, q_isTuple_t, q_isList_l, q_add_i, q_sub, q_gt, q_le, q_ge, q_rev, q_isLT_l, q_isLT_t, q_isLT_n, q_max2, q_min2, bM_s, nM_s, vM_s, q_eq, q_ne, q_lt, q_in_l, q_in_t, kM_s, q_in_d, q_nin_l, q_nin_t, q_nin_d, q_idx_l, q_idx_t, q_idx_d, q_tr_bl, q_tr_int, q_tr_non, q_tr_tup, q_tr_lst, q_tr_dct, at_0, at_1, at_2, w_lst, w_tup, w_dct, w_enum_l, w_enum_t, w_rev_l, w_rev_t, key_i, vk_num, vk_kT, vk_kP, key_t, key_p, e_int, e_tup, e_lst, e_pair, e_rows, e_tab, n_int, n_tup, e_nn, e_tt, e_cn, e_ct, e_nil_l, e_nil_t, l_int, l_tup, q_minT, q_sortD, lM_s, min_rows] $[$loc]?)
/-- good prices -/
structure POk (m : Nat) (ps : List Int) : Prop where
  len : ps.length = m
  pos : ∀ p ∈ ps, 1 ≤ p ∧ p ≤ 10 ^ 30
def cP (ps : List Int) (a : Int) : Int := ps.getD a.toNat 0
theorem POk.c1 {m : Nat} {ps : List Int} (h : POk m ps) : ∀ a, IsL m a → 1 ≤ cP ps a := fun a ha => by
  have hl := h.len
  have : ps.getD a.toNat 0 ∈ ps := by
    rw [List.getD_eq_getElem?_getD, List.getElem?_eq_getElem (by omega)]
    exact List.getElem_mem _
  exact (h.pos _ this).1
def wyV (w : Way) : Val := .tup [.int w.1, .int w.2.1, tupI w.2.2]
theorem wyV_eq {w : Way} : wyV w = .tup [.int w.1, .int w.2.1, .tup (w.2.2.map .int)] := rfl
theorem rd_way {ρ : List Slot} {w : List (Option Val)} {v : Way} : rdv ⟨ρ, w⟩ (.val (wyV v)) = some (wyV v) := rfl
def Sp_check_prices (φ : Fn1) : Prop := ∀ (t : List (List Int)) (m : Nat) (ps : List Int) w, TOk t m → POk m ps → φ [machV t, .tup (ps.map .int)] w = .ok .non false w
theorem ok_check_prices {Φ : Fns} (h1 : Sp_is_from (Φ "is_from")) : Sp_check_prices (runDef Φ 3 A.check_prices) := fun t m ps w ht hp => by
  refine FW_eq (run_W ?_)
  have h0 := at_row (t := t) (s := 0) (by omega) (by have := ht.n1; omega)
  push_cast [A.check_prices, h0]
  push_cast [tupI_eq, Int.toNat_zero, List.length_map, ht.len0, hp.len, e_int, decide_true]
  refine forL_W (fun d r' s => ∃ j, s = ⟨[.fz (machV t), .fz (.tup (ps.map .int)), j], w⟩) ⟨_, rfl⟩ ?_ ?_
  · rintro d p r' _ e ⟨j, rfl⟩
    have hp1 := hp.pos p (by rw [e]; simp)
    have e30 : (10 : Int) ^ 30 = 1000000000000000000000000000000 := by decide
    rw [e30] at hp1
    refine ⟨_, tg_nm (by simp), ?_⟩
    push_cast [h1 _ _ _ _, hp1.1, hp1.2, and_self, decide_true]
    exact ⟨_, rfl⟩
  · rintro _ ⟨j, rfl⟩
    push_cast [r_ok]
def oWay : Option Way → Val
  | some w => .tup [.int w.1, tupI w.2.2]
  | none => .non
def encWay : EncO Way := EncO.int.trip EncO.int EncO.int.tupL
theorem encWay_v {w : Way} : encWay.e.v w = wyV w := rfl
theorem encWay_lt : encWay.lt = ltW := by
  funext a b
  show EncO.ltT EncO.int EncO.int EncO.int.tupL a b = ltW a b
  unfold EncO.ltT ltW
  have e : EncO.int.tupL.lt = ltL := by funext x y; exact lexL_int x y
  rw [e]
  rfl
def encQ : EncO (Way × List Int) := encWay.pair EncO.int.tupL
theorem encQ_v {q : Way × List Int} : encQ.e.v q = .tup [wyV q.1, tupI q.2] := rfl
theorem encQ_lt : encQ.lt = ltQ := by
  funext a b
  show EncO.ltP encWay EncO.int.tupL a b = ltQ a b
  unfold EncO.ltP ltQ
  have e : EncO.int.tupL.lt = ltL := by funext x y; exact lexL_int x y
  rw [e, encWay_lt]
theorem min_Q {q : Way × List Int} {qs : List (Way × List Int)} : minV ((q :: qs).map fun q => .tup [wyV q.1, tupI q.2]) = some (.tup [wyV (pickL ltQ q qs).1, tupI (pickL ltQ q qs).2]) := by
  have := encQ.min (by decide) q qs
  rw [encQ_lt] at this
  exact this
theorem min_W {q : Way} {qs : List Way} : minV ((q :: qs).map wyV) = some (wyV (pickL ltW q qs)) := by
  have := encWay.min (by decide) q qs
  rw [encWay_lt] at this
  exact this
theorem vEq_n {α : Type} [DecidableEq α] (e : Enc α) {n : Nat} (h : e.n ≤ n) (a b : α) : vEq n (e.v a) (e.v b) = some (decide (a = b)) := by
  simp only [vEq, e.pd n a h, e.pd n b h, e.eqv]
theorem lt_way {a b : Way} : vLt DEP (wyV a) (wyV b) = some (ltW a b) := by
  obtain ⟨a1, a2, a3⟩ := a
  obtain ⟨b1, b2, b3⟩ := b
  have e1 : vEq 7 (.int a1) (.int b1) = some (decide (a1 = b1)) := vEq_n Enc.int (by decide) a1 b1
  have e2 : vEq 7 (.int a2) (.int b2) = some (decide (a2 = b2)) := vEq_n Enc.int (by decide) a2 b2
  have e3 : vEq 7 (tupI a3) (tupI b3) = some (decide (a3 = b3)) := vEq_n Enc.int.tupL (by decide) a3 b3
  have l3 : vLt 7 (tupI a3) (tupI b3) = some (ltL a3 b3) := lts_int a3 b3
  have l1 : vLt 7 (.int a1) (.int b1) = some (decide (a1 < b1)) := rfl
  have l2 : vLt 7 (.int a2) (.int b2) = some (decide (a2 < b2)) := rfl
  show vLts 7 [.int a1, .int a2, tupI a3] [.int b1, .int b2, tupI b3] = _
  rw [ltW_mk]
  simp only [vLts, e1, e2, e3, l1, l2, l3]
  by_cases h1 : a1 = b1 <;> by_cases h2 : a2 = b2 <;> by_cases h3 : a3 = b3 <;> simp [h1, h2, h3]
def wD (wt : WT) : List (NestedKey × Val) := dE kT wyV wt
theorem noD_ints : ∀ xs : List Int, noDs (xs.map .int) = true
  | [] => rfl
  | x :: xs => by simp [noDs, noD, noD_ints xs]
theorem noD_qs : ∀ xs : List (Way × List Int), noDs (xs.map fun q => .tup [wyV q.1, tupI q.2]) = true
  | [] => rfl
  | x :: xs => by
    have ih := noD_qs xs
    show (noD (.tup [wyV x.1, tupI x.2]) && noDs _) = true
    rw [ih]
    simp [noD, noDs, wyV, tupI, noD_ints]
def Sp_cheapest_sure (φ : Fn1) : Prop := ∀ (t : List (List Int)) (m : Nat) (ps : List Int) w, TOk t m → POk m ps → ∃ o, IsBest t m (cP ps) (reachI t m) o ∧ φ [machV t, .tup (ps.map .int)] w = .ok (oWay o) false w
theorem wD_get {wt : WT} {S : List Int} : dGet (wD wt) (kT S) = (aGet wt S).map wyV := dGet_E kT_inj wt
theorem wD_put {wt : WT} {S : List Int} {w : Way} : dPut (wD wt) (kT S) (wyV w) = wD (aPut wt S w) := dPut_E kT_inj
theorem wD_del {wt : WT} {S : List Int} : dDel (wD wt) (kT S) = wD (aDel wt S) := dDel_E kT_inj
theorem ok_cheapest_sure {Φ : Fns} (h1 : Sp_check_machine (Φ "check_machine")) (h2 : Sp_check_prices (Φ "check_prices")) (h3 : Sp_reached_by (Φ "reached_by")) (h4 : Sp_all_letters (Φ "all_letters")) (h5 : Sp_led (Φ "led")) : Sp_cheapest_sure (runDef Φ 10 A.cheapest_sure) := fun t m ps w ht hp => by
  have key : (runDef Φ 10 A.cheapest_sure [machV t, .tup (ps.map .int)] w).W (fun v b w' => ∃ o, IsBest t m (cP ps) (reachI t m) o ∧ v = oWay o ∧ b = false ∧ w' = w) noF := by
    refine run_W ?_
    have h0 : 0 ≤ sizeLine := by rw [sz]; omega
    have h01 : 1 ≤ sizeLine := by rw [sz]; omega
    have h02 : 2 ≤ sizeLine := by rw [sz]; omega
    have h03 : 3 ≤ sizeLine := by rw [sz]; omega
    have hR := reach_lot (t := t) (m := m)
    have hc := hp.c1
    have hpl := hp.len
    generalize hRR : reachI t m = R at hR ⊢
    have d0 : [(kT R, Val.tup [.int 0, .int 0, .tup []])] = wD [(R, (0, 0, []))] := rfl
    push_cast [A.cheapest_sure, h1 t w, h2 t m ps w ht hp, h3 t m w ht, hRR, h0, h03, d0]
    refine whileN_W (α := WT × WT) (fun x s' => ∃ j4 j5 j6 j7 j8, s' = ⟨[.fz (machV t), .fz (.tup (ps.map .int)), .own (.dct true (wD x.1)), .own (.dct true (dS kT (ks x.2))), j4, j5, j6, j7, j8, .e], w⟩ ∧
      DJ t m (cP ps) R allOk x.1 x.2) (fun x => 65 - x.2.length) ?_ _ ([(R, (0, 0, []))], []) _ ⟨_, _, _, _, _, rfl, DJ.start hR⟩ (by rw [fu]; simp)
    rintro ⟨wt, dn⟩ _ ⟨j4, j5, j6, j7, j8, rfl, hdj⟩
    simp only at hdj
    cases hwt : wt with
    | nil =>
      subst hwt
      push_cast [wD, dE_empty, List.isEmpty_nil]
      exact ⟨none, hdj.bestN hc, rfl⟩
    | cons q0 qs =>
      rw [← hwt]
      have htr : (wD wt).isEmpty = false := by rw [hwt]; rfl
      push_cast [htr]
      refine W_lend (t := true) (kvs := wD wt) rfl ?_
      simp only [List.map_cons, List.map_nil, unown, List.set_cons_succ, List.set_cons_zero]
      refine W_comp_map wt (fun p => tupI p.1) (fun p => .tup [wyV p.2, tupI p.1]) ?_
      have hk : (wD wt).map (fun p => vk p.1) = wt.map fun p => tupI p.1 := by simp [wD, dE, vk_kT]
      have hfew := hdj.few ht
      push_cast [hk]
      refine ⟨by rw [sz]; omega, fun p hp2 => ?_, ?_⟩
      · have hg := aGet_of_mem hdj.ndw hp2
        have hg2 : dGet (wD wt) (kT p.1) = some (wyV p.2) := by rw [wD_get, hg]; rfl
        push_cast [tg_nm, tupI_eq, hg2, h02]
      have hmin : minV (wt.map fun p => .tup [wyV p.2, tupI p.1]) = some (.tup [wyV (pickL ltQ (q0.2, q0.1) (qs.map fun p => (p.2, p.1))).1, tupI (pickL ltQ (q0.2, q0.1) (qs.map fun p => (p.2, p.1))).2]) := by
        have := min_Q (q := (q0.2, q0.1)) (qs := qs.map fun p => (p.2, p.1))
        rw [← this, hwt]
        simp
        rfl
      have hlen : noD (.lst (wt.map fun p => .tup [wyV p.2, tupI p.1])) = true := by
        have := noD_qs (wt.map fun p => (p.2, p.1))
        rw [List.map_map] at this
        exact this
      have hpm : ∃ p ∈ wt, pickL ltQ (q0.2, q0.1) (qs.map fun p => (p.2, p.1)) = (p.2, p.1) ∧ ∀ q ∈ wt, leW p.2 q.2 := by
        have h1 : ∃ p ∈ wt, pickL ltQ (q0.2, q0.1) (qs.map fun p => (p.2, p.1)) = (p.2, p.1) := by
          rcases pickL_mem (lt := ltQ) (xs := qs.map fun p => (p.2, p.1)) (x := (q0.2, q0.1)) with h | h
          · exact ⟨q0, by rw [hwt]; simp, h⟩
          · obtain ⟨p, hp1, hp2⟩ := List.mem_map.mp h
            exact ⟨p, by rw [hwt]; simp [hp1], hp2.symm⟩
        obtain ⟨p, hp1, hp2⟩ := h1
        refine ⟨p, hp1, hp2, fun q hq => ?_⟩
        have h3 := pickL_le (lt := ltQ) (fun a b c => ltQ_tr) ltQ_irr (xs := qs.map fun p => (p.2, p.1)) (x := (q0.2, q0.1)) (q.2, q.1) (by
          rw [hwt] at hq
          rcases List.mem_cons.mp hq with rfl | hq
          · exact .inl rfl
          · exact .inr (List.mem_map.mpr ⟨q, hq, rfl⟩))
        rw [hp2] at h3
        unfold ltQ at h3
        by_cases e : q.2 = p.2
        · rw [e]; exact leW_refl _
        · simp only [e, if_false] at h3
          exact h3
      obtain ⟨p, hpw, hpe, hple⟩ := hpm
      rw [hpe] at hmin
      refine ⟨hlen, by simp, ?_⟩
      replace hmin : minV (wt.map fun p => Val.tup [wyV p.2, .tup (p.1.map .int)]) = some (.tup [wyV p.2, .tup (p.1.map .int)]) := hmin
      push_cast [hmin, tupI_eq, tg2, List.length_map, leni1]
      by_cases hone : p.1.length = 1
      · push_cast [hone, decide_true, wyV_eq, h02]
        exact ⟨some p.2, hdj.bestS hc hpw hone hple, rfl⟩
      have hg := aGet_of_mem hdj.ndw hpw
      have hg2 : (dGet (wD wt) (kT p.1)).isSome = true := by rw [wD_get, hg]; rfl
      have hpd : p.1 ∉ ks dn := fun hd => (List.nodup_append.mp hdj.nd).2.2 _ (List.mem_map_of_mem hpw) _ hd rfl
      have hdl : (dS kT (ks dn)).length < sizeLine := by rw [dS_len, List.length_map, sz]; omega
      have hput : dPut (dS kT (ks dn)) (kT p.1) (.bl true) = dS kT (ks (dn ++ [p])) := by rw [dS_put kT_inj, if_neg hpd]; simp [ks]
      have htk := hdj.take hc hpw hone hple
      push_cast [hone, decide_false, hg2, wD_del, hdl, hput, h4 t m w ht]
      have hsz := hdj.size p hpw
      refine forL_W (fun d r s' => ∃ j4 j7 j8, s' = ⟨[.fz (machV t), .fz (.tup (ps.map .int)), .own (.dct true (wD (d.foldl (putW t (cP ps) (ks (dn ++ [p])) p) (aDel wt p.1)))), .own (.dct true (dS kT (ks (dn ++ [p])))), j4, .fz (wyV p.2), .fz (.tup (p.1.map .int)), j7, j8, .e], w⟩ ∧
        DJ t m (cP ps) R (fun S b => S ≠ p.1 ∨ b ∈ d) (d.foldl (putW t (cP ps) (ks (dn ++ [p])) p) (aDel wt p.1)) (dn ++ [p])) ⟨_, _, _, rfl, htk.weak fun q hq a ha hok => .inl (by simpa using hok)⟩ ?_ ?_
      · rintro d a r _ e ⟨j4, j7, j8, rfl, hd⟩
        have ha : IsL m a := letters_is a (by rw [e]; simp)
        have hpm : p ∈ dn ++ [p] := by simp
        have hd2 := hd.put ht hc hpm ha (by simp; omega)
        have hfew2 := hd.few ht
        have hlot : Lot t p.1 := hdj.lot _ (List.mem_append_left _ (List.mem_map_of_mem hpw))
        have hled := (h5 t m p.1 a w ht hlot.2 (hlot.len ht) ha).1
        have hat := at_int (ns := ps) ha.1 (by have := ha.2; omega)
        have hadd : (p.2.2.2.map Val.int).length + ([Val.int a] : List Val).length ≤ sizeLine := by
          simp only [List.length_map, List.length_cons, List.length_nil]; rw [sz]; simp at hfew2; omega
        have hway : Val.tup [.int (p.2.1 + ps.getD a.toNat 0), .int (p.2.2.1 + 1), .tup (p.2.2.2.map .int ++ [.int a])] = wyV (extW (cP ps) p.2 a) := by simp [wyV, extW, cP, tupI]
        have hnext : DJ t m (cP ps) R (fun S b => S ≠ p.1 ∨ b ∈ d ++ [a]) (putW t (cP ps) (ks (dn ++ [p])) p (d.foldl (putW t (cP ps) (ks (dn ++ [p])) p) (aDel wt p.1)) a) (dn ++ [p]) :=
          hd2.weak fun q hq b hb hok => .inl (by
            rcases hok with hok | hok
            · exact .inl (.inl hok)
            · rcases List.mem_append.mp hok with hok | hok
              · exact .inl (.inr hok)
              · simp at hok
                by_cases e : q.1 = p.1
                · exact .inr ⟨e, hok⟩
                · exact .inl (.inl e))
        rw [List.foldl_append, List.foldl_cons, List.foldl_nil]
        generalize hWT : d.foldl (putW t (cP ps) (ks (dn ++ [p])) p) (aDel wt p.1) = W at hd hd2 hfew2 hnext ⊢
        have hWl : (wD W).length < sizeLine := by rw [wD, dE_len, sz]; omega
        refine ⟨_, tg_nm (by simp), ?_⟩
        rw [wyV_eq]
        by_cases hin : ledI t p.1 a ∈ ks (dn ++ [p])
        · have hp1 : putW t (cP ps) (ks (dn ++ [p])) p W a = W := if_pos hin
          rw [hp1] at hnext ⊢
          push_cast [hled, hat, h01, h03, q_add_t hadd, hway, dS_in kT_inj, hin, decide_true]
          exact ⟨_, _, _, rfl, hnext⟩
        · cases hg3 : aGet W (ledI t p.1 a) with
          | none =>
            have hp1 : putW t (cP ps) (ks (dn ++ [p])) p W a = aPut W (ledI t p.1 a) (extW (cP ps) p.2 a) := by unfold putW; rw [if_neg hin, hg3]
            rw [hp1] at hnext ⊢
            push_cast [hled, hat, h01, h03, q_add_t hadd, hway, wD_get, wD_put, hWl, hg3, Option.map_none, Option.isSome_none, dS_in kT_inj, hin, decide_false]
            exact ⟨_, _, _, rfl, hnext⟩
          | some x =>
            by_cases hlt : ltW (extW (cP ps) p.2 a) x = true
            · have hp1 : putW t (cP ps) (ks (dn ++ [p])) p W a = aPut W (ledI t p.1 a) (extW (cP ps) p.2 a) := by unfold putW; rw [if_neg hin, hg3]; exact if_pos hlt
              rw [hp1] at hnext ⊢
              push_cast [hled, hat, h01, h03, q_add_t hadd, hway, wD_get, wD_put, hWl, hg3, Option.map_some, Option.isSome_some, dS_in kT_inj, hin, decide_false, rd_way, lt_way, hlt]
              exact ⟨_, _, _, rfl, hnext⟩
            · have hp1 : putW t (cP ps) (ks (dn ++ [p])) p W a = W := by unfold putW; rw [if_neg hin, hg3]; exact if_neg hlt
              rw [hp1] at hnext ⊢
              rw [Bool.not_eq_true] at hlt
              push_cast [hled, hat, h01, h03, q_add_t hadd, hway, wD_get, wD_put, hWl, hg3, Option.map_some, Option.isSome_some, dS_in kT_inj, hin, decide_false, rd_way, lt_way, hlt]
              exact ⟨_, _, _, rfl, hnext⟩
      · rintro _ ⟨j4, j7, j8, rfl, hd⟩
        push_cast [r_ok]
        refine ⟨(_, _), ?_, _, _, _, _, _, rfl, hd.weak fun q hq a ha _ => .inl (.inr (mem_rangeI.mpr ⟨by have := ha.1; omega, by have := ha.2; omega⟩))⟩
        have := hd.few ht
        simp at this ⊢
        omega
  obtain ⟨v, fr, w', e, o, ho, rfl, rfl, rfl⟩ := FW_get key
  exact ⟨o, ho, e⟩
end TL

set_option Elab.async false
set_option linter.all false
set_option maxRecDepth 100000
set_option maxHeartbeats 4000000
/-! LSK: helps for the ends of laws. -/
namespace TL
open PySem PySem.Spec PyProof.Rows L2
theorem setM_nm {i : Nat} {v : Val} {fr : Bool} {s : Sta} : setM (.nm i) v fr s = setV i v fr s := rfl
theorem setM_t2 {i j : Nat} {b : Slot} {ρ : List Slot} {w : List (Option Val)} {v u : Val} (h : i < (b :: ρ).length) (h2 : j < (b :: ρ).length) : setM (.tup [.nm i, .nm j]) (.tup [v, u]) false ⟨b :: ρ, w⟩ = .ok .nx ⟨((b :: ρ).set i (.fz v)).set j (.fz u), w⟩ := by
  show (match setTg (.tup [.nm i, .nm j]) (.tup [v, u]) (b :: ρ) with | some ρ => (Res.ok Fl.nx ⟨ρ, w⟩ : Res Fl) | none => .bad) = _
  rw [tg2 h h2]
theorem e_bl {a b : Bool} : vEq DEP (.bl a) (.bl b) = some (decide (a = b)) := by cases a <;> cases b <;> rfl
theorem HW.mix {ns : List Int} {st : Int} (hn : ns.length ≤ 63) : HW [some (.lst (ns.map .int)), some (.lst [.int st, .obj 0, .int 0])] := ⟨ns, st, 0, rfl, rfl, hn⟩
theorem make_machine {Φ : Fns} (h : Sp_Machine (Φ "Machine")) {t : List (List Int)} {m : Nat} (ht : TOk t m) {ρ : List Slot} {w : List (Option Val)} :
    mkR w.length true ρ (Φ "Machine" [.obj w.length, .tup (t.map tupI)] (w ++ [some (.ins "Machine" [])])) = .ok (machV t, false) ⟨ρ, w ++ [none]⟩ := by
  rw [h t m w.length _ ht (by rw [List.getElem?_append_right (Nat.le_refl _), Nat.sub_self]; rfl), mkR_t]
  rw [List.getElem?_set_self (by simp)]
  simp only [jn, mkI, List.set_set]
  congr 2
  simp
theorem evSs_app {Φ : Fns} {B : List S} : ∀ (A : List S) (s : Sta), evSs Φ (A ++ B) s = (evSs Φ A s).bind (seqR Φ B)
  | [], s => rfl
  | a :: A, ⟨[], w⟩ => by
    show (evS Φ a ⟨[], w⟩).bind _ = ((evS Φ a ⟨[], w⟩).bind _).bind _
    cases evS Φ a ⟨[], w⟩ with
    | ok f s => cases f <;> first | exact evSs_app A s | rfl
    | _ => rfl
  | a :: A, ⟨b :: ρ, w⟩ => by
    show (evS Φ a ⟨b :: ρ, w⟩).bind _ = ((evS Φ a ⟨b :: ρ, w⟩).bind _).bind _
    cases evS Φ a ⟨b :: ρ, w⟩ with
    | ok f s => cases f <;> first | exact evSs_app A s | rfl
    | _ => rfl
/-- a body cut in two -/
theorem W_app {Φ : Fns} {A B : List S} {s : Sta} {Q : Fl → Sta → Prop} {E : EP} (P : Sta → Prop) (h1 : (evSs Φ A s).W (fun f s' => f = .nx ∧ P s') E) (h2 : ∀ s', P s' → (evSs Φ B s').W Q E) : (evSs Φ (A ++ B) s).W Q E := by
  rw [evSs_app, W_bind]
  refine W_imp h1 ?_
  rintro f s' ⟨rfl, h⟩
  exact h2 s' h
/-- .. that may end in its first part -/
theorem W_appR {Φ : Fns} {A B : List S} {s : Sta} {Q : Fl → Sta → Prop} {E : EP} (P : Sta → Prop) (h1 : (evSs Φ A s).W (fun f s' => match f with | .nx => P s' | f => Q f s') E) (h2 : ∀ s', P s' → (evSs Φ B s').W Q E) : (evSs Φ (A ++ B) s).W Q E := by
  rw [evSs_app, W_bind]
  refine W_imp h1 fun f s' h => ?_
  cases f with
  | nx => exact h2 s' h
  | brk => exact h
  | ret v fr => exact h
end TL

set_option Elab.async false
set_option linter.all false
set_option maxRecDepth 100000
/-! D16: the defs of k16_whole_cheapest_rows (printed by genlaw.py). -/
namespace Lw
open PySem PySem.Spec PyProof.Rows L2 TL
def P0 : Fns := fun _ _ _ => .bad
def P1 : Fns := more P0 "is_from" 3 A.is_from
def P2 : Fns := more P1 "is_stand_row" 3 A.is_stand_row
def P3 : Fns := more P2 "Machine" 4 A.Machine_init
def P4 : Fns := more P3 "check_machine" 1 A.check_machine
def P5 : Fns := more P4 "stands_from" 8 A.stands_from
def P6 : Fns := more P5 "all_letters" 1 A.all_letters
def P7 : Fns := more P6 "reached_by" 1 A.reached_by
def P8 : Fns := more P7 "led" 4 A.led
def P9 : Fns := more P8 "check_prices" 3 A.check_prices
def P10 : Fns := more P9 "cheapest_sure" 10 A.cheapest_sure
def P11 : Fns := more P10 "_law_mix" 4 A.law_mix
def P12 : Fns := more P11 "_law_next" 4 A.law_next
def P13 : Fns := more P12 "_law_shift" 3 A.law_shift
def P14 : Fns := more P13 "_law_table" 12 A.law_table
def P15 : Fns := more P14 "_law_led" 4 A.law_led
def P16 : Fns := more P15 "_law_reach" 7 A.law_reach
def P17 : Fns := more P16 "_law_all" 1 A.law_all
/-- law: 0 _law_script 1 _law_h 2 _law_table_here 3 _law_most 4 _law_prices 5 _law_ways 6 _law_due 7 _law_best 8 _law_moved 9 _law_stands 10 _law_a 11 _law_price 12 _law_size 13 _law_row 14 _law_new 15 _law_way -/
def f_law : List S := [.set 1 (.nobj (.call "_law_mix" [.var 0, .int 16])), .set 2 (.call "_law_table" [.var 1, .int 6, .int 4]), .set 3 (.p2 .idx (.lst [.int 2, .int 9, .p2 .pow (.int 10) (.int 30)]) (.call "_law_next" [.var 1, .int 3])), .set 4 (.p1 .tuple (.comp (.p2 .add (.int 1) (.call "_law_next" [.var 1, .var 3])) (.nm 10) .range1 [.p1 .len (.p2 .idx (.var 2) (.int 0))] none [("_law_a", 10)])), .unpack2 (.nm 7) (.nm 8) (.d1 true (.call "_law_all" [.var 2]) (.tup [.int 0, .int 0, .tup []])) (.bl true), .while_ (.val (.var 8)) [.set 8 (.bl false), .for_ (.nm 9) .val [.p1 .list (.var 7)] [.ite (.cmp .gt (.p1 .len (.var 9)) (.int 1)) [.unpack (.tup [.nm 11, .nm 12, .nm 13]) (.p2 .idx (.var 7) (.var 9)), .for_ (.nm 10) .range1 [.p1 .len (.p2 .idx (.var 2) (.int 0))] [.par 14 15 (.call "_law_led" [.var 2, .var 9, .var 10]) (.tup [.p2 .add (.var 11) (.p2 .idx (.var 4) (.var 10)), .p2 .add (.var 12) (.int 1), .p2 .add (.var 13) (.tup [.var 10])]), .ite (.or (.cmp .notin (.var 14) (.var 7)) (.cmp .lt (.var 15) (.p2 .idx (.var 7) (.var 14)))) [.setI (.var 7) (.var 14) (.var 15), .set 8 (.bl true)] []]] []]], .set 5 (.comp (.p2 .idx (.var 7) (.var 9)) (.nm 9) .val [.var 7] (some (.cmp .eq (.p1 .len (.var 9)) (.int 1))) [("_law_stands", 9)]), .set 6 (.ife (.cmp .ne (.var 5) (.lst [])) (.tup [.p2 .idx (.p1 .minT (.var 5)) (.int 0), .p2 .idx (.p1 .minT (.var 5)) (.int 2)]) .non), .ret (.p2 .eq (.call "cheapest_sure" [.make "Machine" true [.var 2], .var 4]) (.var 6))]
def P18 : Fns := more P17 "law" 16 f_law
def Plain : Prop := ∀ ns : List Int, ns.length ≤ 63 → ∃ w, P18 "law" [.lst (ns.map .int)] [] = .ok (.bl true) false w
end Lw

set_option Elab.async false
set_option linter.all false
set_option maxRecDepth 100000
set_option maxHeartbeats 4000000
/-! K16: the law of cheapest rows, in plain words. -/
namespace Lw
open PySem PySem.Spec PyProof.Rows L2 TL
local macro_rules | `(tactic| push_cast [$a,*] $[$loc]?) => `(tactic| simp only [$a,*, isEmpty_conc, List.isEmpty_nil, List.isEmpty_cons, List.getLast?_concat, List.dropLast_concat, Option.bind_some, Option.map_some, and_self, and_true, true_and, bodyW, bodyF, wipeS, backS, unown, List.getD_cons_succ, List.getD_cons_zero, W_bind, W_ok, W_ex, r_ok, r_ex, slots0, List.map_cons, List.map_nil, List.length_cons, List.length_nil, List.replicate_succ, List.replicate_zero, List.cons_append, List.nil_append, List.getElem?_cons_succ, List.getElem?_cons_zero, List.set_cons_succ, List.set_cons_zero, if_true, if_false, Bool.false_eq_true, Bool.not_true, Bool.not_false, Nat.reduceAdd, Nat.reduceSub, Nat.reduceLT, Nat.reduceLeDiff, varR_own, varR_fz, pkR_own, pkR_fz, mvR_own, mvR_fz, slV_own, slV_fz, optR_some, x_var, m_var, p_var, jn_some, rd_obj, rd_bor, rd_non, rd_bl, rd_int, rd_str, rd_tup, rd_lst, rd_dct, rd_ins, x_int, x_str, x_bl, x_non, x_gint, x_dnew, p_p1, p_p2, p_int, p_str, p_bl, p_non, p_gint, p_cut, p_and, p_or, p_not, p_ife, p_chain, p_tup, p_lst, p_dnew, p_call, p_make, p_fld, p_get, p_index, p_comp, m_p1, m_p2, m_int, m_str, m_bl, m_non, m_gint, m_cut, m_and, m_or, m_not, m_ife, m_chain, m_tup, m_lst, m_dnew, m_call, m_make, m_fld, m_get, m_index, p_dcomp, m_dcomp, m_comp, m_d1, m_nobj, m_isC, m_pop, p_isC, p_pop, p_d1, x_p1, x_p2, x_cut, x_and, x_or, andR_t, andR_f, orR_f, orR_t, x_not, x_ife, x_tup, x_lst, x_d1, x_nobj, x_call, ofFR_ok, ofFR_ex, mkR_f, mkR_t, mkI_some, x_make, x_fld, fldR_ins, isCR_ins, isCR_tup, isCR_lst, isCR_int, isCR_non, isCR_bl, isCR_str, isCR_dct, x_isC, x_get, getRV_d, idxRV_l, x_index0, x_index, x_app, x_ext, extR_l, x_pop, put_bor, putLR_own, putLX_some, put_obj, putOR_l, putOX_some, chk_d, chk_l, isLs_l, isDc_d, puti_bor, putIR_own, putCV_some, puti_obj, putIO_some, putC_l, putC_d, del_bor, delR_own, st_del, putf_obj, putFR_ins, pF_nil, pF_eq, xs_nil, xs_cons, xo_none, xo_some, xoR_int, t_and, t_or, t_not, t_cmp, tR_some, t_isN, x_chain, chR_int, chX_int, t_chn, t_val, s_nil, s_cons, seq_nx, seq_ret, seq_brk, st_set, setV_ok, st_par, st_unpack2, st_unpack, tgR_some, st_setI, st_setF, st_aug, augR_fz, augY_int, augX_some, st_augI, idxL_l, addI_i, st_expr, st_ite, st_for, st_while, st_ret, st_retN, st_brk, st_pass, st_raise, st_try, try_ok, st_kill, tg_nm, tg2, tg2a, p_lend, m_lend, p_prop, m_prop, p_lenC, m_lenC, p_eqC, m_eqC, x_prop, propR_ins, x_lenC, lenX_ins, ofFN_ok2, boolR_bl, x_eqC, blT_bl, t_eqC, eqOk_i, eqOk_t, q_len_l, q_len_t, q_len_d, q_sum, q_sum_t, q_list_l, q_list_t, q_list_d, q_tuple_l, q_tuple_t, q_sorted, q_max, q_min, q_int_i, q_int_b, q_abs, q_neg, q_isNone, q_notNone, q_isInt_i, q_isBool_i, q_isTuple_t, q_isList_l, q_add_i, q_sub, q_gt, q_le, q_ge, q_rev, q_isLT_l, q_isLT_t, q_isLT_n, q_max2, q_min2, bM_s, nM_s, vM_s, q_eq, q_ne, q_lt, q_in_l, q_in_t, kM_s, q_in_d, q_nin_l, q_nin_t, q_nin_d, q_idx_l, q_idx_t, q_idx_d, q_tr_bl, q_tr_int, q_tr_non, q_tr_tup, q_tr_lst, q_tr_dct, at_0, at_1, at_2, w_lst, w_tup, w_dct, w_enum_l, w_enum_t, w_rev_l, w_rev_t, key_i, vk_num, vk_kT, vk_kP, key_t, key_p, e_int, e_tup, e_lst, e_pair, e_rows, e_tab, n_int, n_tup, e_nn, e_tt, e_cn, e_ct, e_nil_l, e_nil_t, l_int, l_tup, q_minT, q_sortD, lM_s, min_rows] $[$loc]?)
theorem h_is_from : Sp_is_from (P1 "is_from") := by
  rw [show P1 "is_from" = runDef P0 3 A.is_from from more_at]
  exact ok_is_from 
theorem h_is_stand_row : Sp_is_stand_row (P2 "is_stand_row") := by
  rw [show P2 "is_stand_row" = runDef P1 3 A.is_stand_row from more_at]
  exact ok_is_stand_row h_is_from
theorem h_Machine : Sp_Machine (P3 "Machine") := by
  rw [show P3 "Machine" = runDef P2 4 A.Machine_init from more_at]
  exact ok_Machine h_is_stand_row
theorem h_check_machine : Sp_check_machine (P4 "check_machine") := by
  rw [show P4 "check_machine" = runDef P3 1 A.check_machine from more_at]
  exact ok_check_machine 
theorem h_stands_from : Sp_stands_from (P5 "stands_from") := by
  rw [show P5 "stands_from" = runDef P4 8 A.stands_from from more_at]
  exact ok_stands_from 
theorem h_all_letters : Sp_all_letters (P6 "all_letters") := by
  rw [show P6 "all_letters" = runDef P5 1 A.all_letters from more_at]
  exact ok_all_letters 
theorem u6_stands_from : P6 "stands_from" = P5 "stands_from" := (more_ne (by decide +kernel)).trans rfl
theorem h_reached_by : Sp_reached_by (P7 "reached_by") := by
  rw [show P7 "reached_by" = runDef P6 1 A.reached_by from more_at]
  exact ok_reached_by (by rw [u6_stands_from]; exact h_stands_from) h_all_letters
theorem h_led : Sp_led (P8 "led") := by
  rw [show P8 "led" = runDef P7 4 A.led from more_at]
  exact ok_led 
theorem u2_is_from : P2 "is_from" = P1 "is_from" := (more_ne (by decide +kernel)).trans rfl
theorem u3_is_from : P3 "is_from" = P1 "is_from" := (more_ne (by decide +kernel)).trans u2_is_from
theorem u4_is_from : P4 "is_from" = P1 "is_from" := (more_ne (by decide +kernel)).trans u3_is_from
theorem u5_is_from : P5 "is_from" = P1 "is_from" := (more_ne (by decide +kernel)).trans u4_is_from
theorem u6_is_from : P6 "is_from" = P1 "is_from" := (more_ne (by decide +kernel)).trans u5_is_from
theorem u7_is_from : P7 "is_from" = P1 "is_from" := (more_ne (by decide +kernel)).trans u6_is_from
theorem u8_is_from : P8 "is_from" = P1 "is_from" := (more_ne (by decide +kernel)).trans u7_is_from
theorem h_check_prices : Sp_check_prices (P9 "check_prices") := by
  rw [show P9 "check_prices" = runDef P8 3 A.check_prices from more_at]
  exact ok_check_prices (by rw [u8_is_from]; exact h_is_from)
theorem u5_check_machine : P5 "check_machine" = P4 "check_machine" := (more_ne (by decide +kernel)).trans rfl
theorem u6_check_machine : P6 "check_machine" = P4 "check_machine" := (more_ne (by decide +kernel)).trans u5_check_machine
theorem u7_check_machine : P7 "check_machine" = P4 "check_machine" := (more_ne (by decide +kernel)).trans u6_check_machine
theorem u8_check_machine : P8 "check_machine" = P4 "check_machine" := (more_ne (by decide +kernel)).trans u7_check_machine
theorem u9_check_machine : P9 "check_machine" = P4 "check_machine" := (more_ne (by decide +kernel)).trans u8_check_machine
theorem u8_reached_by : P8 "reached_by" = P7 "reached_by" := (more_ne (by decide +kernel)).trans rfl
theorem u9_reached_by : P9 "reached_by" = P7 "reached_by" := (more_ne (by decide +kernel)).trans u8_reached_by
theorem u7_all_letters : P7 "all_letters" = P6 "all_letters" := (more_ne (by decide +kernel)).trans rfl
theorem u8_all_letters : P8 "all_letters" = P6 "all_letters" := (more_ne (by decide +kernel)).trans u7_all_letters
theorem u9_all_letters : P9 "all_letters" = P6 "all_letters" := (more_ne (by decide +kernel)).trans u8_all_letters
theorem u9_led : P9 "led" = P8 "led" := (more_ne (by decide +kernel)).trans rfl
theorem h_cheapest_sure : Sp_cheapest_sure (P10 "cheapest_sure") := by
  rw [show P10 "cheapest_sure" = runDef P9 10 A.cheapest_sure from more_at]
  exact ok_cheapest_sure (by rw [u9_check_machine]; exact h_check_machine) h_check_prices (by rw [u9_reached_by]; exact h_reached_by) (by rw [u9_all_letters]; exact h_all_letters) (by rw [u9_led]; exact h_led)
theorem h__law_mix : Sp_law_mix (P11 "_law_mix") := by
  rw [show P11 "_law_mix" = runDef P10 4 A.law_mix from more_at]
  exact ok_law_mix 
theorem h__law_next : Sp_law_next (P12 "_law_next") := by
  rw [show P12 "_law_next" = runDef P11 4 A.law_next from more_at]
  exact ok_law_next 
theorem h__law_shift : Sp_law_shift (P13 "_law_shift") := by
  rw [show P13 "_law_shift" = runDef P12 3 A.law_shift from more_at]
  exact ok_law_shift h__law_next
theorem u13__law_next : P13 "_law_next" = P12 "_law_next" := (more_ne (by decide +kernel)).trans rfl
theorem h__law_table : Sp_law_table (P14 "_law_table") := by
  rw [show P14 "_law_table" = runDef P13 12 A.law_table from more_at]
  exact ok_law_table (by rw [u13__law_next]; exact h__law_next) h__law_shift
theorem h__law_led : Sp_law_led (P15 "_law_led") := by
  rw [show P15 "_law_led" = runDef P14 4 A.law_led from more_at]
  exact ok_law_led 
theorem h__law_reach : Sp_law_reach (P16 "_law_reach") := by
  rw [show P16 "_law_reach" = runDef P15 7 A.law_reach from more_at]
  exact ok_law_reach 
theorem h__law_all : Sp_law_all (P17 "_law_all") := by
  rw [show P17 "_law_all" = runDef P16 1 A.law_all from more_at]
  exact ok_law_all h__law_reach
theorem u9_is_from : P9 "is_from" = P1 "is_from" := (more_ne (by decide +kernel)).trans u8_is_from
theorem u10_is_from : P10 "is_from" = P1 "is_from" := (more_ne (by decide +kernel)).trans u9_is_from
theorem u11_is_from : P11 "is_from" = P1 "is_from" := (more_ne (by decide +kernel)).trans u10_is_from
theorem u12_is_from : P12 "is_from" = P1 "is_from" := (more_ne (by decide +kernel)).trans u11_is_from
theorem u13_is_from : P13 "is_from" = P1 "is_from" := (more_ne (by decide +kernel)).trans u12_is_from
theorem u14_is_from : P14 "is_from" = P1 "is_from" := (more_ne (by decide +kernel)).trans u13_is_from
theorem u15_is_from : P15 "is_from" = P1 "is_from" := (more_ne (by decide +kernel)).trans u14_is_from
theorem u16_is_from : P16 "is_from" = P1 "is_from" := (more_ne (by decide +kernel)).trans u15_is_from
theorem u17_is_from : P17 "is_from" = P1 "is_from" := (more_ne (by decide +kernel)).trans u16_is_from
theorem k_is_from : Sp_is_from (P17 "is_from") := by rw [u17_is_from]; exact h_is_from
theorem u3_is_stand_row : P3 "is_stand_row" = P2 "is_stand_row" := (more_ne (by decide +kernel)).trans rfl
theorem u4_is_stand_row : P4 "is_stand_row" = P2 "is_stand_row" := (more_ne (by decide +kernel)).trans u3_is_stand_row
theorem u5_is_stand_row : P5 "is_stand_row" = P2 "is_stand_row" := (more_ne (by decide +kernel)).trans u4_is_stand_row
theorem u6_is_stand_row : P6 "is_stand_row" = P2 "is_stand_row" := (more_ne (by decide +kernel)).trans u5_is_stand_row
theorem u7_is_stand_row : P7 "is_stand_row" = P2 "is_stand_row" := (more_ne (by decide +kernel)).trans u6_is_stand_row
theorem u8_is_stand_row : P8 "is_stand_row" = P2 "is_stand_row" := (more_ne (by decide +kernel)).trans u7_is_stand_row
theorem u9_is_stand_row : P9 "is_stand_row" = P2 "is_stand_row" := (more_ne (by decide +kernel)).trans u8_is_stand_row
theorem u10_is_stand_row : P10 "is_stand_row" = P2 "is_stand_row" := (more_ne (by decide +kernel)).trans u9_is_stand_row
theorem u11_is_stand_row : P11 "is_stand_row" = P2 "is_stand_row" := (more_ne (by decide +kernel)).trans u10_is_stand_row
theorem u12_is_stand_row : P12 "is_stand_row" = P2 "is_stand_row" := (more_ne (by decide +kernel)).trans u11_is_stand_row
theorem u13_is_stand_row : P13 "is_stand_row" = P2 "is_stand_row" := (more_ne (by decide +kernel)).trans u12_is_stand_row
theorem u14_is_stand_row : P14 "is_stand_row" = P2 "is_stand_row" := (more_ne (by decide +kernel)).trans u13_is_stand_row
theorem u15_is_stand_row : P15 "is_stand_row" = P2 "is_stand_row" := (more_ne (by decide +kernel)).trans u14_is_stand_row
theorem u16_is_stand_row : P16 "is_stand_row" = P2 "is_stand_row" := (more_ne (by decide +kernel)).trans u15_is_stand_row
theorem u17_is_stand_row : P17 "is_stand_row" = P2 "is_stand_row" := (more_ne (by decide +kernel)).trans u16_is_stand_row
theorem k_is_stand_row : Sp_is_stand_row (P17 "is_stand_row") := by rw [u17_is_stand_row]; exact h_is_stand_row
theorem u4_Machine : P4 "Machine" = P3 "Machine" := (more_ne (by decide +kernel)).trans rfl
theorem u5_Machine : P5 "Machine" = P3 "Machine" := (more_ne (by decide +kernel)).trans u4_Machine
theorem u6_Machine : P6 "Machine" = P3 "Machine" := (more_ne (by decide +kernel)).trans u5_Machine
theorem u7_Machine : P7 "Machine" = P3 "Machine" := (more_ne (by decide +kernel)).trans u6_Machine
theorem u8_Machine : P8 "Machine" = P3 "Machine" := (more_ne (by decide +kernel)).trans u7_Machine
theorem u9_Machine : P9 "Machine" = P3 "Machine" := (more_ne (by decide +kernel)).trans u8_Machine
theorem u10_Machine : P10 "Machine" = P3 "Machine" := (more_ne (by decide +kernel)).trans u9_Machine
theorem u11_Machine : P11 "Machine" = P3 "Machine" := (more_ne (by decide +kernel)).trans u10_Machine
theorem u12_Machine : P12 "Machine" = P3 "Machine" := (more_ne (by decide +kernel)).trans u11_Machine
theorem u13_Machine : P13 "Machine" = P3 "Machine" := (more_ne (by decide +kernel)).trans u12_Machine
theorem u14_Machine : P14 "Machine" = P3 "Machine" := (more_ne (by decide +kernel)).trans u13_Machine
theorem u15_Machine : P15 "Machine" = P3 "Machine" := (more_ne (by decide +kernel)).trans u14_Machine
theorem u16_Machine : P16 "Machine" = P3 "Machine" := (more_ne (by decide +kernel)).trans u15_Machine
theorem u17_Machine : P17 "Machine" = P3 "Machine" := (more_ne (by decide +kernel)).trans u16_Machine
theorem k_Machine : Sp_Machine (P17 "Machine") := by rw [u17_Machine]; exact h_Machine
theorem u10_check_machine : P10 "check_machine" = P4 "check_machine" := (more_ne (by decide +kernel)).trans u9_check_machine
theorem u11_check_machine : P11 "check_machine" = P4 "check_machine" := (more_ne (by decide +kernel)).trans u10_check_machine
theorem u12_check_machine : P12 "check_machine" = P4 "check_machine" := (more_ne (by decide +kernel)).trans u11_check_machine
theorem u13_check_machine : P13 "check_machine" = P4 "check_machine" := (more_ne (by decide +kernel)).trans u12_check_machine
theorem u14_check_machine : P14 "check_machine" = P4 "check_machine" := (more_ne (by decide +kernel)).trans u13_check_machine
theorem u15_check_machine : P15 "check_machine" = P4 "check_machine" := (more_ne (by decide +kernel)).trans u14_check_machine
theorem u16_check_machine : P16 "check_machine" = P4 "check_machine" := (more_ne (by decide +kernel)).trans u15_check_machine
theorem u17_check_machine : P17 "check_machine" = P4 "check_machine" := (more_ne (by decide +kernel)).trans u16_check_machine
theorem k_check_machine : Sp_check_machine (P17 "check_machine") := by rw [u17_check_machine]; exact h_check_machine
theorem u7_stands_from : P7 "stands_from" = P5 "stands_from" := (more_ne (by decide +kernel)).trans u6_stands_from
theorem u8_stands_from : P8 "stands_from" = P5 "stands_from" := (more_ne (by decide +kernel)).trans u7_stands_from
theorem u9_stands_from : P9 "stands_from" = P5 "stands_from" := (more_ne (by decide +kernel)).trans u8_stands_from
theorem u10_stands_from : P10 "stands_from" = P5 "stands_from" := (more_ne (by decide +kernel)).trans u9_stands_from
theorem u11_stands_from : P11 "stands_from" = P5 "stands_from" := (more_ne (by decide +kernel)).trans u10_stands_from
theorem u12_stands_from : P12 "stands_from" = P5 "stands_from" := (more_ne (by decide +kernel)).trans u11_stands_from
theorem u13_stands_from : P13 "stands_from" = P5 "stands_from" := (more_ne (by decide +kernel)).trans u12_stands_from
theorem u14_stands_from : P14 "stands_from" = P5 "stands_from" := (more_ne (by decide +kernel)).trans u13_stands_from
theorem u15_stands_from : P15 "stands_from" = P5 "stands_from" := (more_ne (by decide +kernel)).trans u14_stands_from
theorem u16_stands_from : P16 "stands_from" = P5 "stands_from" := (more_ne (by decide +kernel)).trans u15_stands_from
theorem u17_stands_from : P17 "stands_from" = P5 "stands_from" := (more_ne (by decide +kernel)).trans u16_stands_from
theorem k_stands_from : Sp_stands_from (P17 "stands_from") := by rw [u17_stands_from]; exact h_stands_from
theorem u10_all_letters : P10 "all_letters" = P6 "all_letters" := (more_ne (by decide +kernel)).trans u9_all_letters
theorem u11_all_letters : P11 "all_letters" = P6 "all_letters" := (more_ne (by decide +kernel)).trans u10_all_letters
theorem u12_all_letters : P12 "all_letters" = P6 "all_letters" := (more_ne (by decide +kernel)).trans u11_all_letters
theorem u13_all_letters : P13 "all_letters" = P6 "all_letters" := (more_ne (by decide +kernel)).trans u12_all_letters
theorem u14_all_letters : P14 "all_letters" = P6 "all_letters" := (more_ne (by decide +kernel)).trans u13_all_letters
theorem u15_all_letters : P15 "all_letters" = P6 "all_letters" := (more_ne (by decide +kernel)).trans u14_all_letters
theorem u16_all_letters : P16 "all_letters" = P6 "all_letters" := (more_ne (by decide +kernel)).trans u15_all_letters
theorem u17_all_letters : P17 "all_letters" = P6 "all_letters" := (more_ne (by decide +kernel)).trans u16_all_letters
theorem k_all_letters : Sp_all_letters (P17 "all_letters") := by rw [u17_all_letters]; exact h_all_letters
theorem u10_reached_by : P10 "reached_by" = P7 "reached_by" := (more_ne (by decide +kernel)).trans u9_reached_by
theorem u11_reached_by : P11 "reached_by" = P7 "reached_by" := (more_ne (by decide +kernel)).trans u10_reached_by
theorem u12_reached_by : P12 "reached_by" = P7 "reached_by" := (more_ne (by decide +kernel)).trans u11_reached_by
theorem u13_reached_by : P13 "reached_by" = P7 "reached_by" := (more_ne (by decide +kernel)).trans u12_reached_by
theorem u14_reached_by : P14 "reached_by" = P7 "reached_by" := (more_ne (by decide +kernel)).trans u13_reached_by
theorem u15_reached_by : P15 "reached_by" = P7 "reached_by" := (more_ne (by decide +kernel)).trans u14_reached_by
theorem u16_reached_by : P16 "reached_by" = P7 "reached_by" := (more_ne (by decide +kernel)).trans u15_reached_by
theorem u17_reached_by : P17 "reached_by" = P7 "reached_by" := (more_ne (by decide +kernel)).trans u16_reached_by
theorem k_reached_by : Sp_reached_by (P17 "reached_by") := by rw [u17_reached_by]; exact h_reached_by
theorem u10_led : P10 "led" = P8 "led" := (more_ne (by decide +kernel)).trans u9_led
theorem u11_led : P11 "led" = P8 "led" := (more_ne (by decide +kernel)).trans u10_led
theorem u12_led : P12 "led" = P8 "led" := (more_ne (by decide +kernel)).trans u11_led
theorem u13_led : P13 "led" = P8 "led" := (more_ne (by decide +kernel)).trans u12_led
theorem u14_led : P14 "led" = P8 "led" := (more_ne (by decide +kernel)).trans u13_led
theorem u15_led : P15 "led" = P8 "led" := (more_ne (by decide +kernel)).trans u14_led
theorem u16_led : P16 "led" = P8 "led" := (more_ne (by decide +kernel)).trans u15_led
theorem u17_led : P17 "led" = P8 "led" := (more_ne (by decide +kernel)).trans u16_led
theorem k_led : Sp_led (P17 "led") := by rw [u17_led]; exact h_led
theorem u10_check_prices : P10 "check_prices" = P9 "check_prices" := (more_ne (by decide +kernel)).trans rfl
theorem u11_check_prices : P11 "check_prices" = P9 "check_prices" := (more_ne (by decide +kernel)).trans u10_check_prices
theorem u12_check_prices : P12 "check_prices" = P9 "check_prices" := (more_ne (by decide +kernel)).trans u11_check_prices
theorem u13_check_prices : P13 "check_prices" = P9 "check_prices" := (more_ne (by decide +kernel)).trans u12_check_prices
theorem u14_check_prices : P14 "check_prices" = P9 "check_prices" := (more_ne (by decide +kernel)).trans u13_check_prices
theorem u15_check_prices : P15 "check_prices" = P9 "check_prices" := (more_ne (by decide +kernel)).trans u14_check_prices
theorem u16_check_prices : P16 "check_prices" = P9 "check_prices" := (more_ne (by decide +kernel)).trans u15_check_prices
theorem u17_check_prices : P17 "check_prices" = P9 "check_prices" := (more_ne (by decide +kernel)).trans u16_check_prices
theorem k_check_prices : Sp_check_prices (P17 "check_prices") := by rw [u17_check_prices]; exact h_check_prices
theorem u11_cheapest_sure : P11 "cheapest_sure" = P10 "cheapest_sure" := (more_ne (by decide +kernel)).trans rfl
theorem u12_cheapest_sure : P12 "cheapest_sure" = P10 "cheapest_sure" := (more_ne (by decide +kernel)).trans u11_cheapest_sure
theorem u13_cheapest_sure : P13 "cheapest_sure" = P10 "cheapest_sure" := (more_ne (by decide +kernel)).trans u12_cheapest_sure
theorem u14_cheapest_sure : P14 "cheapest_sure" = P10 "cheapest_sure" := (more_ne (by decide +kernel)).trans u13_cheapest_sure
theorem u15_cheapest_sure : P15 "cheapest_sure" = P10 "cheapest_sure" := (more_ne (by decide +kernel)).trans u14_cheapest_sure
theorem u16_cheapest_sure : P16 "cheapest_sure" = P10 "cheapest_sure" := (more_ne (by decide +kernel)).trans u15_cheapest_sure
theorem u17_cheapest_sure : P17 "cheapest_sure" = P10 "cheapest_sure" := (more_ne (by decide +kernel)).trans u16_cheapest_sure
theorem k_cheapest_sure : Sp_cheapest_sure (P17 "cheapest_sure") := by rw [u17_cheapest_sure]; exact h_cheapest_sure
theorem u12__law_mix : P12 "_law_mix" = P11 "_law_mix" := (more_ne (by decide +kernel)).trans rfl
theorem u13__law_mix : P13 "_law_mix" = P11 "_law_mix" := (more_ne (by decide +kernel)).trans u12__law_mix
theorem u14__law_mix : P14 "_law_mix" = P11 "_law_mix" := (more_ne (by decide +kernel)).trans u13__law_mix
theorem u15__law_mix : P15 "_law_mix" = P11 "_law_mix" := (more_ne (by decide +kernel)).trans u14__law_mix
theorem u16__law_mix : P16 "_law_mix" = P11 "_law_mix" := (more_ne (by decide +kernel)).trans u15__law_mix
theorem u17__law_mix : P17 "_law_mix" = P11 "_law_mix" := (more_ne (by decide +kernel)).trans u16__law_mix
theorem k__law_mix : Sp_law_mix (P17 "_law_mix") := by rw [u17__law_mix]; exact h__law_mix
theorem u14__law_next : P14 "_law_next" = P12 "_law_next" := (more_ne (by decide +kernel)).trans u13__law_next
theorem u15__law_next : P15 "_law_next" = P12 "_law_next" := (more_ne (by decide +kernel)).trans u14__law_next
theorem u16__law_next : P16 "_law_next" = P12 "_law_next" := (more_ne (by decide +kernel)).trans u15__law_next
theorem u17__law_next : P17 "_law_next" = P12 "_law_next" := (more_ne (by decide +kernel)).trans u16__law_next
theorem k__law_next : Sp_law_next (P17 "_law_next") := by rw [u17__law_next]; exact h__law_next
theorem u14__law_shift : P14 "_law_shift" = P13 "_law_shift" := (more_ne (by decide +kernel)).trans rfl
theorem u15__law_shift : P15 "_law_shift" = P13 "_law_shift" := (more_ne (by decide +kernel)).trans u14__law_shift
theorem u16__law_shift : P16 "_law_shift" = P13 "_law_shift" := (more_ne (by decide +kernel)).trans u15__law_shift
theorem u17__law_shift : P17 "_law_shift" = P13 "_law_shift" := (more_ne (by decide +kernel)).trans u16__law_shift
theorem k__law_shift : Sp_law_shift (P17 "_law_shift") := by rw [u17__law_shift]; exact h__law_shift
theorem u15__law_table : P15 "_law_table" = P14 "_law_table" := (more_ne (by decide +kernel)).trans rfl
theorem u16__law_table : P16 "_law_table" = P14 "_law_table" := (more_ne (by decide +kernel)).trans u15__law_table
theorem u17__law_table : P17 "_law_table" = P14 "_law_table" := (more_ne (by decide +kernel)).trans u16__law_table
theorem k__law_table : Sp_law_table (P17 "_law_table") := by rw [u17__law_table]; exact h__law_table
theorem u16__law_led : P16 "_law_led" = P15 "_law_led" := (more_ne (by decide +kernel)).trans rfl
theorem u17__law_led : P17 "_law_led" = P15 "_law_led" := (more_ne (by decide +kernel)).trans u16__law_led
theorem k__law_led : Sp_law_led (P17 "_law_led") := by rw [u17__law_led]; exact h__law_led
theorem u17__law_reach : P17 "_law_reach" = P16 "_law_reach" := (more_ne (by decide +kernel)).trans rfl
theorem k__law_reach : Sp_law_reach (P17 "_law_reach") := by rw [u17__law_reach]; exact h__law_reach
theorem k__law_all : Sp_law_all (P17 "_law_all") := h__law_all
/-- what the defs do, all together -/
structure KS (Φ : Fns) : Prop where
  is_from : Sp_is_from (Φ "is_from")
  is_stand_row : Sp_is_stand_row (Φ "is_stand_row")
  Machine : Sp_Machine (Φ "Machine")
  check_machine : Sp_check_machine (Φ "check_machine")
  stands_from : Sp_stands_from (Φ "stands_from")
  all_letters : Sp_all_letters (Φ "all_letters")
  reached_by : Sp_reached_by (Φ "reached_by")
  led : Sp_led (Φ "led")
  check_prices : Sp_check_prices (Φ "check_prices")
  cheapest_sure : Sp_cheapest_sure (Φ "cheapest_sure")
  law_mix : Sp_law_mix (Φ "_law_mix")
  law_next : Sp_law_next (Φ "_law_next")
  law_shift : Sp_law_shift (Φ "_law_shift")
  law_table : Sp_law_table (Φ "_law_table")
  law_led : Sp_law_led (Φ "_law_led")
  law_reach : Sp_law_reach (Φ "_law_reach")
  law_all : Sp_law_all (Φ "_law_all")
theorem ks : KS P17 := ⟨k_is_from, k_is_stand_row, k_Machine, k_check_machine, k_stands_from, k_all_letters, k_reached_by, k_led, k_check_prices, k_cheapest_sure, k__law_mix, k__law_next, k__law_shift, k__law_table, k__law_led, k__law_reach, k__law_all⟩
def lawH : List S := f_law.take 4
def law2 : List S := (f_law.drop 4).take 2
def law3 : List S := f_law.drop 6
theorem law_eq : f_law = lawH ++ (law2 ++ law3) := rfl
section
variable {Φ : Fns} {t : List (List Int)} {m : Nat} {ns ps : List Int} {w : List (Option Val)} {j3 j5 j6 j8 j9 j10 j11 j12 j13 j14 j15 : Slot}
theorem pr_max {i : Int} (h0 : 0 ≤ i) (h3 : i < 3) : ∃ mo : Int, atV [Val.int 2, .int 9, .int ((10 : Int) ^ (30 : Int).toNat)] i = some (.int mo) ∧ 1 ≤ mo ∧ mo ≤ 10 ^ 30 := by
  have : i = 0 ∨ i = 1 ∨ i = 2 := by omega
  rcases this with rfl | rfl | rfl
  · exact ⟨2, at_0, by decide, by decide⟩
  · exact ⟨9, at_1, by decide, by decide⟩
  · exact ⟨_, at_2, by decide, by decide⟩
theorem ok_lawH (c : KS Φ) (hn : ns.length ≤ 63) : (evSs Φ lawH ⟨slots0 16 [.lst (ns.map .int)], []⟩).W (fun f s => f = .nx ∧ ∃ t m w ps j3, TOk t m ∧ POk m ps ∧ HW w ∧ s = ⟨[.fz (.lst (ns.map .int)), .fz (.obj 1), .fz (.tup (t.map tupI)), j3, .fz (.tup (ps.map .int)), .e, .e, .e, .e, .e, .e, .e, .e, .e, .e, .e], w⟩) noE := by
  obtain ⟨st, e1⟩ := c.law_mix ns 16 hn
  obtain ⟨t, m, w1, e2, ht, hw1⟩ := c.law_table 6 4 _ (HW.mix (st := st) hn) (by decide) (by decide) (by decide) (by decide)
  obtain ⟨x, w2, e3, xa, xb, hw2, _⟩ := c.law_next 3 w1 hw1 (by decide) (by decide)
  obtain ⟨mo, hmo, mo1, mo2⟩ := pr_max xa xb
  have n1 := ht.n1
  have m4 := ht.m4
  have h03 : 3 ≤ sizeLine := by rw [sz]; omega
  have ha0 := at_row (t := t) (s := 0) (by omega) (by omega)
  have hrg : walk .range1 [.int (m : Int)] = some ((rangeI 0 m).map .int) := by rw [w_range1 (by omega) (by omega), intRange_eq, Int.toNat_natCast]
  have hpw : prim2 .pow (.int 10) (.int 30) = some (.int ((10 : Int) ^ (30 : Int).toNat), false) := q_pow (by decide)
  show (evSs Φ [_, _, _, _] _).W _ _
  push_cast [e1, e2, h03, hpw, e3, hmo]
  refine W_comp_eff (rangeI 0 m) .int (fun d acc w => HW w ∧ ∃ L : List Int, acc = L.map .int ∧ ∀ p ∈ L, 1 ≤ p ∧ p ≤ 10 ^ 30) ?_
  push_cast [ha0]
  push_cast [tupI_eq, Int.toNat_zero, List.length_map, ht.len0]
  refine ⟨hrg, by rw [rangeI_len, sz]; omega, ⟨hw2, [], rfl, by simp⟩, ?_, ?_⟩
  · rintro d a r acc w _ _ ⟨hw, L, rfl, hL⟩
    obtain ⟨y, w', e4, ya, yb, hw', _⟩ := c.law_next mo w hw mo1 (Int.lt_of_le_of_lt mo2 (by decide))
    push_cast [tg_nm, e4]
    refine ⟨hw', L ++ [1 + y], by simp, fun p hp => ?_⟩
    rcases List.mem_append.mp hp with hp | hp
    · exact hL p hp
    · simp at hp; subst hp; omega
  · rintro acc w hl ⟨hw, L, rfl, hL⟩
    push_cast [r_ok]
    rw [List.length_map, rangeI_len] at hl
    exact ⟨t, m, _, L, _, ht, ⟨hl, hL⟩, hw, rfl⟩
theorem tg3 {ρ : List TL.Slot} {a b d : Nat} {x y z : Val} (h1 : a < ρ.length) (h2 : b < ρ.length) (h3 : d < ρ.length) : setTg (.tup [.nm a, .nm b, .nm d]) (.tup [x, y, z]) ρ = some (((ρ.set a (.fz x)).set b (.fz y)).set d (.fz z)) := by
  simp [setTg, setTgs, h1, h2, h3]
theorem op_ne {c : Int → Int} {R S : List Int} {v : Way} (hR : 1 ≤ R.length) (o : OP t m c R S v) : 1 ≤ S.length := by
  induction o with
  | nil => exact hR
  | snoc _ _ _ ih => exact led_ne ih
theorem upto0 {c : Int → Int} {R : List Int} : Upto t m c R 0 [(R, (0, 0, []))] := by
  intro S v o hv
  cases o with
  | nil => exact ⟨_, by rw [aGet_cons, if_pos rfl], leW_refl _⟩
  | @snoc S w a o _ _ =>
    have h1 : (extW c w a).2.1 = w.2.1 + 1 := rfl
    have h2 : w.2.1 = w.2.2.length := o.ok
    rw [h1] at hv
    omega
theorem upto_nw {c : Int → Int} {R : List Int} {k : Nat} {a b : WT} (h : Upto t m c R k a) (n : Nw a b) : Upto t m c R k b := fun S v o hv => by
  obtain ⟨x, h1, h2⟩ := h S v o hv
  obtain ⟨y, g1, g2⟩ := n S x h1
  exact ⟨y, g1, leW_tr g2 h2⟩
theorem upto_63 {c : Int → Int} {R : List Int} {k : Nat} {a : WT} (h : Upto t m c R k a) (hk : 63 ≤ k) : Upto t m c R 63 a := fun S v o hv => h S v o (by omega)
theorem cl_nw {c : Int → Int} {b0 a b : WT} {S : List Int} {x : Int} (h : Cl t c b0 a S x) (n : Nw a b) : Cl t c b0 b S x := fun h1 y h2 => by
  obtain ⟨z, g1, g2⟩ := h h1 y h2
  obtain ⟨u, k1, k2⟩ := n _ z g1
  exact ⟨u, k1, leW_tr k2 g2⟩
theorem ok_law2 (c : KS Φ) (ht : TOk t m) (hp : POk m ps) : (evSs Φ law2 ⟨[.fz (.lst (ns.map .int)), .fz (.obj 1), .fz (.tup (t.map tupI)), j3, .fz (.tup (ps.map .int)), .e, .e, .e, .e, .e, .e, .e, .e, .e, .e, .e], w⟩).W
    (fun f s => f = .nx ∧ ∃ bs j8 j9 j10 j11 j12 j13 j14 j15, (TL.ks bs).Nodup ∧ bs.length ≤ 64 ∧ (∀ p ∈ bs, OP t m (cP ps) (reachI t m) p.1 p.2) ∧ (∀ S v, OP t m (cP ps) (reachI t m) S v → ∃ x, aGet bs S = some x ∧ leW x v) ∧
      s = ⟨[.fz (.lst (ns.map .int)), .fz (.obj 1), .fz (.tup (t.map tupI)), j3, .fz (.tup (ps.map .int)), .e, .e, .own (.dct true (wD bs)), j8, j9, j10, j11, j12, j13, j14, j15], w⟩) noE := by
  have n1 := ht.n1
  have m4 := ht.m4
  have h00 : 0 ≤ sizeLine := by rw [sz]; omega
  have h01 : 1 ≤ sizeLine := by rw [sz]; omega
  have h03 : 3 ≤ sizeLine := by rw [sz]; omega
  have ha0 := at_row (t := t) (s := 0) (by omega) (by omega)
  have hrg : walk .range1 [.int (m : Int)] = some ((rangeI 0 m).map .int) := by rw [w_range1 (by omega) (by omega), intRange_eq, Int.toNat_natCast]
  have hR := reach_lot (t := t) (m := m)
  have hRn : 1 ≤ (reachI t m).length := List.length_pos_of_mem (zero_reach ht)
  have hc := hp.c1
  have hpl := hp.len
  have hall := c.law_all t m w ht
  generalize hRR : reachI t m = R at hR hRn hall ⊢
  have d0 : [(kT R, Val.tup [.int 0, .int 0, .tup []])] = wD [(R, (0, 0, []))] := rfl
  show (evSs Φ [_, _] _).W _ _
  push_cast [hall, h00, h03, d0, setM_nm]
  refine whileN_W (α := Nat × Bool × WT) (fun x s' => ∃ j9 j10 j11 j12 j13 j14 j15, s' = ⟨[.fz (.lst (ns.map .int)), .fz (.obj 1), .fz (.tup (t.map tupI)), j3, .fz (.tup (ps.map .int)), .e, .e, .own (.dct true (wD x.2.2)), .fz (.bl x.2.1), j9, j10, j11, j12, j13, j14, j15], w⟩ ∧
    BF t m (cP ps) R (64 * x.1) x.2.2 ∧ Upto t m (cP ps) R x.1 x.2.2 ∧ (x.2.1 = true → x.1 ≤ 63) ∧ (x.2.1 = false → ∀ S ∈ TL.ks x.2.2, ∀ a, IsL m a → Cl t (cP ps) x.2.2 x.2.2 S a)) (fun x => if x.2.1 then 65 - x.1 else 0) ?_ _ (0, true, [(R, (0, 0, []))]) _ ⟨_, _, _, _, _, _, _, rfl, BF.start hR, upto0, by simp, by simp⟩ (by rw [fu]; simp)
  rintro ⟨k, mv, b0⟩ _ ⟨j9, j10, j11, j12, j13, j14, j15, rfl, hbf, hup, hk, hfix⟩
  simp only at hbf hup hk hfix
  have hfew := hbf.few ht
  cases mv with
  | false =>
    push_cast [r_ok]
    exact ⟨b0, _, _, _, _, _, _, _, _, hbf.nd, hfew, hbf.op, fun S v o => fix_all hbf.begin (fun x hx => by
      obtain ⟨y, h1, h2⟩ := hup R _ .nil (by simp)
      rw [hx] at h1; cases h1; exact h2) hbf.op (hfix rfl) o, rfl⟩
  | true =>
    have hk := hk rfl
    have hkeys : (wD b0).map (fun p => vk p.1) = (TL.ks b0).map tupI := by simp [wD, dE, vk_kT]
    push_cast [hkeys]
    refine forL_W (fun d r s' => ∃ bs mv j9 j10 j11 j12 j13 j14 j15, s' = ⟨[.fz (.lst (ns.map .int)), .fz (.obj 1), .fz (.tup (t.map tupI)), j3, .fz (.tup (ps.map .int)), .e, .e, .own (.dct true (wD bs)), .fz (.bl mv), j9, j10, j11, j12, j13, j14, j15], w⟩ ∧
      BF t m (cP ps) R (64 * k + d.length) bs ∧ Nw b0 bs ∧ (∀ S ∈ d, ∀ a, IsL m a → Cl t (cP ps) b0 bs S a) ∧ (mv = false → bs = b0) ∧ (mv = true → k < 63)) ⟨b0, false, _, _, _, _, _, _, _, rfl, hbf, Nw.refl _, by simp, by simp, by simp⟩ ?_ ?_
    · rintro d S r _ e ⟨bs, mv, j9, j10, j11, j12, j13, j14, j15, rfl, hb, hn, hcl, hm0, hm1⟩
      have hS : S ∈ TL.ks b0 := by rw [e]; simp
      obtain ⟨x0, hx0⟩ : ∃ x, aGet b0 S = some x := by
        cases h : aGet b0 S with
        | none => exact absurd hS (aGet_noneI.mp h)
        | some x => exact ⟨x, rfl⟩
      obtain ⟨x, hx, hxl⟩ := hn S x0 hx0
      have hox := hb.op _ (aGet_mem hx)
      have hlot := hb.lot S (aGet_fstk hx)
      have hSn : 1 ≤ S.length := op_ne hRn hox
      have hdl : d.length < 64 := by
        have := congrArg List.length e
        simp at this; omega
      refine ⟨_, tg_nm (by simp), ?_⟩
      by_cases hone : S.length = 1
      · push_cast [tupI_eq, List.length_map, hone]
        refine ⟨bs, mv, _, _, _, _, _, _, _, rfl, hb.more (by simp), hn, fun S' hS' a ha => ?_, hm0, hm1⟩
        rcases List.mem_append.mp hS' with h | h
        · exact hcl S' h a ha
        · simp at h; subst h; exact fun h => absurd hone h
      have hgt : (1 : Int) < (S.length : Int) := by omega
      have hg2 : dGet (wD bs) (kT S) = some (wyV x) := by rw [wD_get, hx]; rfl
      push_cast [tupI_eq, List.length_map, hgt, decide_true, hg2]
      rw [wyV_eq]
      push_cast [tg3, ha0]
      push_cast [tupI_eq, Int.toNat_zero, List.length_map, ht.len0, hrg]
      have hsz := hb.size _ (aGet_mem hx)
      simp only at hsz
      refine forL_W (fun d2 r2 s' => ∃ b2 mv2 j10 j14 j15, s' = ⟨[.fz (.lst (ns.map .int)), .fz (.obj 1), .fz (.tup (t.map tupI)), j3, .fz (.tup (ps.map .int)), .e, .e, .own (.dct true (wD b2)), .fz (.bl mv2), .fz (.tup (S.map .int)), j10, .fz (.int x.1), .fz (.int x.2.1), .fz (.tup (x.2.2.map .int)), j14, j15], w⟩ ∧
        BF t m (cP ps) R (64 * k + (d.length + 1)) b2 ∧ Nw bs b2 ∧ (∀ a ∈ d2, ∃ y, aGet b2 (ledI t S a) = some y ∧ leW y (extW (cP ps) x a)) ∧ (mv2 = false → b2 = b0) ∧ (mv2 = true → k < 63)) ⟨bs, mv, _, _, _, rfl, hb.more (by omega), Nw.refl _, by simp, hm0, hm1⟩ ?_ ?_
      · rintro d2 a r2 _ e2 ⟨b2, mv2, j10, j14, j15, rfl, hb2, hn2, hcl2, hm2, hm3⟩
        have ha : IsL m a := letters_is a (by rw [e2]; simp)
        have hled := (c.law_led t m S a w ht hlot.2 (hlot.len ht) ha).1
        have hat := at_int (ns := ps) ha.1 (by have := ha.2; omega)
        have hadd : (x.2.2.map Val.int).length + ([Val.int a] : List Val).length ≤ sizeLine := by
          simp only [List.length_map, List.length_cons, List.length_nil]; rw [sz]; omega
        have hway : Val.tup [.int (x.1 + ps.getD a.toNat 0), .int (x.2.1 + 1), .tup (x.2.2.map .int ++ [.int a])] = wyV (extW (cP ps) x a) := by simp [wyV, extW, cP, tupI]
        have ob : OP t m (cP ps) R (ledI t S a) (extW (cP ps) x a) := .snoc hox hone ha
        have hfew2 := hb2.few ht
        have hWl : (wD b2).length < sizeLine := by rw [wD, dE_len, sz]; omega
        refine ⟨_, tg_nm (by simp), ?_⟩
        by_cases hbet : Bet (extW (cP ps) x a) (aGet b2 (ledI t S a)) = true
        · have hk63 : k < 63 := by
            rcases Nat.lt_or_ge k 63 with h | h
            · exact h
            · rw [no_bet ht hR hc (upto_63 (upto_nw (upto_nw hup hn) hn2) h) ob] at hbet; cases hbet
          obtain ⟨g1, g2⟩ := bf_put ht hb2 hox hone hlot ha hbet (by show x.2.2.length + 1 ≤ _; omega)
          have fin : ∃ b2' mv2' j10' j14' j15', (⟨[.fz (.lst (ns.map .int)), .fz (.obj 1), .fz (.tup (t.map tupI)), j3, .fz (.tup (ps.map .int)), .e, .e, .own (.dct true (wD (aPut b2 (ledI t S a) (extW (cP ps) x a)))), .fz (.bl true), .fz (.tup (S.map .int)), .fz (.int a), .fz (.int x.1), .fz (.int x.2.1), .fz (.tup (x.2.2.map .int)), .fz (.tup ((ledI t S a).map .int)), .fz (wyV (extW (cP ps) x a))], w⟩ : Sta) = ⟨[.fz (.lst (ns.map .int)), .fz (.obj 1), .fz (.tup (t.map tupI)), j3, .fz (.tup (ps.map .int)), .e, .e, .own (.dct true (wD b2')), .fz (.bl mv2'), .fz (.tup (S.map .int)), j10', .fz (.int x.1), .fz (.int x.2.1), .fz (.tup (x.2.2.map .int)), j14', j15'], w⟩ ∧
            BF t m (cP ps) R (64 * k + (d.length + 1)) b2' ∧ Nw bs b2' ∧ (∀ a' ∈ d2 ++ [a], ∃ y, aGet b2' (ledI t S a') = some y ∧ leW y (extW (cP ps) x a')) ∧ (mv2' = false → b2' = b0) ∧ (mv2' = true → k < 63) :=
            ⟨_, true, _, _, _, rfl, g1, hn2.trans g2, fun a' ha' => by
              rcases List.mem_append.mp ha' with h | h
              · obtain ⟨y, y1, y2⟩ := hcl2 a' h
                obtain ⟨z, z1, z2⟩ := g2 _ y y1
                exact ⟨z, z1, leW_tr z2 y2⟩
              · simp at h; subst h
                exact ⟨_, by rw [aGet_put, if_pos rfl], leW_refl _⟩, by simp, fun _ => hk63⟩
          cases hg3 : aGet b2 (ledI t S a) with
          | none =>
            push_cast [hled, hat, h01, h03, q_add_t hadd, hway, wD_get, wD_put, hWl, hg3, Option.map_none, Option.isSome_none]
            exact fin
          | some y =>
            rw [hg3] at hbet
            have hlt : ltW (extW (cP ps) x a) y = true := hbet
            push_cast [hled, hat, h01, h03, q_add_t hadd, hway, wD_get, wD_put, hWl, hg3, Option.map_some, Option.isSome_some, rd_way, lt_way, hlt]
            exact fin
        · cases hg3 : aGet b2 (ledI t S a) with
          | none => rw [hg3] at hbet; exact absurd rfl hbet
          | some y =>
            rw [hg3] at hbet
            have hlt : ltW (extW (cP ps) x a) y = false := by
              cases h : ltW (extW (cP ps) x a) y with
              | false => rfl
              | true => exact absurd h hbet
            push_cast [hled, hat, h01, h03, q_add_t hadd, hway, wD_get, wD_put, hWl, hg3, Option.map_some, Option.isSome_some, rd_way, lt_way, hlt]
            refine ⟨b2, mv2, _, _, _, rfl, hb2, hn2, fun a' ha' => ?_, hm2, hm3⟩
            rcases List.mem_append.mp ha' with h | h
            · exact hcl2 a' h
            · simp at h; subst h
              exact ⟨y, hg3, hlt⟩
      · rintro _ ⟨b2, mv2, j10, j14, j15, rfl, hb2, hn2, hcl2, hm2, hm3⟩
        push_cast [r_ok]
        refine ⟨b2, mv2, _, _, _, _, _, _, _, rfl, by rw [List.length_append]; exact hb2, hn.trans hn2, fun S' hS' a ha => ?_, hm2, hm3⟩
        rcases List.mem_append.mp hS' with h | h
        · exact cl_nw (hcl S' h a ha) hn2
        · simp at h; subst h
          intro _ z hz
          rw [hx0] at hz; cases hz
          obtain ⟨y, y1, y2⟩ := hcl2 a (mem_rangeI.mpr ⟨by have := ha.1; omega, by have := ha.2; omega⟩)
          exact ⟨y, y1, leW_tr y2 (ext_mono hox.ok (hbf.op _ (aGet_mem hx0)).ok hxl)⟩
    · rintro _ ⟨bs, mv, j9, j10, j11, j12, j13, j14, j15, rfl, hb, hn, hcl, hm0, hm1⟩
      push_cast [r_ok]
      have hkl : (TL.ks b0).length ≤ 64 := by rw [List.length_map]; exact hfew
      refine ⟨(k + 1, mv, bs), ?_, _, _, _, _, _, _, _, rfl, hb.more (by show _ ≤ 64 * (k + 1); omega), upto_next hup hn hbf.op hcl, fun h => ?_, fun h => ?_⟩
      · cases mv with
        | false => simp; omega
        | true => have := hm1 rfl; simp; omega
      · have := hm1 h; show k + 1 ≤ 63; omega
      · have := hm0 h; subst this; exact hcl
theorem e_ways {L : List Way} : vEq DEP (.lst (L.map wyV)) (.lst []) = some (decide (L = [])) := by
  have := encWay.e.lstL.eq (by decide) L []
  exact this
theorem e_oWay {o : Option Way} : vEq DEP (oWay o) (oWay o) = some true := by
  cases o with
  | none => rfl
  | some w =>
    have := (Enc.int.pair Enc.int.tupL).eq (by decide) (w.1, w.2.2) (w.1, w.2.2)
    simp at this
    exact this
theorem rd_oWay {ρ : List TL.Slot} {w : List (Option Val)} {o : Option Way} : rdv ⟨ρ, w⟩ (.val (oWay o)) = some (oWay o) := by cases o <;> rfl
theorem ok_law3 (c : KS Φ) (ht : TOk t m) (hp : POk m ps) {bs : WT} (nd : (TL.ks bs).Nodup) (hl : bs.length ≤ 64) (hop : ∀ p ∈ bs, OP t m (cP ps) (reachI t m) p.1 p.2) (hall : ∀ S v, OP t m (cP ps) (reachI t m) S v → ∃ x, aGet bs S = some x ∧ leW x v) : (evSs Φ law3 ⟨[.fz (.lst (ns.map .int)), .fz (.obj 1), .fz (.tup (t.map tupI)), j3, .fz (.tup (ps.map .int)), .e, .e, .own (.dct true (wD bs)), j8, j9, j10, j11, j12, j13, j14, j15], w⟩).W
    (fun f _ => f = .ret (.bl true) false) noE := by
  have h00 : 0 ≤ sizeLine := by rw [sz]; omega
  have h02 : 2 ≤ sizeLine := by rw [sz]; omega
  have hbest := best_of nd hop hall
  have hkeys : (wD bs).map (fun p => vk p.1) = bs.map fun p => tupI p.1 := by simp [wD, dE, vk_kT]
  obtain ⟨o, ho, eo⟩ : ∃ o, IsBest t m (cP ps) (reachI t m) o ∧ Φ "cheapest_sure" [machV t, .tup (ps.map .int)] (w ++ [none]) = .ok (oWay o) false (w ++ [none]) := c.cheapest_sure t m ps _ ht hp
  have hoe := IsBest.uniq ho hbest
  show (evSs Φ [_, _, _] _).W _ _
  push_cast [r_ok]
  refine W_comp_filt bs (fun p => tupI p.1) (fun p => wyV p.2) (fun p => decide (p.1.length = 1)) ?_
  push_cast [hkeys]
  refine ⟨by rw [sz]; omega, fun p hpb => ?_, ?_⟩
  · have hg2 : dGet (wD bs) (kT p.1) = some (wyV p.2) := by rw [wD_get, aGet_of_mem nd hpb]; rfl
    push_cast [tg_nm, tupI_eq, List.length_map, leni1, hg2]
    exact fun _ => trivial
  have hmap : (bs.filter fun p => decide (p.1.length = 1)).map (fun p => wyV p.2) = ((bs.filter fun p => decide (p.1.length = 1)).map (·.2)).map wyV := by rw [List.map_map]; rfl
  rw [hmap]
  cases hF : (bs.filter fun p => decide (p.1.length = 1)).map (·.2) with
  | nil =>
    rw [hF] at hoe
    simp only at hoe
    have e2 : vEq DEP (.lst (([] : List Way).map wyV)) (.lst []) = some true := rfl
    subst hoe
    push_cast [e2, h00, make_machine c.Machine ht, eo, oWay, rd_non]
    rfl
  | cons x xs =>
    rw [hF] at hoe
    simp only at hoe
    have e2 : vEq DEP (.lst ((x :: xs).map wyV)) (.lst []) = some false := by rw [e_ways]; simp
    have e3 : minV ((x :: xs).map wyV) = some (wyV (pickL ltW x xs)) := min_W
    subst hoe
    have e4 := e_oWay (o := some (pickL ltW x xs))
    have e5 : Val.tup [.int (pickL ltW x xs).1, .tup ((pickL ltW x xs).2.2.map .int)] = oWay (some (pickL ltW x xs)) := rfl
    rw [List.map_cons] at e2 e3
    rw [wyV_eq (w := pickL ltW x xs)] at e3
    push_cast [List.map_cons, e2, e3, h00, h02, e5, make_machine c.Machine ht, eo, rd_oWay, e4]
end
theorem plain : Plain := fun ns hn => by
  have key : (P18 "law" [.lst (ns.map .int)] []).W (fun v b _ => v = .bl true ∧ b = false) noF := by
    rw [show P18 "law" = runDef P17 16 f_law from more_at]
    refine run_W ?_
    rw [law_eq]
    refine W_app _ (ok_lawH ks hn) ?_
    rintro _ ⟨t, m, w, ps, j3, ht, hp, hw, rfl⟩
    refine W_app _ (ok_law2 ks ht hp) ?_
    rintro _ ⟨bs, j8, j9, j10, j11, j12, j13, j14, j15, h1, h2, h3, h4, rfl⟩
    refine W_imp (ok_law3 ks ht hp h1 h2 h3 h4) ?_
    rintro f s rfl
    exact ⟨rfl, rfl⟩
  obtain ⟨v, fr, w, e, rfl, rfl⟩ := FW_get key
  exact ⟨w, e⟩
end Lw

set_option Elab.async false
set_option linter.all false
set_option maxRecDepth 100000
set_option maxHeartbeats 0
/-! G16: the looks and the head of k16_whole_cheapest_rows (printed by genlaw.py). -/
namespace Lw
open PySem PySem.Spec PyProof.Rows L2 TL
def top (i : Nat) : Stmt := PySem.Challenge.pw_lasttell_k16_whole_cheapest_rows.main.body.getD i (.Pass ⟨0, 0, 0, 0⟩)
def bs : List Str := [("bool" : Str), ("enumerate" : Str), ("int" : Str), ("isinstance" : Str), ("len" : Str), ("list" : Str), ("max" : Str), ("min" : Str), ("range" : Str), ("set" : Str), ("sorted" : Str), ("tuple" : Str)]
def is : List (Str × Int) := [(("MOST_STANDS" : Str), 6), (("MOST_LETTERS" : Str), 4), (("MOST_PRICE" : Str), 1000000000000000000000000000000)]
def xs : List Str := [("TellError" : Str), ("BadMachine" : Str), ("BadPrices" : Str)]
def T0 : Tab := ⟨bs, is, [], [], [], [], [], [("Machine", "held")], xs.map fun x => (x, [])⟩
def dd (x : Str) (i : Nat) : He.DefD := ⟨(x, none), x, x, defArgs (top i), defBody (top i), defScope (top i), [], []⟩
def dm (x m q : Str) (i j : Nat) : He.DefD := ⟨(x, some m), m, q, defArgs (inClass (top i) j), defBody (inClass (top i) j), defScope (inClass (top i) j), [], []⟩
def f_is_from_N : List Str := [("value" : Str), ("low" : Str), ("high" : Str)]
def f_is_from_p : List Str := ["value", "low", "high"]
def T1 : Tab := T0.addF "is_from" 1 f_is_from_p
theorem m_f_is_from : mSs T0 (plOf f_is_from_N (defScope (top 8)) 0) A.is_from (defBody (top 8)) = true := by decide +kernel
theorem s_f_is_from : FnScope f_is_from_N f_is_from_p (defScope (top 8)) := C8.fnScope_by (by decide +kernel)
def f_is_stand_row_N : List Str := [("value" : Str), ("stands" : Str), ("stand" : Str)]
def f_is_stand_row_p : List Str := ["value", "stands"]
def T2 : Tab := T1.addF "is_stand_row" 2 f_is_stand_row_p
theorem m_f_is_stand_row : mSs T1 (plOf f_is_stand_row_N (defScope (top 9)) 1) A.is_stand_row (defBody (top 9)) = true := by decide +kernel
theorem s_f_is_stand_row : FnScope f_is_stand_row_N f_is_stand_row_p (defScope (top 9)) := C8.fnScope_by (by decide +kernel)
def f_Machine_N : List Str := [("self" : Str), ("table" : Str), ("index" : Str), ("row" : Str)]
def f_Machine_p : List Str := ["self", "table"]
def T3 : Tab := T2.addM "Machine" 3 f_Machine_p
theorem m_f_Machine : mSs T2 (plOf f_Machine_N (defScope (inClass (top 10) 0)) 2) A.Machine_init (defBody (inClass (top 10) 0)) = true := by decide +kernel
theorem s_f_Machine : FnScope f_Machine_N f_Machine_p (defScope (inClass (top 10) 0)) := C8.fnScope_by (by decide +kernel)
def f_check_machine_N : List Str := [("value" : Str)]
def f_check_machine_p : List Str := ["value"]
def T4 : Tab := T3.addF "check_machine" 4 f_check_machine_p
theorem m_f_check_machine : mSs T3 (plOf f_check_machine_N (defScope (top 11)) 3) A.check_machine (defBody (top 11)) = true := by decide +kernel
theorem s_f_check_machine : FnScope f_check_machine_N f_check_machine_p (defScope (top 11)) := C8.fnScope_by (by decide +kernel)
def f_stands_from_N : List Str := [("machine" : Str), ("stand" : Str), ("letters" : Str), ("found" : Str), ("waiting" : Str), ("here" : Str), ("letter" : Str), ("new" : Str)]
def f_stands_from_p : List Str := ["machine", "stand", "letters"]
def T5 : Tab := T4.addF "stands_from" 5 f_stands_from_p
theorem m_f_stands_from : mSs T4 (plOf f_stands_from_N (defScope (top 12)) 4) A.stands_from (defBody (top 12)) = true := by decide +kernel
theorem s_f_stands_from : FnScope f_stands_from_N f_stands_from_p (defScope (top 12)) := C8.fnScope_by (by decide +kernel)
def f_all_letters_N : List Str := [("machine" : Str)]
def f_all_letters_p : List Str := ["machine"]
def T6 : Tab := T5.addF "all_letters" 6 f_all_letters_p
theorem m_f_all_letters : mSs T5 (plOf f_all_letters_N (defScope (top 13)) 5) A.all_letters (defBody (top 13)) = true := by decide +kernel
theorem s_f_all_letters : FnScope f_all_letters_N f_all_letters_p (defScope (top 13)) := C8.fnScope_by (by decide +kernel)
def f_reached_by_N : List Str := [("machine" : Str)]
def f_reached_by_p : List Str := ["machine"]
def T7 : Tab := T6.addF "reached_by" 7 f_reached_by_p
theorem m_f_reached_by : mSs T6 (plOf f_reached_by_N (defScope (top 14)) 6) A.reached_by (defBody (top 14)) = true := by decide +kernel
theorem s_f_reached_by : FnScope f_reached_by_N f_reached_by_p (defScope (top 14)) := C8.fnScope_by (by decide +kernel)
def f_led_N : List Str := [("machine" : Str), ("stands" : Str), ("letter" : Str), ("stand" : Str)]
def f_led_p : List Str := ["machine", "stands", "letter"]
def T8 : Tab := T7.addF "led" 8 f_led_p
theorem m_f_led : mSs T7 (plOf f_led_N (defScope (top 15)) 7) A.led (defBody (top 15)) = true := by decide +kernel
theorem s_f_led : FnScope f_led_N f_led_p (defScope (top 15)) := C8.fnScope_by (by decide +kernel)
def f_check_prices_N : List Str := [("machine" : Str), ("value" : Str), ("price" : Str)]
def f_check_prices_p : List Str := ["machine", "value"]
def T9 : Tab := T8.addF "check_prices" 9 f_check_prices_p
theorem m_f_check_prices : mSs T8 (plOf f_check_prices_N (defScope (top 18)) 8) A.check_prices (defBody (top 18)) = true := by decide +kernel
theorem s_f_check_prices : FnScope f_check_prices_N f_check_prices_p (defScope (top 18)) := C8.fnScope_by (by decide +kernel)
def f_cheapest_sure_N : List Str := [("machine" : Str), ("prices" : Str), ("waiting" : Str), ("done" : Str), ("letter" : Str), ("best" : Str), ("stands" : Str), ("new" : Str), ("way" : Str), ("own" : Str)]
def f_cheapest_sure_p : List Str := ["machine", "prices"]
def T10 : Tab := T9.addF "cheapest_sure" 10 f_cheapest_sure_p
theorem m_f_cheapest_sure : mSs T9 (plOf f_cheapest_sure_N (defScope (top 19)) 9) A.cheapest_sure (defBody (top 19)) = true := by decide +kernel
theorem s_f_cheapest_sure : FnScope f_cheapest_sure_N f_cheapest_sure_p (defScope (top 19)) := C8.fnScope_by (by decide +kernel)
def f_law_mix_N : List Str := [("_law_script" : Str), ("_law_seed" : Str), ("_law_state" : Str), ("_law_cell" : Str)]
def f_law_mix_p : List Str := ["_law_script", "_law_seed"]
def T11 : Tab := T10.addF "_law_mix" 11 f_law_mix_p
theorem m_f_law_mix : mSs T10 (plOf f_law_mix_N (defScope (top 21)) 10) A.law_mix (defBody (top 21)) = true := by decide +kernel
theorem s_f_law_mix : FnScope f_law_mix_N f_law_mix_p (defScope (top 21)) := C8.fnScope_by (by decide +kernel)
def f_law_next_N : List Str := [("_law_h" : Str), ("_law_bound" : Str), ("_law_cell" : Str), ("_law_cells" : Str)]
def f_law_next_p : List Str := ["_law_h", "_law_bound"]
def T12 : Tab := T11.addF "_law_next" 12 f_law_next_p
theorem m_f_law_next : mSs T11 (plOf f_law_next_N (defScope (top 22)) 11) A.law_next (defBody (top 22)) = true := by decide +kernel
theorem s_f_law_next : FnScope f_law_next_N f_law_next_p (defScope (top 22)) := C8.fnScope_by (by decide +kernel)
def f_law_shift_N : List Str := [("_law_h" : Str), ("_law_rows" : Str), ("_law_row" : Str)]
def f_law_shift_p : List Str := ["_law_h"]
def T13 : Tab := T12.addF "_law_shift" 13 f_law_shift_p
theorem m_f_law_shift : mSs T12 (plOf f_law_shift_N (defScope (top 24)) 12) A.law_shift (defBody (top 24)) = true := by decide +kernel
theorem s_f_law_shift : FnScope f_law_shift_N f_law_shift_p (defScope (top 24)) := C8.fnScope_by (by decide +kernel)
def f_law_table_N : List Str := [("_law_h" : Str), ("_law_most" : Str), ("_law_far" : Str), ("_law_kind" : Str), ("_law_few" : Str), ("_law_first" : Str), ("_law_rows" : Str), ("_law_k" : Str), ("_law_size" : Str), ("_law_letters" : Str), ("_law_row" : Str), ("_law_a" : Str)]
def f_law_table_p : List Str := ["_law_h", "_law_most", "_law_far"]
def T14 : Tab := T13.addF "_law_table" 14 f_law_table_p
theorem m_f_law_table : mSs T13 (plOf f_law_table_N (defScope (top 23)) 13) A.law_table (defBody (top 23)) = true := by decide +kernel
theorem s_f_law_table : FnScope f_law_table_N f_law_table_p (defScope (top 23)) := C8.fnScope_by (by decide +kernel)
def f_law_led_N : List Str := [("_law_table_here" : Str), ("_law_stands" : Str), ("_law_a" : Str), ("_law_stand" : Str)]
def f_law_led_p : List Str := ["_law_table_here", "_law_stands", "_law_a"]
def T15 : Tab := T14.addF "_law_led" 15 f_law_led_p
theorem m_f_law_led : mSs T14 (plOf f_law_led_N (defScope (top 25)) 14) A.law_led (defBody (top 25)) = true := by decide +kernel
theorem s_f_law_led : FnScope f_law_led_N f_law_led_p (defScope (top 25)) := C8.fnScope_by (by decide +kernel)
def f_law_reach_N : List Str := [("_law_table_here" : Str), ("_law_begin" : Str), ("_law_letters" : Str), ("_law_found" : Str), ("_law_waiting" : Str), ("_law_a" : Str), ("_law_stand" : Str)]
def f_law_reach_p : List Str := ["_law_table_here", "_law_begin", "_law_letters"]
def T16 : Tab := T15.addF "_law_reach" 16 f_law_reach_p
theorem m_f_law_reach : mSs T15 (plOf f_law_reach_N (defScope (top 26)) 15) A.law_reach (defBody (top 26)) = true := by decide +kernel
theorem s_f_law_reach : FnScope f_law_reach_N f_law_reach_p (defScope (top 26)) := C8.fnScope_by (by decide +kernel)
def f_law_all_N : List Str := [("_law_table_here" : Str)]
def f_law_all_p : List Str := ["_law_table_here"]
def T17 : Tab := T16.addF "_law_all" 17 f_law_all_p
theorem m_f_law_all : mSs T16 (plOf f_law_all_N (defScope (top 27)) 16) A.law_all (defBody (top 27)) = true := by decide +kernel
theorem s_f_law_all : FnScope f_law_all_N f_law_all_p (defScope (top 27)) := C8.fnScope_by (by decide +kernel)
def f_law_N : List Str := [("_law_script" : Str), ("_law_h" : Str), ("_law_table_here" : Str), ("_law_most" : Str), ("_law_prices" : Str), ("_law_ways" : Str), ("_law_due" : Str), ("_law_best" : Str), ("_law_moved" : Str), ("_law_stands" : Str), ("_law_a" : Str), ("_law_price" : Str), ("_law_size" : Str), ("_law_row" : Str), ("_law_new" : Str), ("_law_way" : Str)]
def f_law_p : List Str := ["_law_script"]
def T18 : Tab := T17.addF "law" 18 f_law_p
theorem m_f_law : mSs T17 (plOf f_law_N (defScope (top 28)) 17) f_law (defBody (top 28)) = true := by decide +kernel
theorem s_f_law : FnScope f_law_N f_law_p (defScope (top 28)) := C8.fnScope_by (by decide +kernel)
def gl : List Str := [("is_from" : Str), ("is_stand_row" : Str), ("Machine" : Str), ("check_machine" : Str), ("stands_from" : Str), ("all_letters" : Str), ("reached_by" : Str), ("led" : Str), ("check_prices" : Str), ("cheapest_sure" : Str), ("_law_mix" : Str), ("_law_next" : Str), ("_law_shift" : Str), ("_law_table" : Str), ("_law_led" : Str), ("_law_reach" : Str), ("_law_all" : Str), ("law" : Str), ("TellError" : Str), ("BadMachine" : Str), ("BadPrices" : Str)]
def cl : List Str := [("Machine" : Str)]
def fn : List He.DefD := [dd "is_from" 8, dd "is_stand_row" 9, dm "Machine" "__init__" "Machine.__init__" 10 0, dd "check_machine" 11, dd "stands_from" 12, dd "all_letters" 13, dd "reached_by" 14, dd "led" 15, dd "check_prices" 18, dd "cheapest_sure" 19, dd "_law_mix" 21, dd "_law_next" 22, dd "_law_shift" 24, dd "_law_table" 23, dd "_law_led" 25, dd "_law_reach" 26, dd "_law_all" 27, dd "law" 28]
def fa : List He.Fa := faOf bs is gl cl [("Machine", "held")]
def gs : List He.DefD := []
def ss : List (Str × Str) := []
def exK : PySem.W.Frag → Bool := exOf cl xs ss
abbrev R : PySem.W.OpenRow := PySem.W.OpenLaw.row PySem.Challenge.rw_lasttell_k16_whole_cheapest_rows
abbrev hk : PySem.W.Hook := hookT 4 fa fn gs exK
def ob (s : PySem.W.SharedT) : AlT := obsTG 4 fa fn gs exK (HandSHeadRun.getT s)
theorem ob_eq (s : PySem.W.SharedT) : ob s = hk.obs s.abs := obsTG_eq (HandSHeadRun.getT_eq s)
def loose : List PySem.Str := [("TellError" : PySem.Str), ("BadTable" : PySem.Str), ("BadMachine" : PySem.Str), ("BadPrices" : PySem.Str), ("MOST_STANDS" : PySem.Str), ("MOST_LETTERS" : PySem.Str), ("is_from" : PySem.Str), ("is_stand_row" : PySem.Str), ("Machine" : PySem.Str), ("check_machine" : PySem.Str), ("stands_from" : PySem.Str), ("all_letters" : PySem.Str), ("reached_by" : PySem.Str), ("led" : PySem.Str), ("MOST_PRICE" : PySem.Str), ("check_prices" : PySem.Str), ("cheapest_sure" : PySem.Str), ("_law_mix" : PySem.Str), ("_law_next" : PySem.Str), ("_law_table" : PySem.Str), ("_law_shift" : PySem.Str), ("_law_led" : PySem.Str), ("_law_reach" : PySem.Str), ("_law_all" : PySem.Str)]
theorem run (w : World) : HandSHeadRun.RunEq R (PySem.W.view R.prog [28]) hk ob 4000 loose w := by
  intro os
  kernel_rfl
section
variable {P : Program} {w : World} {K : PySem.W.Frag} {h : Heap} {mg : Str → Option Value} {base : Heap}
theorem at_d (c : He.SaysD fa fn K) {j : Nat} {x : Str} {i : Nat} (e : fn[j]? = some (dd x i)) : ∃ fd, Fun K x x (top i) (He.ga K x) fd ∧ FunD K x x (defArgs (top i)) (defBody (top i)) (defScope (top i)) [] [] (He.ga K x) fd := by
  obtain ⟨fd, F⟩ := c.def_ j e
  exact ⟨fd, fun_of F, F⟩
theorem at_m (c : He.SaysD fa fn K) {j : Nat} {x m q : Str} {i k : Nat} (e : fn[j]? = some (dm x m q i k)) : ∃ fd, Fun K m q (inClass (top i) k) (He.ma K (He.ga K x) m) fd ∧ FunD K m q (defArgs (inClass (top i) k)) (defBody (inClass (top i) k)) (defScope (inClass (top i) k)) [] [] (He.ma K (He.ga K x) m) fd := by
  obtain ⟨fd, F⟩ := c.def_ j e
  exact ⟨fd, fun_of F, F⟩
theorem at_g (c : SaysT fa fn gs exK K) {j : Nat} {x m q : Str} {i k : Nat} (e : gs[j]? = some (dm x m q i k)) : ∃ fd, Fun K m q (inClass (top i) k) (gtA K x m) fd ∧ FunD K m q (defArgs (inClass (top i) k)) (defBody (inClass (top i) k)) (defScope (inClass (top i) k)) [] [] (gtA K x m) fd := by
  obtain ⟨fd, F⟩ := c.gt e
  exact ⟨fd, fun_of F, F⟩
theorem tab (X : K.In h) (G : h.Ns mainGlobals mg) (c : SaysT fa fn gs exK K) : TabOk T17 P17 P w K mg base := by
  have glo : ∀ x, x ∈ gl → mg x = some (.ref (He.ga K x)) := fun x hx => glo_of X G c.1 hx
  have clsOk : ∀ x, x ∈ cl → Cls K (He.ga K x) := fun x hx => cls_of c.1 hx
  have insOk : ∀ x, x ∈ cl → insB K x = true := fun x hx => ins_of (Bool.and_eq_true_iff.mp c.2.1).1 hx
  have spOk : ∀ q, q ∈ ss → spB K q = true := fun q hq => sp_of (Bool.and_eq_true_iff.mp c.2.1).1 hq
  have mkOk : ∀ x, x ∈ cl → Mk K (He.ga K x) (He.ma K (He.ga K x) "__init__") := fun x hx => mk_of c.1 hx
  have t0 : TabOk T0 P0 P w K mg base := tab0 X G c.1 (Bool.and_eq_true_iff.mp c.2.1).1 (by decide) (by decide +kernel)
  obtain ⟨d0, U0, F0⟩ := at_d c.1 (j := 0) (x := "is_from") (i := 8) rfl
  have t1 : TabOk T1 P1 P w K mg base := tab_fn (k := 0) t0 (by decide) (glo "is_from" (by simp [gl])) U0 (FunD.bindsN (ps := f_is_from_p) F0 fun _ _ _ _ _ _ us hl => match us, hl with | [_, _, _], _ => rfl) s_f_is_from m_f_is_from
  obtain ⟨d1, U1, F1⟩ := at_d c.1 (j := 1) (x := "is_stand_row") (i := 9) rfl
  have t2 : TabOk T2 P2 P w K mg base := tab_fn (k := 1) t1 (by decide) (glo "is_stand_row" (by simp [gl])) U1 (FunD.bindsN (ps := f_is_stand_row_p) F1 fun _ _ _ _ _ _ us hl => match us, hl with | [_, _], _ => rfl) s_f_is_stand_row m_f_is_stand_row
  obtain ⟨d2, U2, F2⟩ := at_m c.1 (j := 2) (x := "Machine") (m := "__init__") (q := "Machine.__init__") (i := 10) (k := 0) rfl
  have t3 : TabOk T3 P3 P w K mg base := tab_mk (k := 2) t2 (by decide) (glo "Machine" (by simp [gl])) (clsOk "Machine" (by simp [cl])) (insOk "Machine" (by simp [cl])) (mkOk "Machine" (by simp [cl])) U2 (FunD.bindsN (ps := f_Machine_p) F2 fun _ _ _ _ _ _ us hl => match us, hl with | [_, _], _ => rfl) s_f_Machine m_f_Machine
  obtain ⟨d3, U3, F3⟩ := at_d c.1 (j := 3) (x := "check_machine") (i := 11) rfl
  have t4 : TabOk T4 P4 P w K mg base := tab_fn (k := 3) t3 (by decide) (glo "check_machine" (by simp [gl])) U3 (FunD.bindsN (ps := f_check_machine_p) F3 fun _ _ _ _ _ _ us hl => match us, hl with | [_], _ => rfl) s_f_check_machine m_f_check_machine
  obtain ⟨d4, U4, F4⟩ := at_d c.1 (j := 4) (x := "stands_from") (i := 12) rfl
  have t5 : TabOk T5 P5 P w K mg base := tab_fn (k := 4) t4 (by decide) (glo "stands_from" (by simp [gl])) U4 (FunD.bindsN (ps := f_stands_from_p) F4 fun _ _ _ _ _ _ us hl => match us, hl with | [_, _, _], _ => rfl) s_f_stands_from m_f_stands_from
  obtain ⟨d5, U5, F5⟩ := at_d c.1 (j := 5) (x := "all_letters") (i := 13) rfl
  have t6 : TabOk T6 P6 P w K mg base := tab_fn (k := 5) t5 (by decide) (glo "all_letters" (by simp [gl])) U5 (FunD.bindsN (ps := f_all_letters_p) F5 fun _ _ _ _ _ _ us hl => match us, hl with | [_], _ => rfl) s_f_all_letters m_f_all_letters
  obtain ⟨d6, U6, F6⟩ := at_d c.1 (j := 6) (x := "reached_by") (i := 14) rfl
  have t7 : TabOk T7 P7 P w K mg base := tab_fn (k := 6) t6 (by decide) (glo "reached_by" (by simp [gl])) U6 (FunD.bindsN (ps := f_reached_by_p) F6 fun _ _ _ _ _ _ us hl => match us, hl with | [_], _ => rfl) s_f_reached_by m_f_reached_by
  obtain ⟨d7, U7, F7⟩ := at_d c.1 (j := 7) (x := "led") (i := 15) rfl
  have t8 : TabOk T8 P8 P w K mg base := tab_fn (k := 7) t7 (by decide) (glo "led" (by simp [gl])) U7 (FunD.bindsN (ps := f_led_p) F7 fun _ _ _ _ _ _ us hl => match us, hl with | [_, _, _], _ => rfl) s_f_led m_f_led
  obtain ⟨d8, U8, F8⟩ := at_d c.1 (j := 8) (x := "check_prices") (i := 18) rfl
  have t9 : TabOk T9 P9 P w K mg base := tab_fn (k := 8) t8 (by decide) (glo "check_prices" (by simp [gl])) U8 (FunD.bindsN (ps := f_check_prices_p) F8 fun _ _ _ _ _ _ us hl => match us, hl with | [_, _], _ => rfl) s_f_check_prices m_f_check_prices
  obtain ⟨d9, U9, F9⟩ := at_d c.1 (j := 9) (x := "cheapest_sure") (i := 19) rfl
  have t10 : TabOk T10 P10 P w K mg base := tab_fn (k := 9) t9 (by decide) (glo "cheapest_sure" (by simp [gl])) U9 (FunD.bindsN (ps := f_cheapest_sure_p) F9 fun _ _ _ _ _ _ us hl => match us, hl with | [_, _], _ => rfl) s_f_cheapest_sure m_f_cheapest_sure
  obtain ⟨d10, U10, F10⟩ := at_d c.1 (j := 10) (x := "_law_mix") (i := 21) rfl
  have t11 : TabOk T11 P11 P w K mg base := tab_fn (k := 10) t10 (by decide) (glo "_law_mix" (by simp [gl])) U10 (FunD.bindsN (ps := f_law_mix_p) F10 fun _ _ _ _ _ _ us hl => match us, hl with | [_, _], _ => rfl) s_f_law_mix m_f_law_mix
  obtain ⟨d11, U11, F11⟩ := at_d c.1 (j := 11) (x := "_law_next") (i := 22) rfl
  have t12 : TabOk T12 P12 P w K mg base := tab_fn (k := 11) t11 (by decide) (glo "_law_next" (by simp [gl])) U11 (FunD.bindsN (ps := f_law_next_p) F11 fun _ _ _ _ _ _ us hl => match us, hl with | [_, _], _ => rfl) s_f_law_next m_f_law_next
  obtain ⟨d12, U12, F12⟩ := at_d c.1 (j := 12) (x := "_law_shift") (i := 24) rfl
  have t13 : TabOk T13 P13 P w K mg base := tab_fn (k := 12) t12 (by decide) (glo "_law_shift" (by simp [gl])) U12 (FunD.bindsN (ps := f_law_shift_p) F12 fun _ _ _ _ _ _ us hl => match us, hl with | [_], _ => rfl) s_f_law_shift m_f_law_shift
  obtain ⟨d13, U13, F13⟩ := at_d c.1 (j := 13) (x := "_law_table") (i := 23) rfl
  have t14 : TabOk T14 P14 P w K mg base := tab_fn (k := 13) t13 (by decide) (glo "_law_table" (by simp [gl])) U13 (FunD.bindsN (ps := f_law_table_p) F13 fun _ _ _ _ _ _ us hl => match us, hl with | [_, _, _], _ => rfl) s_f_law_table m_f_law_table
  obtain ⟨d14, U14, F14⟩ := at_d c.1 (j := 14) (x := "_law_led") (i := 25) rfl
  have t15 : TabOk T15 P15 P w K mg base := tab_fn (k := 14) t14 (by decide) (glo "_law_led" (by simp [gl])) U14 (FunD.bindsN (ps := f_law_led_p) F14 fun _ _ _ _ _ _ us hl => match us, hl with | [_, _, _], _ => rfl) s_f_law_led m_f_law_led
  obtain ⟨d15, U15, F15⟩ := at_d c.1 (j := 15) (x := "_law_reach") (i := 26) rfl
  have t16 : TabOk T16 P16 P w K mg base := tab_fn (k := 15) t15 (by decide) (glo "_law_reach" (by simp [gl])) U15 (FunD.bindsN (ps := f_law_reach_p) F15 fun _ _ _ _ _ _ us hl => match us, hl with | [_, _, _], _ => rfl) s_f_law_reach m_f_law_reach
  obtain ⟨d16, U16, F16⟩ := at_d c.1 (j := 16) (x := "_law_all") (i := 27) rfl
  have t17 : TabOk T17 P17 P w K mg base := tab_fn (k := 16) t16 (by decide) (glo "_law_all" (by simp [gl])) U16 (FunD.bindsN (ps := f_law_all_p) F16 fun _ _ _ _ _ _ us hl => match us, hl with | [_], _ => rfl) s_f_law_all m_f_law_all
  exact t17
theorem okLaw (X : K.In h) (G : h.Ns mainGlobals mg) (c : SaysT fa fn gs exK K) : ∃ fd, (∀ (s : Shared) (v : Value), BindsTo s fd ⟨[v], []⟩ [("_law_script", v)]) ∧ ∀ base, FnOk P w K mg base (L2.CX P w) 18 (He.ga K "law") fd ["_law_script"] (SpD w K 1 (P18 "law")) := by
  obtain ⟨fd, U, F⟩ := at_d c.1 (j := 17) (x := "law") (i := 28) rfl
  refine ⟨fd, fun s v => FunD.bindsA (ps := ["_law_script"]) F (fun _ _ _ _ _ _ us hl => match us, hl with | [_], _ => rfl) s [v] rfl, fun base => ?_⟩
  have e : P18 "law" = runDef P17 f_law_N.length f_law := more_at
  rw [e]
  exact fn_ok (tab X G c) U s_f_law m_f_law
end
end Lw
open PySem PySem.W PySem.Calls PyProof.Rows
theorem Lw.close (plain : Lw.Plain) : PySem.Challenge.rw_lasttell_k16_whole_cheapest_rows.Holds := by
  w_on; o_law
  refine HandSHeadRun.head_any (r := OpenLaw.row PySem.Challenge.rw_lasttell_k16_whole_cheapest_rows) (q := view (OpenLaw.row PySem.Challenge.rw_lasttell_k16_whole_cheapest_rows).prog [28]) (H := Lw.hk) (ob := Lw.ob) (M := 4000) (loose := Lw.loose) (d := HandSHeadRun.topDef (OpenLaw.row PySem.Challenge.rw_lasttell_k16_whole_cheapest_rows).prog 28) (kwd := []) Lw.ob_eq
    (by kernel_rfl) (fun s => by kernel_rfl) Lw.run (by kernel_rfl) (by kernel_rfl) (by kernel_rfl) (by rfl) (by first | assumption | decide +kernel) (by decide +kernel) ⟨rfl, rfl, rfl, rfl, rfl, by decide +kernel⟩ ?hw ?hc
  case hw => w_witness2
  case hc =>
    refine TL.walk_w (l := PySem.Challenge.rw_lasttell_k16_whole_cheapest_rows) (n := 63) (k := 18) (x := "_law_script") rfl (by decide) (by kernel_rfl) ⟨rfl, by decide, by decide⟩ ?F
    intro w mg fa h Y G hmg0
    obtain ⟨K, KX, c⟩ := Y
    have hmg : mg ("law" : PySem.Str) = some (.ref fa) := by
      have e : (HandSHeadRun.topDef (OpenLaw.row PySem.Challenge.rw_lasttell_k16_whole_cheapest_rows).prog 28).name = ("law" : PySem.Str) := by kernel_rfl
      rw [← e]
      exact hmg0
    have e := hmg.symm.trans (TL.glo_of KX G c.1 (x := "law") (by simp [Lw.gl]))
    cases e
    obtain ⟨fd, hb, hF⟩ := Lw.okLaw (P := (PySem.Challenge.rw_lasttell_k16_whole_cheapest_rows).prog) (w := w) KX G c
    exact ⟨K, fd, TL.SpD w K 1 (Lw.P18 "law"), KX, hb, fun H a ns hl hS => TL.sp_law (Bool.and_eq_true_iff.mp (Bool.and_eq_true_iff.mp c.2.1).1).2 hS (plain ns hl), fun base _ _ => hF base⟩

set_option maxHeartbeats 4000000
theorem PySem.Challenge.cw_lasttell_k16_whole_cheapest_rows_holds : PySem.Challenge.rw_lasttell_k16_whole_cheapest_rows.Holds := by
  exact Lw.close Lw.plain
