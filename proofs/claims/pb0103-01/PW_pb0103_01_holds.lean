import PyProof.Rows.All
import Wide.All
import OpenK.AllK
import Wide.FinOn
import PySem.Challenge.RW_pb0103_01
set_option bootstrap.genMatcherCode false
section
open PySem PySem.W PyProof.Rows
set_option Elab.async false
namespace Mine

theorem no {α : Type} {f : Option α} {v : α} (h : f = some v) (e : f = none) : False := by rw [e] at h; cases h

/-- pure values -/
inductive V where
  | none | bool (b : Bool) | int (i : Int) | tup (xs : List V) | lst (xs : List V) | byt (bs : List UInt8)
  | dct (es : List (Int × V)) | ref (n : Nat) | obj (C d : Nat) | rng (a b c : Int)

/-- mutable objects of the pure heap -/
inductive O where
  | list (xs : List V) | acc (xs : List V) | dict (es : List (Int × V)) | ns (fs : List (Str × V)) | bytes (bs : List UInt8) | dead

noncomputable abbrev View := Addr → Option Obj

structure Cx where
  prog : Program
  w : World
  S0 : Shared
  mg : Str → Option Value
  mb : Str → Option Value
  g : S0.heap.Ns mainGlobals mg
  b : S0.heap.Ns builtinsNs mb
  bb : ∀ x : Str, x ≠ "__name__" → mb x = bootBuiltins x
  nolimit : S0.heap.NoLimit
  frag : Frag
  X : frag.In S0.heap

noncomputable abbrev Cx.M (c : Cx) : Model := model c.prog c.w

noncomputable def DictShape (c : Cx) (o : Obj) (kvs : List (Int × Value)) : Prop :=
  o.ExactDict ∧ ∃ es ep, o.data = .dict es ep ∧ KeysOf (intKind c.prog c.w) es ∧ Pairs (intKind c.prog c.w) es.toList kvs ∧ (kvs.map (·.1)).Nodup

inductive VR (c : Cx) (K : View) (φ : List Addr) : V → Value → Prop
  | none : VR c K φ .none .none
  | bool (b) : VR c K φ (.bool b) (.bool b)
  | int (i t) : VR c K φ (.int i) (.int i t)
  | byt (bs : List UInt8) (t) : VR c K φ (.byt bs) (.bytes bs.toArray t)
  | tup {xs : List V} {a : Addr} {o : Obj} {items : Array Value} {n : Nat} : K a = some o → o.cls = .type "tuple" → o.data = .seq items n → items.size = xs.length →
      (∀ (i : Nat) x y, xs[i]? = some x → items[i]? = some y → VR c K φ x y) → VR c K φ (.tup xs) (.ref a)
  | lst {xs : List V} {a : Addr} {o : Obj} {items : Array Value} {n : Nat} : K a = some o → o.cls = .type "list" → o.data = .seq items n → items.size = xs.length →
      (∀ (i : Nat) x y, xs[i]? = some x → items[i]? = some y → VR c K φ x y) → VR c K φ (.lst xs) (.ref a)
  | dct {es : List (Int × V)} {a : Addr} {o : Obj} {kvs : List (Int × Value)} : K a = some o → (a == sysModules) = false → DictShape c o kvs → kvs.map (·.1) = es.map (·.1) →
      (∀ (i : Nat) x y, es[i]? = some x → kvs[i]? = some y → VR c K φ x.2 y.2) → VR c K φ (.dct es) (.ref a)
  | ref {n : Nat} {a : Addr} : φ[n]? = some a → VR c K φ (.ref n) (.ref a)
  | obj {C d x dx : Nat} {o : Obj} : K x = some o → o.cls = .ref C → o.dict = some dx → o.data = .plain → φ[d]? = some dx → VR c K φ (.obj C d) (.ref x)
  | rng {a b d : Int} {r : Addr} {t u v : Tok} : K r = some { cls := .type "range", dict := none, data := .fields #[.int a t, .int b u, .int d v], slots := #[] } → VR c K φ (.rng a b d) (.ref r)

noncomputable def View.le (K K' : View) : Prop := ∀ a o, K a = some o → K' a = some o
theorem View.le.refl (K : View) : View.le K K := fun _ _ e => e
theorem View.le.trans {K K' K'' : View} (h : View.le K K') (h' : View.le K' K'') : View.le K K'' := fun a o e => h' a o (h a o e)
noncomputable def View.add (K : View) (a : Addr) (o : Obj) : View := fun b => if b = a then some o else K b
theorem View.le_add {K : View} {a : Addr} {o : Obj} (h : K a = none) : View.le K (K.add a o) := fun b ob e => by
  unfold View.add; split
  · rename_i q; rw [q, h] at e; cases e
  · exact e
theorem View.add_self (K : View) (a : Addr) (o : Obj) : K.add a o a = some o := by simp [View.add]

theorem pre_get {φ φ' : List Addr} (h : φ <+: φ') {n : Nat} {a : Addr} (e : φ[n]? = some a) : φ'[n]? = some a := by
  obtain ⟨t, rfl⟩ := h
  rw [List.getElem?_append_left (List.getElem?_eq_some_iff.mp e).1]; exact e

theorem VR.mono {c : Cx} {K K' : View} {φ φ' : List Addr} (hK : View.le K K') (hφ : φ <+: φ') {v : V} {x : Value} (h : VR c K φ v x) : VR c K' φ' v x := by
  induction h with
  | none => exact .none
  | bool b => exact .bool b
  | int i t => exact .int i t
  | byt bs t => exact .byt bs t
  | tup h1 h2 h3 h4 _ ih => exact .tup (hK _ _ h1) h2 h3 h4 ih
  | lst h1 h2 h3 h4 _ ih => exact .lst (hK _ _ h1) h2 h3 h4 ih
  | dct h1 h0 h2 h3 _ ih => exact .dct (hK _ _ h1) h0 h2 h3 ih
  | ref h => exact .ref (pre_get hφ h)
  | obj h1 h2 h3 h4 h5 => exact .obj (hK _ _ h1) h2 h3 h4 (pre_get hφ h5)
  | rng h1 => exact .rng (hK _ _ h1)

/-- lists of values -/
noncomputable def VsR (c : Cx) (K : View) (φ : List Addr) (xs : List V) (ys : List Value) : Prop :=
  ys.length = xs.length ∧ ∀ (i : Nat) x y, xs[i]? = some x → ys[i]? = some y → VR c K φ x y
theorem VsR.mono {c : Cx} {K K' : View} {φ φ' : List Addr} (hK : View.le K K') (hφ : φ <+: φ') {v : List V} {x : List Value} (h : VsR c K φ v x) : VsR c K' φ' v x :=
  ⟨h.1, fun i x y e e' => (h.2 i x y e e').mono hK hφ⟩
theorem VsR.nil {c : Cx} {K : View} {φ : List Addr} : VsR c K φ [] [] := ⟨rfl, fun i x y e => by simp at e⟩
theorem VsR.cons {c : Cx} {K : View} {φ : List Addr} {x : V} {y : Value} {xs : List V} {ys : List Value} (h : VR c K φ x y) (hs : VsR c K φ xs ys) : VsR c K φ (x :: xs) (y :: ys) := by
  refine ⟨by simp [hs.1], fun i a b e e' => ?_⟩
  cases i with
  | zero => simp at e e'; subst e; subst e'; exact h
  | succ i => exact hs.2 i a b (by simpa using e) (by simpa using e')
theorem VsR.nil_inv {c : Cx} {K : View} {φ : List Addr} {ys : List Value} (h : VsR c K φ [] ys) : ys = [] := List.eq_nil_of_length_eq_zero h.1
theorem VsR.cons_inv {c : Cx} {K : View} {φ : List Addr} {x : V} {xs : List V} {ys : List Value} (h : VsR c K φ (x :: xs) ys) : ∃ y ys', ys = y :: ys' ∧ VR c K φ x y ∧ VsR c K φ xs ys' := by
  obtain ⟨hl, hp⟩ := h
  cases ys with
  | nil => simp at hl
  | cons y ys' => exact ⟨y, ys', rfl, hp 0 x y rfl rfl, by simpa using hl, fun i a b e e' => hp (i + 1) a b (by simpa using e) (by simpa using e')⟩
theorem VsR.append {c : Cx} {K : View} {φ : List Addr} {xs xs' : List V} {ys ys' : List Value} (h : VsR c K φ xs ys) (h' : VsR c K φ xs' ys') : VsR c K φ (xs ++ xs') (ys ++ ys') := by
  refine ⟨by simp [h.1, h'.1], fun i a b e e' => ?_⟩
  by_cases hi : i < xs.length
  · rw [List.getElem?_append_left hi] at e
    rw [List.getElem?_append_left (by rw [h.1]; exact hi)] at e'
    exact h.2 i a b e e'
  · rw [List.getElem?_append_right (by omega)] at e
    rw [List.getElem?_append_right (by rw [h.1]; omega), h.1] at e'
    exact h'.2 _ a b e e'
theorem VsR.get {c : Cx} {K : View} {φ : List Addr} {xs : List V} {ys : List Value} (h : VsR c K φ xs ys) {i : Nat} {x : V} (e : xs[i]? = some x) : ∃ y, ys[i]? = some y ∧ VR c K φ x y := by
  have hi : i < xs.length := (List.getElem?_eq_some_iff.mp e).1
  have hi' : i < ys.length := by rw [h.1]; exact hi
  exact ⟨ys[i], List.getElem?_eq_getElem hi', h.2 i x _ e (List.getElem?_eq_getElem hi')⟩
theorem VsR.set {c : Cx} {K : View} {φ : List Addr} {xs : List V} {ys : List Value} (h : VsR c K φ xs ys) {i : Nat} {x : V} {y : Value} (hv : VR c K φ x y) : VsR c K φ (xs.set i x) (ys.set i y) := by
  refine ⟨by simp [h.1], fun j a b e e' => ?_⟩
  rw [List.getElem?_set] at e e'
  by_cases hj : i = j
  · subst hj
    simp only [if_true] at e e'
    split at e
    · split at e'
      · cases e; cases e'; exact hv
      · cases e'
    · cases e
  · rw [if_neg hj] at e e'; exact h.2 j a b e e'
theorem VsR.take {c : Cx} {K : View} {φ : List Addr} {xs : List V} {ys : List Value} (h : VsR c K φ xs ys) (n : Nat) : VsR c K φ (xs.take n) (ys.take n) := by
  refine ⟨by simp [h.1], fun j a b e e' => ?_⟩
  rw [List.getElem?_take] at e e'
  split at e
  · rename_i q; rw [if_pos q] at e'; exact h.2 j a b e e'
  · cases e
theorem VsR.replicate {c : Cx} {K : View} {φ : List Addr} {x : V} {y : Value} (h : VR c K φ x y) (n : Nat) : VsR c K φ (List.replicate n x) (List.replicate n y) := by
  refine ⟨by simp, fun j a b e e' => ?_⟩
  rw [List.getElem?_replicate] at e e'
  split at e
  · rename_i q; rw [if_pos q] at e'; cases e; cases e'; exact h
  · cases e
theorem VsR.of_arr {c : Cx} {K : View} {φ : List Addr} {xs : List V} {items : Array Value} (hl : items.size = xs.length) (h : ∀ (i : Nat) x y, xs[i]? = some x → items[i]? = some y → VR c K φ x y) : VsR c K φ xs items.toList :=
  ⟨by simpa using hl, fun i x y e e' => h i x y e (by simpa using e')⟩

theorem VR.mk_tup {c : Cx} {K : View} {φ : List Addr} {xs : List V} {a : Addr} {o : Obj} {items : Array Value} {n : Nat} (h1 : K a = some o) (h2 : o.cls = .type "tuple") (h3 : o.data = .seq items n) (h : VsR c K φ xs items.toList) : VR c K φ (.tup xs) (.ref a) :=
  .tup h1 h2 h3 (by simpa using h.1) fun i x y e e' => h.2 i x y e (by simpa using e')
theorem VR.mk_lst {c : Cx} {K : View} {φ : List Addr} {xs : List V} {a : Addr} {o : Obj} {items : Array Value} {n : Nat} (h1 : K a = some o) (h2 : o.cls = .type "list") (h3 : o.data = .seq items n) (h : VsR c K φ xs items.toList) : VR c K φ (.lst xs) (.ref a) :=
  .lst h1 h2 h3 (by simpa using h.1) fun i x y e e' => h.2 i x y e (by simpa using e')

/-- dict entries -/
noncomputable def PsR (c : Cx) (K : View) (φ : List Addr) (es : List (Int × V)) (kvs : List (Int × Value)) : Prop :=
  kvs.map (·.1) = es.map (·.1) ∧ ∀ (i : Nat) x y, es[i]? = some x → kvs[i]? = some y → VR c K φ x.2 y.2
theorem PsR.mono {c : Cx} {K K' : View} {φ φ' : List Addr} (hK : View.le K K') (hφ : φ <+: φ') {v : List (Int × V)} {x : List (Int × Value)} (h : PsR c K φ v x) : PsR c K' φ' v x :=
  ⟨h.1, fun i x y e e' => (h.2 i x y e e').mono hK hφ⟩

noncomputable def NsR (c : Cx) (K : View) (φ : List Addr) (fs : List (Str × V)) (es : List DictEntry) : Prop :=
  ∀ x : Str, match fs.lookup x with
    | some v => ∃ val, getL x es = some (some val) ∧ VR c K φ v val
    | none => getL x es = some none
theorem NsR.mono {c : Cx} {K K' : View} {φ φ' : List Addr} (hK : View.le K K') (hφ : φ <+: φ') {fs : List (Str × V)} {es : List DictEntry} (h : NsR c K φ fs es) : NsR c K' φ' fs es := by
  intro x
  have := h x
  split
  · rename_i v e; rw [e] at this; obtain ⟨val, h1, h2⟩ := this; exact ⟨val, h1, h2.mono hK hφ⟩
  · rename_i e; rw [e] at this; exact this

noncomputable def OR (c : Cx) (K : View) (φ : List Addr) (h : Heap) (a : Addr) : O → Prop
  | .list xs => K a = none ∧ ∃ o items n, h.get? a = some o ∧ o.cls = .type "list" ∧ o.data = .seq items n ∧ VsR c K φ xs items.toList
  | .acc xs => K a = none ∧ ∃ items n, h.get? a = some { cls := .type "list", data := .seq items n } ∧ VsR c K φ xs items.toList
  | .dict es => K a = none ∧ (a == sysModules) = false ∧ ∃ o kvs, h.get? a = some o ∧ DictShape c o kvs ∧ PsR c K φ es kvs
  | .ns fs => K a = none ∧ ∃ es n, h.get? a = some (dictOf es n) ∧ es.length ≤ fs.length ∧ NsR c K φ fs es
  | .bytes bs => K a = none ∧ h.get? a = some { cls := .type "bytearray", data := .bytearray bs.toArray }
  | .dead => ∃ o, K a = some o

/-- the object stays where the heap keeps it -/
theorem OR.mono {c : Cx} {K K' : View} {φ φ' : List Addr} {h h' : Heap} {a : Addr} {o : O} (x : OR c K φ h a o) (hK : View.le K K') (hφ : φ <+: φ') (hn : o ≠ .dead → K a = none → K' a = none)
    (hh : ∀ ob, h.get? a = some ob → h'.get? a = some ob) : OR c K' φ' h' a o := by
  cases o with
  | list xs => obtain ⟨hk, o, items, n, h1, h2, h3, h4⟩ := x; exact ⟨hn (by simp) hk, o, items, n, hh _ h1, h2, h3, h4.mono hK hφ⟩
  | acc xs => obtain ⟨hk, items, n, h1, h4⟩ := x; exact ⟨hn (by simp) hk, items, n, hh _ h1, h4.mono hK hφ⟩
  | dict es => obtain ⟨hk, h0, o, kvs, h1, h2, h3⟩ := x; exact ⟨hn (by simp) hk, h0, o, kvs, hh _ h1, h2, h3.mono hK hφ⟩
  | ns fs => obtain ⟨hk, es, n, h1, h2, h3⟩ := x; exact ⟨hn (by simp) hk, es, n, hh _ h1, h2, h3.mono hK hφ⟩
  | bytes bs => obtain ⟨hk, h1⟩ := x; exact ⟨hn (by simp) hk, hh _ h1⟩
  | dead => obtain ⟨o, h⟩ := x; exact ⟨o, hK _ _ h⟩

structure Inv (c : Cx) (Fs : List (Addr × Obj)) (K : View) (φ : List Addr) (hp : List O) (s : Shared) : Prop where
  base : ∀ a o, c.S0.heap.get? a = some o → K a = some o
  keep : ∀ a o, K a = some o → s.heap.get? a = some o
  fs : ∀ p ∈ Fs, s.heap.get? p.1 = some p.2 ∧ K p.1 = none ∧ p.1 ∉ φ
  fnd : (Fs.map (·.1)).Nodup
  len : φ.length = hp.length
  nodup : φ.Nodup
  obj : ∀ (i : Nat) a o, φ[i]? = some a → hp[i]? = some o → OR c K φ s.heap a o
  gens : s.gens = c.S0.gens
  os : s.os = c.S0.os

namespace Inv
variable {c : Cx} {Fs : List (Addr × Obj)} {K : View} {φ : List Addr} {hp : List O} {s : Shared}

theorem old (I : Inv c Fs K φ hp s) {a : Addr} {o : Obj} (e : c.S0.heap.get? a = some o) : s.heap.get? a = some o := I.keep _ _ (I.base _ _ e)
theorem toks (I : Inv c Fs K φ hp s) (t : Nat) : Inv c Fs K φ hp { s with toks := t } := ⟨I.base, I.keep, I.fs, I.fnd, I.len, I.nodup, I.obj, I.gens, I.os⟩

/-- the heap has only grown -/
theorem grow (I : Inv c Fs K φ hp s) {h' : Heap} {t : Nat} (hk : ∀ b o, s.heap.get? b = some o → h'.get? b = some o) : Inv c Fs K φ hp { s with heap := h', toks := t } where
  base := I.base
  keep a o e := hk _ _ (I.keep a o e)
  fs p hm := ⟨hk _ _ (I.fs p hm).1, (I.fs p hm).2⟩
  fnd := I.fnd
  len := I.len
  nodup := I.nodup
  obj i a o e e' := (I.obj i a o e e').mono (View.le.refl K) (List.prefix_refl φ) (fun _ h => h) (hk a)
  gens := I.gens
  os := I.os

theorem alive (I : Inv c Fs K φ hp s) {i : Nat} {a : Addr} {o : O} (e : φ[i]? = some a) (e' : hp[i]? = some o) (hd : o ≠ .dead) : K a = none ∧ ∃ ob, s.heap.get? a = some ob := by
  have := I.obj i a o e e'
  cases o with
  | list xs => obtain ⟨hk, o, items, n, h1, _⟩ := this; exact ⟨hk, o, h1⟩
  | acc xs => obtain ⟨hk, items, n, h1, _⟩ := this; exact ⟨hk, _, h1⟩
  | dict es => obtain ⟨hk, _, o, kvs, h1, _⟩ := this; exact ⟨hk, o, h1⟩
  | ns fs => obtain ⟨hk, es, n, h1, _⟩ := this; exact ⟨hk, _, h1⟩
  | bytes bs => obtain ⟨hk, h1⟩ := this; exact ⟨hk, _, h1⟩
  | dead => exact absurd rfl hd

theorem there (I : Inv c Fs K φ hp s) {i : Nat} {a : Addr} (e : φ[i]? = some a) : ∃ ob, s.heap.get? a = some ob := by
  have hi : i < hp.length := by rw [← I.len]; exact (List.getElem?_eq_some_iff.mp e).1
  have e' : hp[i]? = some hp[i] := List.getElem?_eq_getElem hi
  by_cases hd : hp[i] = .dead
  · have := I.obj i a _ e e'
    rw [hd] at this
    obtain ⟨o, h⟩ := this
    exact ⟨o, I.keep _ _ h⟩
  · exact (I.alive e e' hd).2
theorem size_phi (I : Inv c Fs K φ hp s) : s.heap.objs.size ∉ φ := fun hm => by
  obtain ⟨i, hi⟩ := List.getElem?_of_mem hm
  obtain ⟨ob, h⟩ := I.there hi
  exact Nat.lt_irrefl _ (Heap.lt_size h)

theorem K_size (I : Inv c Fs K φ hp s) : K s.heap.objs.size = none := by
  cases h : K s.heap.objs.size with
  | none => rfl
  | some o => exact absurd (Heap.lt_size (I.keep _ _ h)) (Nat.lt_irrefl _)

/-- a new object that never changes -/
theorem imm (I : Inv c Fs K φ hp s) (o : Obj) (t : Nat) (hf : o.isFreed = false := by rfl) :
    Inv c Fs (K.add s.heap.objs.size o) φ hp { s with heap := s.heap.push o, toks := t } := by
  have hK := I.K_size
  have hne : ∀ a ob, s.heap.get? a = some ob → a ≠ s.heap.objs.size := fun a ob e => Nat.ne_of_lt (Heap.lt_size e)
  refine ⟨fun a ob e => View.le_add hK _ _ (I.base a ob e), fun a ob e => ?_, fun p hm => ?_, I.fnd, I.len, I.nodup, fun i a ob e e' => ?_, I.gens, I.os⟩
  · unfold View.add at e
    split at e
    · rename_i q; cases e; rw [q]; exact Heap.get?_push_size _ hf
    · exact Heap.get?_push_of_some _ (I.keep _ _ e)
  · obtain ⟨h1, h2, h3⟩ := I.fs p hm
    refine ⟨Heap.get?_push_of_some _ h1, ?_, h3⟩
    unfold View.add; rw [if_neg (hne _ _ h1)]; exact h2
  · refine (I.obj i a ob e e').mono (View.le_add hK) (List.prefix_refl φ) (fun hd h => ?_) fun ob' h => Heap.get?_push_of_some _ h
    obtain ⟨_, ob2, h2⟩ := I.alive e e' hd
    unfold View.add; rw [if_neg (hne _ _ h2)]; exact h

theorem imm_le (I : Inv c Fs K φ hp s) (o : Obj) : View.le K (K.add s.heap.objs.size o) := View.le_add I.K_size

/-- an object that others own -/
theorem own (I : Inv c Fs K φ hp s) (o : Obj) (t : Nat) (hf : o.isFreed = false := by rfl) :
    Inv c ((s.heap.objs.size, o) :: Fs) K φ hp { s with heap := s.heap.push o, toks := t } := by
  have hne : ∀ a ob, s.heap.get? a = some ob → a ≠ s.heap.objs.size := fun a ob e => Nat.ne_of_lt (Heap.lt_size e)
  have G := I.grow (h' := s.heap.push o) (t := t) fun b o e => Heap.get?_push_of_some _ e
  refine ⟨G.base, G.keep, fun p hm => ?_, ?_, G.len, G.nodup, G.obj, G.gens, G.os⟩
  · rcases List.mem_cons.mp hm with rfl | hm
    · exact ⟨Heap.get?_push_size _ hf, I.K_size, I.size_phi⟩
    · exact G.fs p hm
  · rw [List.map_cons, List.nodup_cons]
    refine ⟨fun hm => ?_, I.fnd⟩
    obtain ⟨p, hp, e⟩ := List.mem_map.mp hm
    exact hne _ _ (I.fs p hp).1 e

/-- a new mutable object -/
theorem new (I : Inv c Fs K φ hp s) (o : Obj) (t : Nat) (ob : O)
    (ho : OR c K (φ ++ [s.heap.objs.size]) (s.heap.push o) s.heap.objs.size ob) :
    Inv c Fs K (φ ++ [s.heap.objs.size]) (hp ++ [ob]) { s with heap := s.heap.push o, toks := t } := by
  have G := I.grow (h' := s.heap.push o) (t := t) fun b o e => Heap.get?_push_of_some _ e
  have hne : ∀ a ob, s.heap.get? a = some ob → a ≠ s.heap.objs.size := fun a ob e => Nat.ne_of_lt (Heap.lt_size e)
  refine ⟨G.base, G.keep, fun p hm => ?_, G.fnd, by simp [I.len], ?_, fun i a o' e e' => ?_, G.gens, G.os⟩
  · obtain ⟨h1, h2, h3⟩ := G.fs p hm
    refine ⟨h1, h2, fun hm' => ?_⟩
    rcases List.mem_append.mp hm' with h | h
    · exact h3 h
    · exact hne _ _ (I.fs p hm).1 (List.mem_singleton.mp h)
  · rw [List.nodup_append]
    refine ⟨I.nodup, by simp, fun a ha b hb => ?_⟩
    rw [List.mem_singleton.mp hb]
    intro q; rw [q] at ha; exact I.size_phi ha
  · by_cases hi : i < φ.length
    · rw [List.getElem?_append_left hi] at e
      rw [List.getElem?_append_left (by rw [← I.len]; exact hi)] at e'
      exact (G.obj i a o' e e').mono (View.le.refl K) (List.prefix_append _ _) (fun _ h => h) fun _ h => h
    · have hi' : i = φ.length := by
        have := (List.getElem?_eq_some_iff.mp e).1
        simp at this; omega
      subst hi'
      rw [List.getElem?_append_right (Nat.le_refl _)] at e
      rw [List.getElem?_append_right (by rw [I.len]; exact Nat.le_refl _), I.len] at e'
      simp at e e'
      subst e; subst e'
      exact ho

/-- what was owned goes, whatever became of it -/
theorem drop {a : Addr} {o : Obj} {h' : Heap} (I : Inv c ((a, o) :: Fs) K φ hp s) (t : Nat) (hk : Heap.ExtBut a s.heap h') : Inv c Fs K φ hp { s with heap := h', toks := t } := by
  obtain ⟨h1, h2, h3⟩ := I.fs (a, o) (.head _)
  have hne : ∀ b ob, K b = some ob → b ≠ a := fun b ob e q => by rw [q, h2] at e; cases e
  refine ⟨I.base, fun b ob e => hk _ _ (hne b ob e) (I.keep _ _ e), fun p hm => ?_, (List.nodup_cons.mp I.fnd).2, I.len, I.nodup, fun i b ob e e' => ?_, I.gens, I.os⟩
  · have := I.fs p (List.mem_cons_of_mem _ hm)
    exact ⟨hk _ _ (fun q => (List.nodup_cons.mp I.fnd).1 (List.mem_map.mpr ⟨p, hm, q⟩)) this.1, this.2⟩
  · exact (I.obj i b ob e e').mono (View.le.refl K) (List.prefix_refl φ) (fun _ h => h) fun _ h => hk _ _ (fun q => h3 (by rw [← q]; exact List.mem_of_getElem? e)) h
theorem pop (p : Addr × Obj) (I : Inv c (p :: Fs) K φ hp s) : Inv c Fs K φ hp s :=
  ⟨I.base, I.keep, fun q hq => I.fs q (List.mem_cons_of_mem _ hq), (List.nodup_cons.mp I.fnd).2, I.len, I.nodup, I.obj, I.gens, I.os⟩
theorem pops {Fr : List (Addr × Obj)} (I : Inv c (Fr ++ Fs) K φ hp s) : Inv c Fs K φ hp s := by
  refine ⟨I.base, I.keep, fun q hq => I.fs q (List.mem_append_right _ hq), ?_, I.len, I.nodup, I.obj, I.gens, I.os⟩
  have := I.fnd
  rw [List.map_append, List.nodup_append] at this
  exact this.2.1
theorem perm {Fs' : List (Addr × Obj)} (I : Inv c Fs K φ hp s) (h : Fs.Perm Fs') : Inv c Fs' K φ hp s :=
  ⟨I.base, I.keep, fun q hq => I.fs q (h.mem_iff.mpr hq), (h.map _).nodup_iff.mp I.fnd, I.len, I.nodup, I.obj, I.gens, I.os⟩
theorem out {a : Addr} {o : Obj} (I : Inv c ((a, o) :: Fs) K φ hp s) : a ∉ Fs.map (·.1) := (List.nodup_cons.mp I.fnd).1

/-- an owned object is changed -/
theorem set_own {a : Addr} {o o' : Obj} {h' : Heap} (I : Inv c ((a, o) :: Fs) K φ hp s) (t : Nat) (hs : Heap.SameBut a s.heap h') (ho : h'.get? a = some o') :
    Inv c ((a, o') :: Fs) K φ hp { s with heap := h', toks := t } := by
  obtain ⟨h1, h2, h3⟩ := I.fs (a, o) (.head _)
  have hne : ∀ b ob, K b = some ob → b ≠ a := fun b ob e q => by rw [q, h2] at e; cases e
  refine ⟨I.base, fun b ob e => ?_, fun p hm => ?_, I.fnd, I.len, I.nodup, fun i b ob e e' => ?_, I.gens, I.os⟩
  · exact (hs.2 b (hne b ob e)).trans (I.keep _ _ e)
  · rcases List.mem_cons.mp hm with rfl | hm
    · exact ⟨ho, h2, h3⟩
    · have := I.fs p (List.mem_cons_of_mem _ hm)
      refine ⟨(hs.2 p.1 fun q => I.out (List.mem_map.mpr ⟨p, hm, q⟩)).trans this.1, this.2⟩
  · have hb : b ≠ a := fun q => h3 (q ▸ List.mem_of_getElem? e)
    exact (I.obj i b ob e e').mono (View.le.refl K) (List.prefix_refl φ) (fun _ h => h) fun _ h => (hs.2 b hb).trans h

/-- a mutable object is changed -/
theorem set_obj {i : Nat} {a : Addr} {o o' : O} {h' : Heap} (I : Inv c Fs K φ hp s) (t : Nat) (e : φ[i]? = some a) (e' : hp[i]? = some o) (hd : o ≠ .dead) (hs : Heap.SameBut a s.heap h') (ho : OR c K φ h' a o') :
    Inv c Fs K φ (hp.set i o') { s with heap := h', toks := t } := by
  obtain ⟨hk, _, _⟩ := I.alive e e' hd
  have hne : ∀ b ob, K b = some ob → b ≠ a := fun b ob e q => by rw [q, hk] at e; cases e
  refine ⟨I.base, fun b ob e => (hs.2 b (hne b ob e)).trans (I.keep _ _ e), fun p hm => ?_, I.fnd, by simp [I.len], I.nodup, fun j b ob f f' => ?_, I.gens, I.os⟩
  · have := I.fs p hm
    exact ⟨(hs.2 p.1 fun q => this.2.2 (q ▸ List.mem_of_getElem? e)).trans this.1, this.2⟩
  · by_cases hj : j = i
    · subst hj
      rw [e] at f; cases f
      rw [List.getElem?_set_self (List.getElem?_eq_some_iff.mp e').1] at f'
      cases f'; exact ho
    · rw [List.getElem?_set_ne (fun q => hj q.symm)] at f'
      have hb : b ≠ a := fun q => by
        subst q
        exact hj ((List.getElem?_inj (List.getElem?_eq_some_iff.mp f).1 I.nodup).mp (f.trans e.symm))
      exact (I.obj j b ob f f').mono (View.le.refl K) (List.prefix_refl φ) (fun _ h => h) fun _ h => (hs.2 b hb).trans h

/-- a mutable object that will not change any more -/
theorem freeze {i : Nat} {a : Addr} {o : O} {ob : Obj} (I : Inv c Fs K φ hp s) (e : φ[i]? = some a) (e' : hp[i]? = some o) (hd : o ≠ .dead) (ho : s.heap.get? a = some ob) :
    Inv c Fs (K.add a ob) φ (hp.set i .dead) s := by
  obtain ⟨hk, _, _⟩ := I.alive e e' hd
  refine ⟨fun b o f => View.le_add hk _ _ (I.base b o f), fun b o f => ?_, fun p hm => ?_, I.fnd, by simp [I.len], I.nodup, fun j b o f f' => ?_, I.gens, I.os⟩
  · unfold View.add at f
    split at f
    · rename_i q; cases f; rw [q]; exact ho
    · exact I.keep _ _ f
  · have := I.fs p hm
    refine ⟨this.1, ?_, this.2.2⟩
    have hn : ¬ p.1 = a := fun q => this.2.2 (q ▸ List.mem_of_getElem? e)
    unfold View.add; rw [if_neg hn]; exact this.2.1
  · by_cases hj : j = i
    · subst hj
      rw [e] at f; cases f
      rw [List.getElem?_set_self (List.getElem?_eq_some_iff.mp e').1] at f'
      cases f'; exact ⟨ob, View.add_self ..⟩
    · rw [List.getElem?_set_ne (fun q => hj q.symm)] at f'
      have hb : b ≠ a := fun q => by
        subst q
        exact hj ((List.getElem?_inj (List.getElem?_eq_some_iff.mp f).1 I.nodup).mp (f.trans e.symm))
      refine (I.obj j b o f f').mono (View.le_add hk) (List.prefix_refl φ) (fun _ h => ?_) fun _ h => h
      unfold View.add; rw [if_neg hb]; exact h
end Inv
end Mine
end
section
open PySem PySem.W PyProof.Rows
set_option Elab.async false
set_option linter.unusedVariables false
namespace Mine

noncomputable abbrev Loc := List (Option V)
noncomputable abbrev Hp := List O
noncomputable abbrev EF := Loc → Hp → Option (V × Hp)
noncomputable abbrev TF := Loc → Hp → Option (Bool × Hp)

noncomputable def AOk (n : Nat) (A : Around) : Prop := A.handled = none ∧ A.depth + 10 * n < 800 ∧ A.units + 40 * n < 8000
theorem AOk.le {n m : Nat} {A : Around} (h : AOk n A) (hm : m ≤ n) : AOk m A := ⟨h.1, by have := h.2.1; omega, by have := h.2.2; omega⟩
theorem AOk.room {n : Nat} {A : Around} (h : AOk n A) : A.depth < recursionLimit := by have := h.2.1; show A.depth < 1000; omega
theorem AOk.deeper {n : Nat} {A : Around} {env : Env} (h : AOk (n + 1) A) : AOk n (A.deeper env) := ⟨h.1, by have := h.2.1; show A.depth + 1 + 10 * n < 800; omega, by have := h.2.2; show A.units + 3 + 40 * n < 8000; omega⟩
theorem AOk.units {n : Nat} {A : Around} (h : AOk n A) : A.units + 64 < cLine := by have := h.2.2; show A.units + 64 < 9900; omega
theorem AOk.mark {n : Nat} {A : Around} (h : AOk n A) : AOk n (A.mark none) := by
  have e : A.mark none = A := by cases A; simp [Around.mark]
  rw [e]; exact h

/-- names of a frame, by slots -/
structure EnvR (c : Cx) (Fs : List (Addr × Obj)) (K : View) (φ : List Addr) (env : Env) (ρ : Loc) : Prop where
  kind : env.scope.kind = .function
  glob : env.globals = mainGlobals
  blt : env.builtins = builtinsNs
  nd : (env.scope.names.map (·.1)).Nodup
  has : ∀ x, env.kindOf x = some .cell → (env.cells.lookup x).isSome = true
  cin : ∀ x ca, env.cells.lookup x = some ca → ca ∈ Fs.map (·.1)
  loc : ∃ oL es ep, (env.locals, oL) ∈ Fs ∧ oL.data = .dict es ep ∧ StrKeys es ∧
    ∀ (i : Nat) x v, env.scope.names[i]? = some (x, .local) → ρ[i]? = some (some v) → ∃ val, nsFind es x = some val ∧ VR c K φ v val
  cell : ∀ (i : Nat) x v, env.scope.names[i]? = some (x, .cell) → ρ[i]? = some (some v) →
    ∃ ca o val, env.cells.lookup x = some ca ∧ (ca, o) ∈ Fs ∧ o.data = .cell (some val) ∧ VR c K φ v val

theorem EnvR.mono {c : Cx} {Fs Fs' : List (Addr × Obj)} {K K' : View} {φ φ' : List Addr} {env : Env} {ρ : Loc} (h : EnvR c Fs K φ env ρ) (hF : ∀ p ∈ Fs, p ∈ Fs') (hK : View.le K K') (hφ : φ <+: φ') : EnvR c Fs' K' φ' env ρ := by
  refine ⟨h.kind, h.glob, h.blt, h.nd, h.has, fun x ca hc => (by obtain ⟨p, hp, e⟩ := List.mem_map.mp (h.cin x ca hc); exact List.mem_map.mpr ⟨p, hF p hp, e⟩), ?_, fun i x v e e' => ?_⟩
  · obtain ⟨oL, es, ep, h1, h2, h3, h4⟩ := h.loc
    exact ⟨oL, es, ep, hF _ h1, h2, h3, fun i x v e e' => let ⟨val, a, b⟩ := h4 i x v e e'; ⟨val, a, b.mono hK hφ⟩⟩
  · obtain ⟨ca, o, val, h1, h2, h3, h4⟩ := h.cell i x v e e'
    exact ⟨ca, o, val, h1, hF _ h2, h3, h4.mono hK hφ⟩

theorem lookup_of_slot {α : Type} : ∀ {l : List (Str × α)} {i : Nat} {x : Str} {k : α}, (l.map (·.1)).Nodup → l[i]? = some (x, k) → l.lookup x = some k
  | [], _, _, _, _, e => by simp at e
  | (y, k') :: r, 0, x, k, _, e => by simp at e; obtain ⟨rfl, rfl⟩ := e; simp [List.lookup]
  | (y, k') :: r, i + 1, x, k, nd, e => by
    rw [List.map_cons, List.nodup_cons] at nd
    have e' : r[i]? = some (x, k) := by simpa using e
    have hne : (x == y) = false := by
      cases hq : x == y with
      | false => rfl
      | true => exact absurd (List.mem_map.mpr ⟨(x, k), List.mem_of_getElem? e', eq_of_beq hq⟩) nd.1
    rw [List.lookup_cons, hne]
    exact lookup_of_slot nd.2 e'

inductive Post (c : Cx) (Fs : List (Addr × Obj)) (K : View) (φ : List Addr) (hp : Hp) (v : V) (val : Value) (s : Shared) : Prop
  | mk (K' : View) (φ' : List Addr) (I : Inv c Fs K' φ' hp s) (le : View.le K K') (pre : φ <+: φ') (r : VR c K' φ' v val) : Post c Fs K φ hp v val s
inductive PostL (c : Cx) (Fs : List (Addr × Obj)) (K : View) (φ : List Addr) (hp : Hp) (vs : List V) (vals : List Value) (s : Shared) : Prop
  | mk (K' : View) (φ' : List Addr) (I : Inv c Fs K' φ' hp s) (le : View.le K K') (pre : φ <+: φ') (r : VsR c K' φ' vs vals) : PostL c Fs K φ hp vs vals s
inductive PostB (c : Cx) (Fs : List (Addr × Obj)) (K : View) (φ : List Addr) (hp : Hp) (b : Bool) (b' : Bool) (s : Shared) : Prop
  | mk (e : b' = b) (K' : View) (φ' : List Addr) (I : Inv c Fs K' φ' hp s) (le : View.le K K') (pre : φ <+: φ') : PostB c Fs K φ hp b b' s
noncomputable abbrev NoE : Value → Shared → Prop := fun _ _ => False

/-- an expression does f -/
noncomputable def SE (c : Cx) (n : Nat) (sc : Scope) (e : Expr) (f : EF) : Prop :=
  ∀ (A : Around) (env : Env) Fs K φ hp ρ s v hp', AOk n A → env.scope = sc → Inv c Fs K φ hp s → EnvR c Fs K φ env ρ → f ρ hp = some (v, hp') →
    wpAny c.M A (eval e env) (Post c Fs K φ hp' v) NoE s
/-- a test does f -/
noncomputable def ST (c : Cx) (n : Nat) (sc : Scope) (e : Expr) (f : TF) : Prop :=
  ∀ (A : Around) (env : Env) Fs K φ hp ρ s v hp', AOk n A → env.scope = sc → Inv c Fs K φ hp s → EnvR c Fs K φ env ρ → f ρ hp = some (v, hp') →
    wpAny c.M A (isTrue e env (eval e env)) (PostB c Fs K φ hp' v) NoE s
noncomputable def evL : List EF → Loc → Hp → Option (List V × Hp)
  | [], _, hp => some ([], hp)
  | f :: fs, ρ, hp => (f ρ hp).bind fun r => (evL fs ρ r.2).bind fun q => some (r.1 :: q.1, q.2)
noncomputable def SEs (c : Cx) (n : Nat) (sc : Scope) (es : List Expr) (fs : List EF) : Prop :=
  (∀ env pos, (backTo pos (starEach es env)).any (·.1) = false) ∧
  ∀ (A : Around) (env : Env) Fs K φ hp ρ s vs hp' pos, AOk n A → env.scope = sc → Inv c Fs K φ hp s → EnvR c Fs K φ env ρ → evL fs ρ hp = some (vs, hp') →
    wpAny c.M A (spliced (backTo pos (starEach es env))) (PostL c Fs K φ hp' vs) NoE s
noncomputable def OpS (c : Cx) (n : Nat) (t : Value → Value → Sem Value) (g : V → V → Hp → Option (V × Hp)) : Prop :=
  ∀ (A : Around) Fs K φ hp s a b x y v hp', AOk n A → Inv c Fs K φ hp s → VR c K φ a x → VR c K φ b y → g a b hp = some (v, hp') →
    wpAny c.M A (t x y) (Post c Fs K φ hp' v) NoE s
noncomputable def CmpS (c : Cx) (n : Nat) (op : CmpOp) (g : V → V → Hp → Option Bool) : Prop :=
  ∀ (A : Around) Fs K φ hp s a b x y v, AOk n A → Inv c Fs K φ hp s → VR c K φ a x → VR c K φ b y → g a b hp = some v →
    wpAny c.M A (compareOp op x y) (fun r s' => r = .bool v ∧ Inv c Fs K φ hp s') NoE s

section
variable {c : Cx} {n : Nat} {sc : Scope}

theorem Post.of {Fs : List (Addr × Obj)} {K : View} {φ : List Addr} {hp : Hp} {v : V} {val : Value} {s : Shared} (I : Inv c Fs K φ hp s) (h : VR c K φ v val) : Post c Fs K φ hp v val s :=
  ⟨K, φ, I, .refl K, List.prefix_refl φ, h⟩
theorem Post.trans {Fs : List (Addr × Obj)} {K K' : View} {φ φ' : List Addr} {hp : Hp} {v : V} {val : Value} {s : Shared} (h : Post c Fs K' φ' hp v val s) (hK : View.le K K') (hφ : φ <+: φ') : Post c Fs K φ hp v val s :=
  let ⟨K'', φ'', I, a, b, r⟩ := h; ⟨K'', φ'', I, hK.trans a, hφ.trans b, r⟩

noncomputable def eC (v : V) : EF := fun _ hp => some (v, hp)
theorem SE.cint {i : Int} {k : Nat} {pos : Pos} : SE c n sc (.Constant (.int i) k pos) (eC (.int i)) := by
  intro A env Fs K φ hp ρ s v hp' hA he I R hf
  cases hf
  exact wpAny_Constant_int (Post.of (I.toks _) (.int _ _))
theorem SE.cnone {k : Nat} {pos : Pos} : SE c n sc (.Constant .none k pos) (eC .none) := by
  intro A env Fs K φ hp ρ s v hp' hA he I R hf
  cases hf
  exact wpAny_pure (Post.of I .none)
theorem SE.cbool {b : Bool} {k : Nat} {pos : Pos} : SE c n sc (.Constant (.bool b) k pos) (eC (.bool b)) := by
  intro A env Fs K φ hp ρ s v hp' hA he I R hf
  cases hf
  exact wpAny_pure (Post.of I (.bool _))

noncomputable def eV (i : Nat) : EF := fun ρ hp => match ρ[i]? with
  | some (some v) => some (v, hp)
  | _ => none
theorem SE.var {x : Str} {pos : Pos} (i : Nat) (k : NameKind) (hx : sc.names[i]? = some (x, k)) (hk : k = .local ∨ k = .cell) (hd : (x == ("__debug__" : Str)) = false) : SE c n sc (.Name x pos) (eV i) := by
  intro A env Fs K φ hp ρ s v hp' hA he I R hf
  subst he
  unfold eV at hf
  split at hf
  · rename_i v' hv
    cases hf
    have hl := lookup_of_slot R.nd hx
    rcases hk with rfl | rfl
    · obtain ⟨oL, es, ep, h1, h2, h3, h4⟩ := R.loc
      obtain ⟨val, h5, h6⟩ := h4 i x v hx hv
      refine wpAny_Name (wpAny_loadName_local R.kind hl ⟨oL, es, ep, (I.fs _ h1).1, h2, h3, fun _ => rfl⟩ h5 (Post.of I h6)) hd
    · obtain ⟨ca, o, val, h1, h2, h3, h4⟩ := R.cell i x v hx hv
      exact wpAny_Name (wpAny_loadName_cell R.kind hl h1 ⟨o, (I.fs _ h2).1, h3⟩ (Post.of I h4)) hd
  · cases hf

/-- a name of the top -/
theorem SE.gint {x : Str} {pos : Pos} (i : Int) (t : Tok) (hx : sc.names.lookup x = some .globalImplicit) (hd : (x == ("__debug__" : Str)) = false) (hm : c.mg x = some (.int i t)) : SE c n sc (.Name x pos) (eC (.int i)) := by
  intro A env Fs K φ hp ρ s v hp' hA he I R hf
  subst he
  cases hf
  exact Calls.Name_function_global R.kind hx (Calls.loadGlobal_global (R.glob ▸ c.g.keeps fun b o e => I.old e) hm (Post.of I (.int _ _))) hd

noncomputable def eBin (o : V → V → Hp → Option (V × Hp)) (f g : EF) : EF := fun ρ hp => (f ρ hp).bind fun r => (g ρ r.2).bind fun q => o r.1 q.1 q.2
theorem SE.bin {l r : Expr} {op : Operator} {pos : Pos} {f g : EF} {o : V → V → Hp → Option (V × Hp)} (hl : SE c n sc l f) (hr : SE c n sc r g) (ho : OpS c n (binaryOp op) o) : SE c n sc (.BinOp l op r pos) (eBin o f g) := by
  intro A env Fs K φ hp ρ s v hp' hA he I R hf
  obtain ⟨⟨a, hp1⟩, e1, hf⟩ := Option.bind_eq_some_iff.mp hf
  obtain ⟨⟨b, hp2⟩, e2, hf⟩ := Option.bind_eq_some_iff.mp hf
  refine wpAny_BinOp (wpAny_mono (hl A env Fs K φ hp ρ s a hp1 hA he I R e1) ?_ fun _ _ x => x)
  rintro x s1 ⟨K1, φ1, I1, k1, p1, v1⟩
  refine wpAny_mono (hr A env Fs K1 φ1 hp1 ρ s1 b hp2 hA he I1 (R.mono (fun _ h => h) k1 p1) e2) ?_ fun _ _ x => x
  rintro y s2 ⟨K2, φ2, I2, k2, p2, v2⟩
  refine wpAny_mono (ho A Fs K2 φ2 hp2 s2 a b x y v hp' hA I2 (v1.mono k2 p2) v2 hf) ?_ fun _ _ x => x
  exact fun z s3 h => h.trans (k1.trans k2) (p1.trans p2)

noncomputable def eUn (o : V → Option V) (f : EF) : EF := fun ρ hp => (f ρ hp).bind fun r => (o r.1).map fun v => (v, r.2)
noncomputable def oNeg : V → Option V
  | .int i => some (.int (-i))
  | _ => none
theorem SE.neg {e : Expr} {pos : Pos} {f : EF} (h : SE c n sc e f) : SE c n sc (.UnaryOp .USub e pos) (eUn oNeg f) := by
  intro A env Fs K φ hp ρ s v hp' hA he I R hf
  obtain ⟨⟨a, hp1⟩, e1, hf⟩ := Option.bind_eq_some_iff.mp hf
  obtain ⟨r, e2, hf⟩ := Option.map_eq_some_iff.mp hf
  cases hf
  refine wpAny_UnaryOp (wpAny_mono (h A env Fs K φ hp ρ s a _ hA he I R e1) ?_ fun _ _ x => x)
  rintro x s1 ⟨K1, φ1, I1, k1, p1, v1⟩
  obtain ⟨i, rfl⟩ : ∃ z, a = .int z := by cases a <;> first | exact ⟨_, rfl⟩ | exact (no e2 rfl).elim
  cases e2
  cases v1
  exact P.neg_int ⟨K1, φ1, I1.toks _, k1, p1, .int _ _⟩

/-- int operators -/
noncomputable def oInt (p : Int → Int → Option Int) : V → V → Hp → Option (V × Hp)
  | .int a, .int b, hp => (p a b).map fun r => (.int r, hp)
  | _, _, _ => none
theorem OpS.int {t : Value → Value → Sem Value} {p : Int → Int → Option Int}
    (h : ∀ (A : Around) (s : Shared) a b r ta tb (Q : Value → Shared → Prop), p a b = some r → (∀ tk, Q (.int r tk) { s with toks := s.toks + 1 }) → wpAny c.M A (t (.int a ta) (.int b tb)) Q NoE s) : OpS c n t (oInt p) := by
  intro A Fs K φ hp s a b x y v hp' hA I ha hb hf
  obtain ⟨i, rfl⟩ : ∃ z, a = .int z := by cases a <;> first | exact ⟨_, rfl⟩ | exact (no hf rfl).elim
  obtain ⟨j, rfl⟩ : ∃ z, b = .int z := by cases b <;> first | exact ⟨_, rfl⟩ | exact (no hf rfl).elim
  obtain ⟨r, e, hf⟩ := Option.map_eq_some_iff.mp hf
  cases hf
  cases ha; cases hb
  exact h A s _ _ r _ _ _ e fun tk => Post.of (I.toks _) (.int _ _)

noncomputable def pAdd (a b : Int) : Option Int := some (a + b)
noncomputable def pSub (a b : Int) : Option Int := some (a - b)
noncomputable def pMul (a b : Int) : Option Int := if a.natAbs < 2 ^ 64 then some (a * b) else none
noncomputable def pDiv (a b : Int) : Option Int := if b ≠ 0 ∧ b.natAbs < 1073741824 then some (a.fdiv b) else none
noncomputable def pMod (a b : Int) : Option Int := if b ≠ 0 ∧ b.natAbs < 1073741824 then some (a.fmod b) else none
noncomputable def pPow (a b : Int) : Option Int := if 0 ≤ b ∧ b ≤ 1000000 ∧ a.natAbs < 2 ^ 64 then some (a ^ b.toNat) else none
noncomputable def pShl (a b : Int) : Option Int := if 0 ≤ b ∧ b ≤ 1000000 ∧ a.natAbs < 2 ^ 64 then some (a * 2 ^ b.toNat) else none
noncomputable def pShr (a b : Int) : Option Int := if 0 ≤ b then some (a.fdiv (2 ^ b.toNat)) else none
noncomputable def pOr (a b : Int) : Option Int := some (Builtin.bitOr a b)
noncomputable def pAnd (a b : Int) : Option Int := some (Builtin.bitAnd a b)
theorem OpS.sub : OpS c n (binaryOp .Sub) (oInt pSub) := .int fun A s a b r ta tb Q e h => by cases e; exact P.sub_int (h _)
theorem OpS.div : OpS c n (binaryOp .FloorDiv) (oInt pDiv) := .int fun A s a b r ta tb Q e h => by
  unfold pDiv at e; split at e
  · rename_i q; cases e; exact floordiv_int q.1 (h _) (.inl (PyProof.noPylong_small q.2))
  · cases e
theorem OpS.mod : OpS c n (binaryOp .Mod) (oInt pMod) := .int fun A s a b r ta tb Q e h => by
  unfold pMod at e; split at e
  · rename_i q; cases e; exact mod_int' q.1 (h _)
  · cases e
theorem OpS.pow : OpS c n (binaryOp .Pow) (oInt pPow) := .int fun A s a b r ta tb Q e h => by
  unfold pPow at e; split at e
  · rename_i q; cases e; exact pow_int_small q.1 q.2.1 q.2.2 (h _)
  · cases e
theorem OpS.shl : OpS c n (binaryOp .LShift) (oInt pShl) := .int fun A s a b r ta tb Q e h => by
  unfold pShl at e; split at e
  · rename_i q; cases e; exact lshift_int_small q.1 q.2.1 q.2.2 (h _)
  · cases e
theorem OpS.shr : OpS c n (binaryOp .RShift) (oInt pShr) := .int fun A s a b r ta tb Q e h => by
  unfold pShr at e; split at e
  · rename_i q; cases e; exact rshift_int q (h _)
  · cases e
theorem OpS.or : OpS c n (binaryOp .BitOr) (oInt pOr) := .int fun A s a b r ta tb Q e h => by cases e; exact or_int (h _)
theorem OpS.and : OpS c n (binaryOp .BitAnd) (oInt pAnd) := .int fun A s a b r ta tb Q e h => by cases e; exact and_int (h _)

/-- int comparisons -/
noncomputable def oCmp (p : Int → Int → Bool) : V → V → Hp → Option Bool
  | .int a, .int b, _ => some (p a b)
  | _, _, _ => none
theorem CmpS.int {op : CmpOp} {p : Int → Int → Bool}
    (h : ∀ (A : Around) (s : Shared) a b ta tb (Q : Value → Shared → Prop), Q (.bool (p a b)) s → wpAny c.M A (compareOp op (.int a ta) (.int b tb)) Q NoE s) : CmpS c n op (oCmp p) := by
  intro A Fs K φ hp s a b x y v hA I ha hb hf
  obtain ⟨i, rfl⟩ : ∃ z, a = .int z := by cases a <;> first | exact ⟨_, rfl⟩ | exact (no hf rfl).elim
  obtain ⟨j, rfl⟩ : ∃ z, b = .int z := by cases b <;> first | exact ⟨_, rfl⟩ | exact (no hf rfl).elim
  cases hf
  cases ha; cases hb
  exact h A s _ _ _ _ _ ⟨rfl, I⟩
theorem CmpS.lt : CmpS c n .Lt (oCmp fun a b => decide (a < b)) := .int fun A s a b ta tb Q h => P.lt_int h
theorem CmpS.le : CmpS c n .LtE (oCmp fun a b => decide (a ≤ b)) := .int fun A s a b ta tb Q h => P.le_int h
theorem CmpS.gt : CmpS c n .Gt (oCmp fun a b => decide (a > b)) := .int fun A s a b ta tb Q h => P.gt_int h
theorem CmpS.ge : CmpS c n .GtE (oCmp fun a b => decide (a ≥ b)) := .int fun A s a b ta tb Q h => P.ge_int h
theorem CmpS.eq : CmpS c n .Eq (oCmp fun a b => a == b) := .int fun A s a b ta tb Q h => P.eq_int h
theorem CmpS.ne : CmpS c n .NotEq (oCmp fun a b => a != b) := .int fun A s a b ta tb Q h => P.ne_int h

noncomputable def tCmp (o : V → V → Hp → Option Bool) (f g : EF) : TF := fun ρ hp => (f ρ hp).bind fun r => (g ρ r.2).bind fun q => (o r.1 q.1 q.2).map fun b => (b, q.2)
theorem ST.cmp {l r : Expr} {op : CmpOp} {pos : Pos} {f g : EF} {o : V → V → Hp → Option Bool} (hl : SE c n sc l f) (hr : SE c n sc r g) (ho : CmpS c n op o) (hm : behindInMarks op r = false) : ST c n sc (.Compare l [op] [r] pos) (tCmp o f g) := by
  intro A env Fs K φ hp ρ s v hp' hA he I R hf
  obtain ⟨⟨a, hp1⟩, e1, hf⟩ := Option.bind_eq_some_iff.mp hf
  obtain ⟨⟨b, hp2⟩, e2, hf⟩ := Option.bind_eq_some_iff.mp hf
  obtain ⟨t, e3, hf⟩ := Option.map_eq_some_iff.mp hf
  cases hf
  refine wpAny_isTrue_Compare1 (wpAny_mono (hl A env Fs K φ hp ρ s a hp1 hA he I R e1) ?_ fun _ _ x => x) hm
  rintro x s1 ⟨K1, φ1, I1, k1, p1, v1⟩
  refine wpAny_mono (hr A env Fs K1 φ1 hp1 ρ s1 b _ hA he I1 (R.mono (fun _ h => h) k1 p1) e2) ?_ fun _ _ x => x
  rintro y s2 ⟨K2, φ2, I2, k2, p2, v2⟩
  refine wpAny_mono (ho A Fs K2 φ2 _ s2 a b x y v hA I2 (v1.mono k2 p2) v2 e3) ?_ fun _ _ x => x
  rintro z s3 ⟨rfl, I3⟩
  exact wpAny_truthy_bool ⟨rfl, K2, φ2, I3, k1.trans k2, p1.trans p2⟩
noncomputable def eCmp (o : V → V → Hp → Option Bool) (f g : EF) : EF := fun ρ hp => (tCmp o f g ρ hp).map fun r => (.bool r.1, r.2)
noncomputable def tOr (f g : TF) : TF := fun ρ hp => (f ρ hp).bind fun r => if r.1 then some (true, r.2) else g ρ r.2
theorem ST.or {a b : Expr} {pos : Pos} {f g : TF} (ha : ST c n sc a f) (hb : ST c n sc b g) : ST c n sc (.BoolOp .Or [a, b] pos) (tOr f g) := by
  intro A env Fs K φ hp ρ s v hp' hA he I R hf
  obtain ⟨⟨t, hp1⟩, e1, hf⟩ := Option.bind_eq_some_iff.mp hf
  refine isTrue_or (wpAny_mono (ha A env Fs K φ hp ρ s t hp1 hA he I R e1) ?_ fun _ _ x => x)
  rintro x s1 ⟨rfl, K1, φ1, I1, k1, p1⟩
  cases x with
  | true => cases hf; exact ⟨rfl, K1, φ1, I1, k1, p1⟩
  | false =>
    simp only [Bool.false_eq_true, if_false] at hf ⊢
    refine isTrue_or (wpAny_mono (hb A env Fs K1 φ1 hp1 ρ s1 v hp' hA he I1 (R.mono (fun _ h => h) k1 p1) hf) ?_ fun _ _ x => x)
    rintro y s2 ⟨rfl, K2, φ2, I2, k2, p2⟩
    cases y with
    | true => exact ⟨rfl, K2, φ2, I2, k1.trans k2, p1.trans p2⟩
    | false => exact isTrue_or_nil ⟨rfl, K2, φ2, I2, k1.trans k2, p1.trans p2⟩

noncomputable def eIf (t : TF) (f g : EF) : EF := fun ρ hp => (t ρ hp).bind fun r => if r.1 then f ρ r.2 else g ρ r.2
theorem SE.ite {t a b : Expr} {pos : Pos} {ft : TF} {f g : EF} (ht : ST c n sc t ft) (ha : SE c n sc a f) (hb : SE c n sc b g) : SE c n sc (.IfExp t a b pos) (eIf ft f g) := by
  intro A env Fs K φ hp ρ s v hp' hA he I R hf
  obtain ⟨⟨b, hp1⟩, e1, hf⟩ := Option.bind_eq_some_iff.mp hf
  refine wpAny_IfExp (wpAny_mono (ht A env Fs K φ hp ρ s b hp1 hA he I R e1) ?_ fun _ _ x => x)
  rintro x s1 ⟨rfl, K1, φ1, I1, k1, p1⟩
  cases x with
  | true => exact wpAny_mono (ha A env Fs K1 φ1 hp1 ρ s1 v hp' hA he I1 (R.mono (fun _ h => h) k1 p1) hf) (fun y s2 h => h.trans k1 p1) fun _ _ x => x
  | false => exact wpAny_mono (hb A env Fs K1 φ1 hp1 ρ s1 v hp' hA he I1 (R.mono (fun _ h => h) k1 p1) hf) (fun y s2 h => h.trans k1 p1) fun _ _ x => x

theorem SEs.nil : SEs c n sc [] [] := by
  refine ⟨fun _ _ => rfl, ?_⟩
  intro A env Fs K φ hp ρ s vs hp' pos hA he I R hf
  cases hf
  exact Calls.spliced_nil ⟨K, φ, I, .refl K, List.prefix_refl φ, .nil⟩
theorem SEs.cons {e : Expr} {es : List Expr} {f : EF} {fs : List EF} (he : ∀ rest env, starEach (e :: rest) env = (false, eval e env) :: starEach rest env) (h : SE c n sc e f) (hs : SEs c n sc es fs) : SEs c n sc (e :: es) (f :: fs) := by
  refine ⟨fun env pos => ?_, ?_⟩
  · rw [he]
    have := hs.1 env pos
    show (false || (backTo pos (starEach es env)).any (·.1)) = false
    rw [this]; rfl
  intro A env Fs K φ hp ρ s vs hp' pos hA hse I R hf
  obtain ⟨⟨a, hp1⟩, e1, hf⟩ := Option.bind_eq_some_iff.mp hf
  obtain ⟨⟨bs, hp2⟩, e2, hf⟩ := Option.bind_eq_some_iff.mp hf
  cases hf
  rw [he]
  have hb : backTo pos ((false, eval e env) :: starEach es env) = (false, eval e env) :: backTo pos (starEach es env) := rfl
  rw [hb]
  refine Calls.spliced_cons (wpAny_mono (h A env Fs K φ hp ρ s a hp1 hA hse I R e1) ?_ fun _ _ x => x)
  rintro x s1 ⟨K1, φ1, I1, k1, p1, v1⟩
  refine wpAny_mono (hs.2 A env Fs K1 φ1 hp1 ρ s1 bs hp2 pos hA hse I1 (R.mono (fun _ h => h) k1 p1) e2) ?_ fun _ _ x => x
  rintro ys s2 ⟨K2, φ2, I2, k2, p2, v2⟩
  exact ⟨K2, φ2, I2, k1.trans k2, p1.trans p2, .cons (v1.mono k2 p2) v2⟩
end
end Mine
end
section
open PySem PySem.W PyProof.Rows
set_option Elab.async false
set_option linter.unusedVariables false
namespace Mine

inductive Fl where
  | next | brk | cont | ret (v : V)
inductive FlR (c : Cx) (K : View) (φ : List Addr) : Fl → Flow → Prop
  | next : FlR c K φ .next .next
  | brk : FlR c K φ .brk .brk
  | cont : FlR c K φ .cont .cont
  | ret {v val} : VR c K φ v val → FlR c K φ (.ret v) (.ret val)
noncomputable abbrev SF := Loc → Hp → Option (Fl × Loc × Hp)

structure FrOk (env : Env) (Fr : List (Addr × Obj)) : Prop where
  head : ∃ oL es ep rest, Fr = (env.locals, oL) :: rest ∧ oL.data = .dict es ep ∧ StrKeys es
  cell : ∀ x ca, env.cells.lookup x = some ca → ∃ o cv, (ca, o) ∈ Fr ∧ o.data = .cell cv
  inj : ∀ x y ca, env.cells.lookup x = some ca → env.cells.lookup y = some ca → x = y
  has : ∀ x, env.kindOf x = some .cell → (env.cells.lookup x).isSome = true

/-- the state amid a frame's statements -/
inductive StM (c : Cx) (Fs : List (Addr × Obj)) (K : View) (φ : List Addr) (hp : Hp) (env : Env) (ρ : Loc) (s : Shared) : Prop
  | mk (Fr : List (Addr × Obj)) (I : Inv c (Fr ++ Fs) K φ hp s) (F : FrOk env Fr) (R : EnvR c Fr K φ env ρ) : StM c Fs K φ hp env ρ s
inductive PostS (c : Cx) (Fs : List (Addr × Obj)) (K : View) (φ : List Addr) (hp : Hp) (env : Env) (ρ : Loc) (fl : Fl) (flow : Flow) (s : Shared) : Prop
  | mk (K' : View) (φ' : List Addr) (I : StM c Fs K' φ' hp env ρ s) (le : View.le K K') (pre : φ <+: φ') (r : FlR c K' φ' fl flow) : PostS c Fs K φ hp env ρ fl flow s
inductive PostU (c : Cx) (Fs : List (Addr × Obj)) (K : View) (φ : List Addr) (hp : Hp) (env : Env) (ρ : Loc) (s : Shared) : Prop
  | mk (K' : View) (φ' : List Addr) (I : StM c Fs K' φ' hp env ρ s) (le : View.le K K') (pre : φ <+: φ') : PostU c Fs K φ hp env ρ s

inductive PostE (c : Cx) (Fs : List (Addr × Obj)) (K : View) (φ : List Addr) (hp : Hp) (env : Env) (ρ : Loc) (v : V) (val : Value) (s : Shared) : Prop
  | mk (K' : View) (φ' : List Addr) (I : StM c Fs K' φ' hp env ρ s) (le : View.le K K') (pre : φ <+: φ') (r : VR c K' φ' v val) : PostE c Fs K φ hp env ρ v val s
inductive PostT (c : Cx) (Fs : List (Addr × Obj)) (K : View) (φ : List Addr) (hp : Hp) (env : Env) (ρ : Loc) (b b' : Bool) (s : Shared) : Prop
  | mk (e : b' = b) (K' : View) (φ' : List Addr) (I : StM c Fs K' φ' hp env ρ s) (le : View.le K K') (pre : φ <+: φ') : PostT c Fs K φ hp env ρ b b' s

noncomputable def S1 (c : Cx) (n : Nat) (sc : Scope) (st : Stmt) (f : SF) : Prop :=
  ∀ (A : Around) (env : Env) Fs K φ hp ρ s fl ρ' hp', AOk n A → env.scope = sc → StM c Fs K φ hp env ρ s → f ρ hp = some (fl, ρ', hp') →
    wpAny c.M A (exec st env) (PostS c Fs K φ hp' env ρ' fl) NoE s
noncomputable def SS (c : Cx) (n : Nat) (sc : Scope) (st : List Stmt) (f : SF) : Prop :=
  ∀ (A : Around) (env : Env) Fs K φ hp ρ s fl ρ' hp', AOk n A → env.scope = sc → StM c Fs K φ hp env ρ s → f ρ hp = some (fl, ρ', hp') →
    wpAny c.M A (execs st env) (PostS c Fs K φ hp' env ρ' fl) NoE s
noncomputable def SA (c : Cx) (n : Nat) (sc : Scope) (t : Expr) (g : V → Loc → Option Loc) : Prop :=
  ∀ (A : Around) (env : Env) Fs K φ hp ρ s v val ρ', AOk n A → env.scope = sc → StM c Fs K φ hp env ρ s → VR c K φ v val → g v ρ = some ρ' →
    wpAny c.M A (assign t env val) (fun _ s' => PostU c Fs K φ hp env ρ' s') NoE s

section
variable {c : Cx} {n : Nat} {sc : Scope} {Fs : List (Addr × Obj)} {K K' : View} {φ φ' : List Addr} {hp : Hp} {env : Env} {ρ : Loc} {s : Shared} {A : Around}

theorem PostS.trans {fl : Fl} {flow : Flow} (h : PostS c Fs K' φ' hp env ρ fl flow s) (hK : View.le K K') (hφ : φ <+: φ') : PostS c Fs K φ hp env ρ fl flow s :=
  let ⟨K'', φ'', I, a, b, r⟩ := h; ⟨K'', φ'', I, hK.trans a, hφ.trans b, r⟩

/-- an expression amid the statements -/
theorem StM.eval {e : Expr} {f : EF} {v : V} {hp' : Hp} (h : SE c n sc e f) (hA : AOk n A) (he : env.scope = sc) (I : StM c Fs K φ hp env ρ s) (hf : f ρ hp = some (v, hp')) :
    wpAny c.M A (eval e env) (PostE c Fs K φ hp' env ρ v) NoE s := by
  obtain ⟨Fr, I, F, R⟩ := I
  refine wpAny_mono (h A env (Fr ++ Fs) K φ hp ρ s v hp' hA he I (R.mono (fun p hp => List.mem_append_left _ hp) (.refl K) (List.prefix_refl φ)) hf) ?_ fun _ _ x => x
  rintro val s1 ⟨K1, φ1, I1, k1, p1, v1⟩
  exact ⟨K1, φ1, ⟨Fr, I1, F, R.mono (fun _ h => h) k1 p1⟩, k1, p1, v1⟩
theorem StM.test {e : Expr} {f : TF} {b : Bool} {hp' : Hp} (h : ST c n sc e f) (hA : AOk n A) (he : env.scope = sc) (I : StM c Fs K φ hp env ρ s) (hf : f ρ hp = some (b, hp')) :
    wpAny c.M A (isTrue e env (PySem.eval e env)) (PostT c Fs K φ hp' env ρ b) NoE s := by
  obtain ⟨Fr, I, F, R⟩ := I
  refine wpAny_mono (h A env (Fr ++ Fs) K φ hp ρ s b hp' hA he I (R.mono (fun p hp => List.mem_append_left _ hp) (.refl K) (List.prefix_refl φ)) hf) ?_ fun _ _ x => x
  rintro val s1 ⟨e1, K1, φ1, I1, k1, p1⟩
  exact ⟨e1, K1, φ1, ⟨Fr, I1, F, R.mono (fun _ h => h) k1 p1⟩, k1, p1⟩
theorem StM.grow (I : StM c Fs K φ hp env ρ s) {h' : Heap} {t : Nat} (hk : ∀ b o, s.heap.get? b = some o → h'.get? b = some o) : StM c Fs K φ hp env ρ { s with heap := h', toks := t } :=
  let ⟨Fr, I, F, R⟩ := I; ⟨Fr, I.grow hk, F, R⟩

theorem StM.keep {a : Addr} {o : Obj} (I : StM c Fs K φ hp env ρ s) (h : K a = some o) : s.heap.get? a = some o := let ⟨_, I, _, _⟩ := I; I.keep _ _ h
theorem nsSet_obj {a : Addr} {o : Obj} {es : Array DictEntry} {ep : Nat} {name : Str} {v : Value} {Q : Unit → Shared → Prop} {E : Value → Shared → Prop} {M : Model} (ho : s.heap.get? a = some o) (hd : o.data = .dict es ep) (hk : StrKeys es)
    (h : ∀ h' o' es' ep', h'.get? a = some o' → o'.data = .dict es' ep' → StrKeys es' → (∀ x, nsFind es' x = if x = name then some v else nsFind es x) → Heap.SameBut a s.heap h' → Q () { s with heap := h', toks := s.toks + 1 }) :
    wpAny M A (nsSet a name v) Q E s := by
  refine wpAny_nsSet (m := nsFind es) ⟨o, es, ep, ho, hd, hk, fun _ => rfl⟩ fun h' hn hs => ?_
  obtain ⟨o', es', ep', h1, h2, h3, h4⟩ := hn
  exact h h' o' es' ep' h1 h2 h3 h4 hs

theorem slot_inj {i j : Nat} {x : Str} {k k' : NameKind} (nd : (env.scope.names.map (·.1)).Nodup) (hi : env.scope.names[i]? = some (x, k)) (hj : env.scope.names[j]? = some (x, k')) : i = j := by
  have h1 : (env.scope.names.map (·.1))[i]? = some x := by rw [List.getElem?_map, hi]; rfl
  have h2 : (env.scope.names.map (·.1))[j]? = some x := by rw [List.getElem?_map, hj]; rfl
  exact (List.getElem?_inj (List.getElem?_eq_some_iff.mp h1).1 nd).mp (h1.trans h2.symm)

/-- a name of the frame is bound -/
theorem StM.store {i : Nat} {x : Str} {k : NameKind} {v : V} {val : Value} (hx : env.scope.names[i]? = some (x, k)) (hk : k = .local ∨ k = .cell)
    (I : StM c Fs K φ hp env ρ s) (hv : VR c K φ v val) :
    wpAny c.M A (storeName env x val) (fun _ s' => StM c Fs K φ hp env (ρ.set i (some v)) s') NoE s := by
  obtain ⟨Fr, I, F, R⟩ := I
  have hl := lookup_of_slot R.nd hx
  have setval : ∀ (j : Nat) (u : V), (ρ.set i (some v))[j]? = some (some u) → (j = i ∧ u = v) ∨ (j ≠ i ∧ ρ[j]? = some (some u)) := fun j u e => by
    rw [List.getElem?_set] at e
    by_cases hj : i = j
    · subst hj
      simp only [if_true] at e
      split at e
      · cases e; exact .inl ⟨rfl, rfl⟩
      · cases e
    · rw [if_neg hj] at e; exact .inr ⟨fun q => hj q.symm, e⟩
  rcases hk with rfl | rfl
  · obtain ⟨oL, es, ep, rest, rfl, hd, hsk⟩ := F.head
    have hp0 : (env.scope.kind == .class || (env.scope.kind == .module && env.locals != env.globals)) = false := by rw [R.kind]; rfl
    rw [storeName_local hl hp0]
    refine nsSet_obj (I.fs (env.locals, oL) (.head _)).1 hd hsk fun h' o' es' ep' h1 h2 h3 h4 hs => ?_
    have I' := Inv.set_own (Fs := rest ++ Fs) (by simpa using I) (s.toks + 1) hs h1
    refine ⟨(env.locals, o') :: rest, by simpa using I', ⟨⟨o', es', ep', rest, rfl, h2, h3⟩, fun y ca hc => ?_, F.inj, F.has⟩, R.kind, R.glob, R.blt, R.nd, R.has, fun y cb h => (by simpa using R.cin y cb h), ⟨o', es', ep', .head _, h2, h3, fun j y u hj hu => ?_⟩, fun j y u hj hu => ?_⟩
    · obtain ⟨o, cv, hm, hcv⟩ := F.cell y ca hc
      rcases List.mem_cons.mp hm with e | hm
      · cases e; rw [hd] at hcv; cases hcv
      · exact ⟨o, cv, .tail _ hm, hcv⟩
    · rcases setval j u hu with ⟨rfl, rfl⟩ | ⟨hne, hu⟩
      · rw [hx] at hj; cases hj
        exact ⟨val, by rw [h4, if_pos rfl], hv⟩
      · obtain ⟨oL', es0, ep0, m1, m2, m3, m4⟩ := R.loc
        have : oL' = oL := by
          rcases List.mem_cons.mp m1 with e | m1
          · cases e; rfl
          · exact absurd (List.mem_map.mpr ⟨_, List.mem_append_left _ m1, rfl⟩) (Inv.out (Fs := rest ++ Fs) (by simpa using I))
        subst this
        rw [hd] at m2; cases m2
        obtain ⟨w, w1, w2⟩ := m4 j y u hj hu
        refine ⟨w, ?_, w2⟩
        rw [h4, if_neg fun q => ?_]
        · exact w1
        · subst q; exact hne (slot_inj R.nd hj hx)
    · rcases setval j u hu with ⟨rfl, rfl⟩ | ⟨hne, hu⟩
      · rw [hx] at hj; cases hj
      · obtain ⟨ca, o, w, w1, w2, w3, w4⟩ := R.cell j y u hj hu
        rcases List.mem_cons.mp w2 with e | w2
        · cases e; rw [hd] at w3; cases w3
        · exact ⟨ca, o, w, w1, .tail _ w2, w3, w4⟩
  · obtain ⟨ca, hca⟩ := Option.isSome_iff_exists.mp (F.has x hl)
    obtain ⟨o, cv, hm, hcv⟩ := F.cell x ca hca
    refine wpAny_storeName_cell R.kind hl hca ⟨o, (I.fs _ (List.mem_append_left _ hm)).1, hcv⟩ fun h' hc' hs => ?_
    obtain ⟨o', ho', hd'⟩ := hc'
    obtain ⟨pre, post, rfl⟩ := List.append_of_mem hm
    have e1 : pre ++ (ca, o) :: post ++ Fs = pre ++ (ca, o) :: (post ++ Fs) := by simp
    rw [e1] at I
    have I1 : Inv c ((ca, o) :: (pre ++ (post ++ Fs))) K φ hp s := I.perm List.perm_middle
    have I2 := I1.set_own s.toks hs ho'
    have I3 : Inv c (pre ++ (ca, o') :: (post ++ Fs)) K φ hp { s with heap := h', toks := s.toks } := I2.perm List.perm_middle.symm
    have hout := I1.out
    have back : ∀ b ob, (b, ob) ∈ pre ++ (ca, o) :: post → b ≠ ca → (b, ob) ∈ pre ++ (ca, o') :: post := fun b ob hm hb => by
      rcases List.mem_append.mp hm with h | h
      · exact List.mem_append_left _ h
      · rcases List.mem_cons.mp h with e | h
        · cases e; exact absurd rfl hb
        · exact List.mem_append_right _ (.tail _ h)
    have oneObj : ∀ ob, (ca, ob) ∈ pre ++ (ca, o) :: post → ob = o := fun ob hm => by
      rcases List.mem_append.mp hm with h | h
      · exact absurd (List.mem_map.mpr ⟨_, List.mem_append_left _ h, rfl⟩) hout
      · rcases List.mem_cons.mp h with e | h
        · cases e; rfl
        · exact absurd (List.mem_map.mpr ⟨_, List.mem_append_right _ (List.mem_append_left _ h), rfl⟩) hout
    have hin : (ca, o') ∈ pre ++ (ca, o') :: post := List.mem_append_right _ (.head _)
    obtain ⟨oL, es, ep, rest, hFr, hd, hsk⟩ := F.head
    have hLne : env.locals ≠ ca := fun q => by
      have : (ca, oL) ∈ pre ++ (ca, o) :: post := by rw [hFr, ← q]; exact .head _
      have := oneObj _ this
      subst this; rw [hd] at hcv; cases hcv
    refine ⟨pre ++ (ca, o') :: post, by simpa using I3, ⟨?_, fun y cb hc => ?_, F.inj, F.has⟩, R.kind, R.glob, R.blt, R.nd, R.has, fun y cb h => (by simpa using R.cin y cb h), ?_, fun j y u hj hu => ?_⟩
    · cases pre with
      | nil => simp at hFr; exact absurd hFr.1.1.symm hLne
      | cons p pre' => simp at hFr; obtain ⟨rfl, _⟩ := hFr; exact ⟨oL, es, ep, _, rfl, hd, hsk⟩
    · obtain ⟨o2, cv2, hm2, hcv2⟩ := F.cell y cb hc
      by_cases hb : cb = ca
      · subst hb; exact ⟨o', _, hin, hd'⟩
      · exact ⟨o2, cv2, back _ _ hm2 hb, hcv2⟩
    · obtain ⟨oL', es0, ep0, m1, m2, m3, m4⟩ := R.loc
      refine ⟨oL', es0, ep0, back _ _ m1 hLne, m2, m3, fun j y u hj hu => ?_⟩
      rcases setval j u hu with ⟨rfl, rfl⟩ | ⟨hne, hu⟩
      · rw [hx] at hj; cases hj
      · exact m4 j y u hj hu
    · rcases setval j u hu with ⟨rfl, rfl⟩ | ⟨hne, hu⟩
      · rw [hx] at hj; cases hj
        exact ⟨ca, o', val, hca, hin, hd', hv⟩
      · obtain ⟨cb, o2, w, w1, w2, w3, w4⟩ := R.cell j y u hj hu
        have hb : cb ≠ ca := fun q => by
          subst q
          have := F.inj _ _ _ w1 hca
          subst this
          exact hne (slot_inj R.nd hj hx)
        exact ⟨cb, o2, w, w1, back _ _ w2 hb, w3, w4⟩

theorem SA.name {x : Str} {pos : Pos} (i : Nat) (k : NameKind) (hx : sc.names[i]? = some (x, k)) (hk : k = .local ∨ k = .cell) : SA c n sc (.Name x pos) (fun v ρ => some (ρ.set i (some v))) := by
  intro A env Fs K φ hp ρ s v val ρ' hA he I hv hf
  subst he
  cases hf
  exact wpAny_assign_Name (wpAny_mono (I.store hx hk hv) (fun _ _ h => ⟨K, φ, h, .refl K, List.prefix_refl φ⟩) fun _ _ x => x)

noncomputable def setAll : List Nat → List V → Loc → Loc
  | i :: is, v :: vs, ρ => setAll is vs (ρ.set i (some v))
  | _, _, ρ => ρ
/-- a binder puts its value at a slot -/
noncomputable def Binds (c : Cx) (env : Env) (b : Value → Sem Unit) (i : Nat) : Prop :=
  ∀ (A : Around) Fs K φ hp ρ s v val, StM c Fs K φ hp env ρ s → VR c K φ v val → wpAny c.M A (b val) (fun _ s' => StM c Fs K φ hp env (ρ.set i (some v)) s') NoE s
inductive BindsL (c : Cx) (env : Env) : List (Value → Sem Unit) → List Nat → Prop
  | nil : BindsL c env [] []
  | cons {b i bs is} : Binds c env b i → BindsL c env bs is → BindsL c env (b :: bs) (i :: is)
theorem BindsL.run {bs : List (Value → Sem Unit)} {is : List Nat} (h : BindsL c env bs is) : ∀ {vs : List V} {vals : List Value} {ρ : Loc} {s : Shared}, VsR c K φ vs vals → StM c Fs K φ hp env ρ s →
    wpAny c.M A (assignInOrder bs vals) (fun _ s' => StM c Fs K φ hp env (setAll is vs ρ) s') NoE s := by
  induction h with
  | nil => intro vs vals ρ s hv I; exact wpAny_pure (by simpa [setAll] using I)
  | @cons b i bs is hb _ ih =>
    intro vs vals ρ s hv I
    cases vs with
    | nil => rw [hv.nil_inv]; exact wpAny_pure (by simpa [setAll] using I)
    | cons v vs =>
      obtain ⟨y, ys, rfl, h1, h2⟩ := hv.cons_inv
      show wpAny c.M A (do holding ys (b y); assignInOrder bs ys) _ NoE s
      exact wpAny_bind (wpAny_holding (wpAny_mono (hb A Fs K φ hp ρ s v y I h1) (fun _ s1 I1 => ih h2 I1) fun _ _ x => x))
theorem Binds.name {x : Str} {pos : Pos} (i : Nat) (k : NameKind) (hx : env.scope.names[i]? = some (x, k)) (hk : k = .local ∨ k = .cell) : Binds c env (assign (.Name x pos) env) i :=
  fun A Fs K φ hp ρ s v val I hv => wpAny_assign_Name (I.store hx hk hv)
theorem Binds.bind {x : Str} (i : Nat) (k : NameKind) (hx : env.scope.names[i]? = some (x, k)) (hk : k = .local ∨ k = .cell) : Binds c env (fun v => bindName env x v) i :=
  fun A Fs K φ hp ρ s v val I hv => wpAny_bindName (I.store hx hk hv)

noncomputable def aTup (is : List Nat) : V → Loc → Option Loc := fun v ρ => match v with
  | .tup vs => if vs.length = is.length then some (setAll is vs ρ) else none
  | _ => none
theorem SA.tup {elts : List Expr} {k : Nat} {pos : Pos} (is : List Nat) (hb : ∀ env : Env, env.scope = sc → BindsL c env ((assignEach elts env).map (·.2)) is ∧ (assignEach elts env).length = is.length ∧ (assignEach elts env).findIdx? (·.1) = none) :
    SA c n sc (.Tuple elts k pos) (aTup is) := by
  intro A env Fs K φ hp ρ s v val ρ' hA he I hv hf
  unfold aTup at hf
  split at hf
  · rename_i vs
    split at hf
    · rename_i hl
      cases hf
      obtain ⟨h1, h2, h3⟩ := hb env he
      cases hv with
      | tup g1 g2 g3 g4 g5 =>
        have g0 := I.keep g1
        refine wpAny_assign_Tuple hA.1 ⟨_, g0, g2, _, g3⟩ (by rw [h2, ← hl, g4]) h3 fun h' he' => ?_
        refine wpAny_mono (h1.run (VsR.of_arr g4 g5) (I.grow (t := s.toks) fun b o e => he' b o (Nat.ne_of_lt (Heap.lt_size e)) e)) (fun _ s' h => ⟨K, φ, h, .refl K, List.prefix_refl φ⟩) fun _ _ x => x
    · cases hf
  · cases hf

noncomputable def sNil : SF := fun ρ hp => some (.next, ρ, hp)
noncomputable def sCons (f g : SF) : SF := fun ρ hp => (f ρ hp).bind fun r => match r.1 with
  | .next => g r.2.1 r.2.2
  | fl => some (fl, r.2.1, r.2.2)
theorem SS.nil : SS c n sc [] sNil := by
  intro A env Fs K φ hp ρ s fl ρ' hp' hA he I hf
  cases hf
  exact wpAny_execs_nil ⟨K, φ, I, .refl K, List.prefix_refl φ, .next⟩
theorem SS.cons {st : Stmt} {rest : List Stmt} {f g : SF} (h : S1 c n sc st f) (hs : SS c n sc rest g) : SS c n sc (st :: rest) (sCons f g) := by
  intro A env Fs K φ hp ρ s fl ρ' hp' hA he I hf
  obtain ⟨⟨fl1, ρ1, hp1⟩, e1, hf⟩ := Option.bind_eq_some_iff.mp hf
  refine wpAny_execs_cons (wpAny_mono (h A env Fs K φ hp ρ s fl1 ρ1 hp1 hA he I e1) ?_ fun _ _ x => x)
  rintro flow s1 ⟨K1, φ1, I1, k1, p1, v1⟩
  cases v1 with
  | next => exact wpAny_mono (hs A env Fs K1 φ1 hp1 ρ1 s1 fl ρ' hp' hA he I1 hf) (fun _ _ h => h.trans k1 p1) fun _ _ x => x
  | brk => cases hf; exact ⟨K1, φ1, I1, k1, p1, .brk⟩
  | cont => cases hf; exact ⟨K1, φ1, I1, k1, p1, .cont⟩
  | ret v => cases hf; exact ⟨K1, φ1, I1, k1, p1, .ret v⟩

noncomputable def sAsg (a : V → Loc → Option Loc) (f : EF) : SF := fun ρ hp => (f ρ hp).bind fun r => (a r.1 ρ).map fun ρ' => (.next, ρ', r.2)
noncomputable def aVar (i : Nat) : V → Loc → Option Loc := fun v ρ => some (ρ.set i (some v))
theorem S1.asg {x : Str} {p pos : Pos} {value : Expr} {f : EF} (i : Nat) (k : NameKind) (hx : sc.names[i]? = some (x, k)) (hk : k = .local ∨ k = .cell) (h : SE c n sc value f)
    (hs : ∀ env : Env, env.scope = sc → swapsWith value (some (.Name x p)) pos.line env = pure false) : S1 c n sc (.Assign [.Name x p] value pos) (sAsg (aVar i) f) := by
  intro A env Fs K φ hp ρ s fl ρ' hp' hA he I hf
  obtain ⟨⟨v, hp1⟩, e1, hf⟩ := Option.bind_eq_some_iff.mp hf
  cases hf
  refine wpAny_Assign_Name (wpAny_mono (I.eval h hA he e1) ?_ fun _ _ x => x) (hs env he)
  rintro val s1 ⟨K1, φ1, I1, k1, p1, v1⟩
  subst he
  exact wpAny_mono (I1.store hx hk v1) (fun _ _ h => ⟨K1, φ1, h, k1, p1, .next⟩) fun _ _ x => x
theorem S1.asgTup {elts : List Expr} {k : Nat} {p pos : Pos} {value : Expr} {f : EF} {a : V → Loc → Option Loc} (h : SE c n sc value f) (ht : SA c n sc (.Tuple elts k p) a)
    (hs : ∀ env : Env, env.scope = sc → swapsWithSole [.Tuple elts k p] value pos.line env = pure false) (hw : ∀ env : Env, env.scope = sc → swappedStores [.Tuple elts k p] value env = pure none) :
    S1 c n sc (.Assign [.Tuple elts k p] value pos) (sAsg a f) := by
  intro A env Fs K φ hp ρ s fl ρ' hp' hA he I hf
  obtain ⟨⟨v, hp1⟩, e1, hf⟩ := Option.bind_eq_some_iff.mp hf
  obtain ⟨ρ1, e2, hf⟩ := Option.map_eq_some_iff.mp hf
  cases hf
  refine Assign_Tuple (wpAny_mono (I.eval h hA he e1) ?_ fun _ _ x => x) (hs env he) (hw env he)
  rintro val s1 ⟨K1, φ1, I1, k1, p1, v1⟩
  refine wpAny_mono (ht A env Fs K1 φ1 _ ρ s1 v val _ hA he I1 v1 e2) ?_ fun _ _ x => x
  rintro _ s2 ⟨K2, φ2, I2, k2, p2⟩
  exact ⟨K2, φ2, I2, k1.trans k2, p1.trans p2, .next⟩
/-- the stores go from behind -/
noncomputable def aTupR (is : List Nat) : V → Loc → Option Loc := fun v ρ => match v with
  | .tup vs => if vs.length = is.length then some (setAll is.reverse vs.reverse ρ) else none
  | _ => none
theorem VsR.reverse {xs : List V} {ys : List Value} (h : VsR c K φ xs ys) : VsR c K φ xs.reverse ys.reverse := by
  refine ⟨by simp [h.1], fun i a b e e' => ?_⟩
  have hi : i < xs.length := by have := (List.getElem?_eq_some_iff.mp e).1; simpa using this
  rw [List.getElem?_reverse hi] at e
  rw [List.getElem?_reverse (by rw [h.1]; exact hi), h.1] at e'
  exact h.2 _ a b e e'
theorem S1.asgTupR {elts : List Expr} {k : Nat} {p pos : Pos} {value : Expr} {f : EF} (is : List Nat) (names : List Str) (h : SE c n sc value f)
    (hs : ∀ env : Env, env.scope = sc → swapsWithSole [.Tuple elts k p] value pos.line env = pure false) (hw : ∀ env : Env, env.scope = sc → swappedStores [.Tuple elts k p] value env = pure (some names))
    (hl : names.length = is.length) (hb : ∀ env : Env, env.scope = sc → BindsL c env (names.reverse.map fun n => bindName env n) is.reverse) :
    S1 c n sc (.Assign [.Tuple elts k p] value pos) (sAsg (aTupR is) f) := by
  intro A env Fs K φ hp ρ s fl ρ' hp' hA he I hf
  obtain ⟨⟨v, hp1⟩, e1, hf⟩ := Option.bind_eq_some_iff.mp hf
  obtain ⟨ρ1, e2, hf⟩ := Option.map_eq_some_iff.mp hf
  cases hf
  refine Assign_Tuple_swapped (wpAny_mono (I.eval h hA he e1) ?_ fun _ _ x => x) (hs env he) (hw env he)
  rintro val s1 ⟨K1, φ1, I1, k1, p1, v1⟩
  dsimp only at e2
  unfold aTupR at e2
  split at e2
  · rename_i vs
    split at e2
    · rename_i hvl
      cases e2
      cases v1 with
      | tup g1 g2 g3 g4 g5 =>
        have g0 := I1.keep g1
        rw [show names.length = _ from (hl.trans hvl.symm).trans g4.symm]
        refine wpAny_unpackItems_tuple hA.1 ⟨_, g0, g2, _, g3⟩ fun h' he' => ?_
        refine wpAny_mono ((hb env he).run (VsR.of_arr g4 g5).reverse (I1.grow (t := s1.toks) fun b o e => he' b o (Nat.ne_of_lt (Heap.lt_size e)) e)) (fun _ s' h => ⟨K1, φ1, h, k1, p1, .next⟩) fun _ _ x => x
    · cases e2
  · cases e2

noncomputable def sExp (f : EF) : SF := fun ρ hp => (f ρ hp).map fun r => (.next, ρ, r.2)
theorem S1.exp {e : Expr} {pos : Pos} {f : EF} (h : SE c n sc e f) (hi : ∀ env : Env, env.scope = sc → interactive env = false) (hs : ∀ env : Env, swapsWith e none pos.line env = pure false) : S1 c n sc (.Expr e pos) (sExp f) := by
  intro A env Fs K φ hp ρ s fl ρ' hp' hA he I hf
  obtain ⟨⟨v, hp1⟩, e1, hf⟩ := Option.map_eq_some_iff.mp hf
  cases hf
  refine wpAny_Expr_any (wpAny_mono (I.eval h hA he e1) ?_ fun _ _ x => x) (hi env he) (hs env)
  rintro val s1 ⟨K1, φ1, I1, k1, p1, v1⟩
  exact ⟨K1, φ1, I1, k1, p1, .next⟩
noncomputable def sRet (f : EF) : SF := fun ρ hp => (f ρ hp).map fun r => (.ret r.1, ρ, r.2)
theorem S1.ret {e : Expr} {pos : Pos} {f : EF} (h : SE c n sc e f) : S1 c n sc (.Return (some e) pos) (sRet f) := by
  intro A env Fs K φ hp ρ s fl ρ' hp' hA he I hf
  obtain ⟨⟨v, hp1⟩, e1, hf⟩ := Option.map_eq_some_iff.mp hf
  cases hf
  refine wpAny_Return_some (wpAny_mono (I.eval h hA he e1) ?_ fun _ _ x => x)
  rintro val s1 ⟨K1, φ1, I1, k1, p1, v1⟩
  exact ⟨K1, φ1, I1, k1, p1, .ret v1⟩
noncomputable def sIf (t : TF) (f g : SF) : SF := fun ρ hp => (t ρ hp).bind fun r => if r.1 then f ρ r.2 else g ρ r.2
theorem S1.ite {t : Expr} {b o : List Stmt} {pos : Pos} {ft : TF} {f g : SF} (ht : ST c n sc t ft) (hb : SS c n sc b f) (ho : SS c n sc o g) : S1 c n sc (.If t b o pos) (sIf ft f g) := by
  intro A env Fs K φ hp ρ s fl ρ' hp' hA he I hf
  obtain ⟨⟨v, hp1⟩, e1, hf⟩ := Option.bind_eq_some_iff.mp hf
  refine wpAny_If (wpAny_mono (I.test ht hA he e1) ?_ fun _ _ x => x)
  rintro val s1 ⟨rfl, K1, φ1, I1, k1, p1⟩
  cases val with
  | true => exact wpAny_mono (hb A env Fs K1 φ1 hp1 ρ s1 fl ρ' hp' hA he I1 hf) (fun _ _ h => h.trans k1 p1) fun _ _ x => x
  | false => exact wpAny_mono (ho A env Fs K1 φ1 hp1 ρ s1 fl ρ' hp' hA he I1 hf) (fun _ _ h => h.trans k1 p1) fun _ _ x => x

noncomputable def whileL (t : TF) (b : SF) : Nat → SF
  | 0, _, _ => none
  | k + 1, ρ, hp => (t ρ hp).bind fun r => if r.1 then (b ρ r.2).bind fun q => match q.1 with
      | .next | .cont => whileL t b k q.2.1 q.2.2
      | .brk => some (.next, q.2.1, q.2.2)
      | .ret v => some (.ret v, q.2.1, q.2.2)
    else some (.next, ρ, r.2)
inductive WhI (c : Cx) (Fs : List (Addr × Obj)) (K : View) (φ : List Addr) (env : Env) (ft : TF) (f : SF) (fl : Fl) (ρ' : Loc) (hp' : Hp) (m : Nat) (s' : Shared) : Prop
  | mk (K1 : View) (φ1 : List Addr) (hp1 : Hp) (ρ1 : Loc) (I : StM c Fs K1 φ1 hp1 env ρ1 s') (k : View.le K K1) (p : φ <+: φ1) (e : whileL ft f m ρ1 hp1 = some (fl, ρ', hp')) : WhI c Fs K φ env ft f fl ρ' hp' m s'
theorem S1.while {t : Expr} {b : List Stmt} {pos : Pos} {ft : TF} {f : SF} (k : Nat) (ht : ST c n sc t ft) (hb : SS c n sc b f) : S1 c n sc (.While t b [] pos) (whileL ft f k) := by
  intro A env Fs K φ hp ρ s fl ρ' hp' hA he I hf
  refine wpAny_While (codeAny_whileLoop (WhI c Fs K φ env ft f fl ρ' hp') ?_ k ⟨K, φ, hp, ρ, I, .refl K, List.prefix_refl φ, hf⟩)
  rintro m s1 ⟨K1, φ1, hp1, ρ1, I1, k1, p1, hf1⟩
  cases m with
  | zero => cases hf1
  | succ m =>
    obtain ⟨⟨v, hp2⟩, e1, hf1⟩ := Option.bind_eq_some_iff.mp hf1
    refine wpAny_mono (I1.test ht hA he e1) ?_ fun _ _ x => x.elim
    rintro val s2 ⟨rfl, K2, φ2, I2, k2, p2⟩
    cases val with
    | false =>
      cases hf1
      exact wpAny_execs_nil ⟨K2, φ2, I2, k1.trans k2, p1.trans p2, .next⟩
    | true =>
      obtain ⟨⟨fl3, ρ3, hp3⟩, e3, hf1⟩ := Option.bind_eq_some_iff.mp hf1
      refine wpAny_mono (hb A env Fs K2 φ2 hp2 ρ1 s2 fl3 ρ3 hp3 hA he I2 e3) ?_ fun _ _ x => x.elim
      rintro flow s3 ⟨K3, φ3, I3, k3, p3, v3⟩
      cases v3 with
      | next => exact ⟨m, Nat.lt_succ_self m, K3, φ3, hp3, ρ3, I3, (k1.trans k2).trans k3, (p1.trans p2).trans p3, hf1⟩
      | cont => exact ⟨m, Nat.lt_succ_self m, K3, φ3, hp3, ρ3, I3, (k1.trans k2).trans k3, (p1.trans p2).trans p3, hf1⟩
      | brk => cases hf1; exact ⟨K3, φ3, I3, (k1.trans k2).trans k3, (p1.trans p2).trans p3, .next⟩
      | ret v => cases hf1; exact ⟨K3, φ3, I3, (k1.trans k2).trans k3, (p1.trans p2).trans p3, .ret v⟩
end
end Mine
end
section
open PySem PySem.W PyProof.Rows
set_option Elab.async false
set_option linter.unusedVariables false
namespace Mine

noncomputable abbrev rangeObj (a b d : Int) (t u v : Tok) : Obj := { cls := .type "range", dict := none, data := .fields #[.int a t, .int b u, .int d v], slots := #[] }
noncomputable def vInts (m : Nat) (a d : Int) : List V := (List.range m).map fun i : Nat => .int (a + i * d)

/-- an iterator that has the given items ahead -/
inductive ItSt (c : Cx) (K : View) (φ : List Addr) : Obj → List V → Prop
  | list {l : Addr} {ol o : Obj} {items : Array Value} {n i : Nat} {xs : List V} : o.cls = .type "list_iterator" → o.data = .fields #[.ref l, .int i 0] → K l = some ol → ol.cls = .type "list" → ol.data = .seq items n →
      VsR c K φ xs (items.toList.drop i) → ItSt c K φ o xs
  | rng {x step : Int} {m : Nat} : ItSt c K φ { cls := .type "range_iterator", dict := none, data := .fields #[rawInt x, rawInt m, rawInt step], slots := #[] } (vInts m x step)

section
variable {c : Cx} {n : Nat} {sc : Scope} {Fs : List (Addr × Obj)} {K K' : View} {φ φ' : List Addr} {hp : Hp} {env : Env} {ρ : Loc} {s : Shared} {A : Around}

theorem ItSt.mono {o : Obj} {xs : List V} (h : ItSt c K φ o xs) (hK : View.le K K') (hφ : φ <+: φ') : ItSt c K' φ' o xs := by
  cases h with
  | list h1 h2 h3 h4 h5 h6 => exact .list h1 h2 (hK _ _ h3) h4 h5 (h6.mono hK hφ)
  | rng => exact .rng

theorem vInts_succ (m : Nat) (a d : Int) : vInts (m + 1) a d = .int a :: vInts m (a + d) d := by
  unfold vInts
  rw [List.range_succ_eq_map, List.map_cons, List.map_map]
  congr 1
  · simp
  · apply List.map_congr_left
    intro i _
    simp only [Function.comp_apply]
    congr 1
    rw [Int.natCast_succ, Int.add_mul]; omega

theorem ItSt.next {it : Addr} {o : Obj} {x : V} {xs : List V} (hA : AOk n A) (I : Inv c ((it, o) :: Fs) K φ hp s) (h : ItSt c K φ o (x :: xs)) :
    wpAny c.M A (pyNext (.ref it)) (fun r s' => ∃ val o', r = some val ∧ VR c K φ x val ∧ Inv c ((it, o') :: Fs) K φ hp s' ∧ ItSt c K φ o' xs) NoE s := by
  have hit := (I.fs _ (.head _)).1
  generalize hxs : x :: xs = ys at h
  cases h with
  | @list l ol _ items nn i _ h1 h2 h3 h4 h5 h6 =>
    subst hxs
    obtain ⟨y, ys', e1, e2, e3⟩ := h6.cons_inv
    have hi : items[i]? = some y := by
      have := congrArg (·[0]?) e1
      simpa using this
    refine wpAny_pyNext_list_item ⟨o, hit, h1, h2⟩ ⟨ol, I.keep _ _ h3, h4, nn, h5⟩ hi fun h' hit' hs => ?_
    obtain ⟨o', ho', hc', hd'⟩ := hit'
    refine ⟨y, o', rfl, e2, I.set_own s.toks hs ho', .list hc' hd' h3 h4 h5 ?_⟩
    have : List.drop (i + 1) items.toList = ys' := by
      rw [← List.drop_drop, e1]; rfl
    rw [this]; exact e3
  | @rng a d m =>
    cases m with
    | zero => simp [vInts] at hxs
    | succ m =>
      rw [vInts_succ] at hxs
      cases hxs
      refine wpAny_pyNext_range_item hit (by omega) fun h' hit' hs => ?_
      refine ⟨_, _, rfl, .int _ _, I.set_own (s.toks + 1) hs hit', ?_⟩
      have e : ((m + 1 : Nat) : Int) - 1 = (m : Int) := by omega
      rw [e]; exact .rng
theorem ItSt.stop {it : Addr} {o : Obj} (hA : AOk n A) (I : Inv c ((it, o) :: Fs) K φ hp s) (h : ItSt c K φ o []) :
    wpAny c.M A (pyNext (.ref it)) (fun r s' => r = none ∧ Inv c Fs K φ hp s') NoE s := by
  have hit := (I.fs _ (.head _)).1
  generalize hxs : ([] : List V) = ys at h
  cases h with
  | @list l ol _ items nn i _ h1 h2 h3 h4 h5 h6 =>
    subst hxs
    have hi : items[i]? = none := by
      have := h6.nil_inv
      have := congrArg (·[0]?) this
      simpa using this
    exact wpAny_pyNext_list_end hA.1 ⟨o, hit, h1, h2⟩ ⟨ol, I.keep _ _ h3, h4, nn, h5⟩ hi fun h' he => ⟨rfl, I.drop s.toks he⟩
  | @rng a d m =>
    have hm : m = 0 := by
      cases m with
      | zero => rfl
      | succ m => rw [vInts_succ] at hxs; cases hxs
    subst hm
    exact wpAny_pyNext_range_end hA.1 hit (by simp) fun h' he => ⟨rfl, I.drop s.toks he⟩

theorem ItSt.go {it : Addr} {o : Obj} {xs : List V} {t : Expr} {v : Value} (I : Inv c ((it, o) :: Fs) K φ hp s) (h : ItSt c K φ o xs) {Q : Unit → Shared → Prop} (hQ : Q () s) :
    wpAny c.M A (letOwnedTupleGo t (.ref it) v) Q NoE s := by
  have hit := (I.fs _ (.head _)).1
  have main : wpAny c.M A (do
      let (.ref r, .ref a) := (Value.ref it, v) | return
      let o ← load r
      match o.cls, o.data with
      | .type n, .fields vs =>
        if ["enumerate", "zip", "dict_itemiterator", "dict_reverseitemiterator", "odict_iterator", "itertools.zip_longest", "itertools.pairwise"].contains n && vs[0]? == some (rawInt a) then
          rule "for.unpacks-the-owned-tuple"
          updateField r 0 .none
      | _, _ => pure ()) Q NoE s := by
    cases v with
    | ref a =>
      refine wpAny_bind (wpAny_load hit ?_)
      cases h with
      | list h1 h2 => rw [h1, h2]; exact wpAny_pure hQ
      | rng => exact wpAny_pure hQ
    | _ => exact wpAny_pure hQ
  cases t <;> first | exact main | exact wpAny_pure hQ

noncomputable def itemsOf : V → Option (List V)
  | .lst xs => some xs
  | .rng a b d => if 0 < d ∧ d ≤ 1000 ∧ a.natAbs ≤ 2 ^ 40 ∧ b.natAbs ≤ 2 ^ 40 then some (vInts (Builtin.Range.rangeSize a b d).toNat a d) else none
  | _ => none

theorem rangeSize_bounds {a b d : Int} (h0 : 0 < d) (ha : a.natAbs ≤ 2 ^ 40) (hb : b.natAbs ≤ 2 ^ 40) : 0 ≤ Builtin.Range.rangeSize a b d ∧ Builtin.Range.rangeSize a b d ≤ 2 ^ 42 := by
  unfold Builtin.Range.rangeSize
  rw [if_pos h0]
  split
  · rename_i h
    have h1 : 0 ≤ (b - a - 1) / d := Int.ediv_nonneg (by omega) (by omega)
    have h2 : (b - a - 1) / d ≤ b - a - 1 := Int.ediv_le_self _ (by omega)
    omega
  · omega
theorem small_of {a b d : Int} (h0 : 0 < d) (h1 : d ≤ 1000) (ha : a.natAbs ≤ 2 ^ 40) (hb : b.natAbs ≤ 2 ^ 40) : Builtin.Range.small a b d = true := by
  obtain ⟨l, u⟩ := rangeSize_bounds h0 ha hb
  unfold Builtin.Range.small Builtin.Range.rangeFitsLong
  have hd : (d > 0) := h0
  rw [if_pos hd]
  simp only [Bool.and_eq_true, Bool.or_eq_true, decide_eq_true_eq]
  refine ⟨⟨⟨⟨⟨?_, ?_⟩, ⟨?_, ?_⟩⟩, ⟨?_, ?_⟩⟩, ⟨?_, ?_⟩⟩, .inr ⟨?_, ?_⟩⟩ <;> omega

theorem pyIter_of {v : V} {val : Value} {xs : List V} (hA : AOk n A) (I : Inv c Fs K φ hp s) (hv : VR c K φ v val) (he : itemsOf v = some xs) :
    wpAny c.M A (pyIter val) (fun r s' => ∃ it o, r = .ref it ∧ Inv c ((it, o) :: Fs) K φ hp s' ∧ ItSt c K φ o xs) NoE s := by
  cases v <;> simp only [itemsOf] at he <;> try cases he
  · cases hv with
    | lst h1 h2 h3 h4 h5 =>
      refine wpAny_pyIter_list ⟨_, I.keep _ _ h1, h2, _, h3⟩ ⟨_, _, rfl, I.own _ s.toks, .list (i := 0) rfl rfl h1 h2 h3 (VsR.of_arr h4 h5)⟩
  · split at he
    · rename_i hq
      cases he
      cases hv with
      | rng h1 =>
        refine wpAny_pyIter_range (I.keep _ _ h1) (small_of hq.1 hq.2.1 hq.2.2.1 hq.2.2.2) ⟨_, _, rfl, I.own _ s.toks, ?_⟩
        have e := (rangeSize_bounds hq.1 hq.2.2.1 hq.2.2.2).1
        have e' : Builtin.Range.rangeSize _ _ _ = ((Builtin.Range.rangeSize _ _ _).toNat : Int) := (Int.toNat_of_nonneg e).symm
        rw [e']
        exact .rng
    · cases he

/-- the turns of a for -/
noncomputable def forL (a : V → Loc → Option Loc) (b : SF) : List V → SF
  | [], ρ, hp => some (.next, ρ, hp)
  | x :: xs, ρ, hp => (a x ρ).bind fun ρ1 => (b ρ1 hp).bind fun q => match q.1 with
      | .next | .cont => forL a b xs q.2.1 q.2.2
      | .brk => some (.next, q.2.1, q.2.2)
      | .ret v => some (.ret v, q.2.1, q.2.2)
noncomputable def sFor (e : EF) (a : V → Loc → Option Loc) (b : SF) : SF := fun ρ hp => (e ρ hp).bind fun r => (itemsOf r.1).bind fun xs => forL a b xs ρ r.2

theorem StM.own {it : Addr} {o : Obj} (I : StM c ((it, o) :: Fs) K φ hp env ρ s) : ∃ Fr, Inv c ((it, o) :: (Fr ++ Fs)) K φ hp s ∧ FrOk env Fr ∧ EnvR c Fr K φ env ρ :=
  let ⟨Fr, I, F, R⟩ := I; ⟨Fr, I.perm List.perm_middle, F, R⟩
theorem StM.of_own {it : Addr} {o : Obj} {Fr : List (Addr × Obj)} (I : Inv c ((it, o) :: (Fr ++ Fs)) K φ hp s) (F : FrOk env Fr) (R : EnvR c Fr K φ env ρ) : StM c ((it, o) :: Fs) K φ hp env ρ s :=
  ⟨Fr, I.perm List.perm_middle.symm, F, R⟩

inductive FoI (c : Cx) (Fs : List (Addr × Obj)) (K : View) (φ : List Addr) (env : Env) (a : V → Loc → Option Loc) (f : SF) (fl : Fl) (ρ' : Loc) (hp' : Hp) (it : Addr) (m : Nat) (s' : Shared) : Prop
  | mk (K3 : View) (φ3 : List Addr) (hp3 : Hp) (ρ3 : Loc) (o3 : Obj) (ys : List V) (I : StM c ((it, o3) :: Fs) K3 φ3 hp3 env ρ3 s') (k : View.le K K3) (p : φ <+: φ3) (st : ItSt c K3 φ3 o3 ys) (h : m = ys.length) (e : forL a f ys ρ3 hp3 = some (fl, ρ', hp')) : FoI c Fs K φ env a f fl ρ' hp' it m s'
theorem S1.for {t iter : Expr} {b : List Stmt} {pos : Pos} {a : V → Loc → Option Loc} {e : EF} {f : SF} (he : SE c n sc iter e) (ha : SA c n sc t a) (hb : SS c n sc b f) (hs : ∀ env x, foldedSetIterable iter env x = pure x) :
    S1 c n sc (.For t iter b [] pos) (sFor e a f) := by
  intro A env Fs K φ hp ρ s fl ρ' hp' hA hsc I hf
  obtain ⟨⟨v, hp1⟩, e1, hf⟩ := Option.bind_eq_some_iff.mp hf
  obtain ⟨xs, e2, hf⟩ := Option.bind_eq_some_iff.mp hf
  refine wpAny_For (wpAny_mono (I.eval he hA hsc e1) ?_ fun _ _ x => x) (hs env)
  rintro val s1 ⟨K1, φ1, ⟨Fr, I1, F1, R1⟩, k1, p1, v1⟩
  refine wpAny_mono (pyIter_of hA I1 v1 e2) ?_ fun _ _ x => x
  rintro r s2 ⟨it, o, rfl, I2, st2⟩
  refine codeAny_forLoop_any (FoI c Fs K φ env a f fl ρ' hp' it) ?_ xs.length
    ⟨K1, φ1, hp1, ρ, o, xs, StM.of_own I2 F1 R1, k1, p1, st2, rfl, hf⟩
  rintro m s3 ⟨K3, φ3, hp3, ρ3, o3, ys, I3, k3, p3, st3, rfl, hf3⟩
  obtain ⟨Fr3, J3, F3, R3⟩ := I3.own
  cases ys with
  | nil =>
    cases hf3
    refine wpAny_mono (st3.stop hA J3) ?_ fun _ _ x => x.elim
    rintro r s4 ⟨rfl, J4⟩
    exact wpAny_execs_nil ⟨K3, φ3, ⟨Fr3, J4, F3, R3⟩, k3, p3, .next⟩
  | cons y ys =>
    obtain ⟨ρ4, e4, hf3⟩ := Option.bind_eq_some_iff.mp hf3
    obtain ⟨⟨fl5, ρ5, hp5⟩, e5, hf3⟩ := Option.bind_eq_some_iff.mp hf3
    refine wpAny_mono (st3.next hA J3) ?_ fun _ _ x => x.elim
    rintro r s4 ⟨val4, o4, rfl, v4, J4, st4⟩
    refine wpAny_mono (st4.go (A := A) (Q := fun _ s' => s' = s4) J4 rfl) ?_ fun _ _ x => x.elim
    rintro _ s4' rfl
    refine wpAny_mono (ha A env ((it, o4) :: Fs) K3 φ3 hp3 ρ3 s4' y val4 ρ4 hA hsc (StM.of_own J4 F3 R3) v4 e4) ?_ fun _ _ x => x.elim
    rintro _ s5 ⟨K5, φ5, I5, k5, p5⟩
    refine wpAny_mono (hb A env ((it, o4) :: Fs) K5 φ5 hp3 ρ4 s5 fl5 ρ5 hp5 hA hsc I5 e5) ?_ fun _ _ x => x.elim
    rintro flow s6 ⟨K6, φ6, I6, k6, p6, v6⟩
    have kk := (k3.trans k5).trans k6
    have pp := (p3.trans p5).trans p6
    have st6 := st4.mono (k5.trans k6) (p5.trans p6)
    have away : StM c Fs K6 φ6 hp5 env ρ5 s6 := by
      obtain ⟨Fr6, J6, F6, R6⟩ := I6.own
      exact ⟨Fr6, J6.pop, F6, R6⟩
    cases v6 with
    | next => exact ⟨ys.length, Nat.lt_succ_self _, K6, φ6, hp5, ρ5, o4, ys, I6, kk, pp, st6, rfl, hf3⟩
    | cont => exact ⟨ys.length, Nat.lt_succ_self _, K6, φ6, hp5, ρ5, o4, ys, I6, kk, pp, st6, rfl, hf3⟩
    | brk => cases hf3; exact ⟨K6, φ6, away, kk, pp, .next⟩
    | ret v => cases hf3; exact ⟨K6, φ6, away, kk, pp, .ret v⟩
end
end Mine
end
section
open PySem PySem.W PyProof.Rows
set_option Elab.async false
set_option linter.unusedVariables false
namespace Mine

noncomputable abbrev BF := List V → Hp → Option (V × Hp)
/-- a call of the value fv does g -/
noncomputable def BS (c : Cx) (n : Nat) (fv : Value) (g : BF) : Prop :=
  ∀ (A : Around) Fs K φ hp s vs vals v hp', AOk n A → Inv c Fs K φ hp s → VsR c K φ vs vals → g vs hp = some (v, hp') →
    wpAny c.M A (call fv vals) (Post c Fs K φ hp' v) NoE s
noncomputable def KeepS (c : Cx) (fv : Value) : Prop := ∀ h : Heap, (∀ a o, c.S0.heap.get? a = some o → h.get? a = some o) →
  ∃ k, (k = Keeper.frame ∨ k = Keeper.machine ∨ k = Keeper.boundFrame) ∧ Looks c.M h (keeperOf fv) k
noncomputable def GName (c : Cx) (x : Str) (fv : Value) : Prop := c.mg x = some fv ∨ (c.mg x = none ∧ c.mb x = some fv)

section
variable {c : Cx} {n : Nat} {sc : Scope} {Fs : List (Addr × Obj)} {K K' : View} {φ φ' : List Addr} {hp : Hp} {env : Env} {ρ : Loc} {s : Shared} {A : Around}

theorem KeepS.type {T : String} : KeepS c (.type T) := fun h _ => ⟨.machine, .inr (.inl rfl), .of_pure rfl⟩
theorem KeepS.builtin {T : String} : KeepS c (.builtin T) := fun h _ => ⟨.machine, .inr (.inl rfl), .of_pure rfl⟩
theorem KeepS.frag {f : Value} (hf : keepIn c.frag f = true) : KeepS c f := fun h hk =>
  let ⟨k, a, b⟩ := looks_keep (M := c.M) hf (c.X.keeps hk)
  ⟨k, a.elim .inl fun e => .inr (.inl e), b⟩

theorem evalArgs_of {f : Value} {args : List (Bool × Sem Value)} {Q : Args → Shared → Prop} {E : Value → Shared → Prop} {M : Model} (hp : args.any (·.1) = false)
    (h : wpAny M A (spliced args) (fun vs s' => Q ⟨vs, []⟩ s') E s) : wpAny M A (evalArgs f true args []) Q E s := by
  cases args with
  | nil =>
    unfold evalArgs
    show wpAny M A (spliced [] >>= _) Q E s
    refine wpAny_bind (wpAny_mono h (fun vs s' h' => ?_) fun _ _ x => x)
    refine wpAny_holding ?_
    exact wpAny_bind (wpAny_pure (wpAny_bind (wpAny_pure (wpAny_pure h'))))
  | cons p r =>
    obtain ⟨b, x⟩ := p
    cases b with
    | true => simp at hp
    | false => exact Calls.evalArgs_plain h

noncomputable def eCall (g : BF) (fs : List EF) : EF := fun ρ hp => (evL fs ρ hp).bind fun r => g r.1 r.2
theorem callWith_S {fv : Value} {g : BF} {es : List Expr} {fs : List EF} {pos : Pos} {first : List V} {firstv : List Value} {vs : List V} {hp1 hp' : Hp} {v : V} (hk : KeepS c fv) (hb : BS c n fv g) (hs : SEs c n sc es fs)
    (hA : AOk n A) (he : env.scope = sc) (I : Inv c Fs K φ hp s) (R : EnvR c Fs K φ env ρ) (h1 : VsR c K φ first firstv) (e1 : evL fs ρ hp = some (vs, hp1)) (hf : g (first ++ vs) hp1 = some (v, hp')) :
    wpAny c.M A (callWith pos fv firstv (backTo pos (starEach es env)) []) (Post c Fs K φ hp' v) NoE s := by
  refine callWith_of (P := fun h => ∀ a o, c.S0.heap.get? a = some o → h.get? a = some o) (by rw [hs.1 env pos]; rfl) hk (evalArgs_of (hs.1 env pos) (wpAny_mono (hs.2 A env Fs K φ hp ρ s vs hp1 pos hA he I R e1) ?_ fun _ _ x => x))
  rintro vals s1 ⟨K1, φ1, I1, k1, p1, v1⟩
  refine ⟨fun a o e => I1.old e, ?_⟩
  exact wpAny_mono (hb A Fs K1 φ1 hp1 s1 _ _ v hp' hA I1 ((h1.mono k1 p1).append v1) hf) (fun _ _ h => h.trans k1 p1) fun _ _ x => x
theorem SE.call {x : Str} {p pos : Pos} {es : List Expr} {fs : List EF} (fv : Value) {g : BF} (hx : sc.names.lookup x = some .globalImplicit) (hd : (x == ("__debug__" : Str)) = false) (hg : GName c x fv) (hk : KeepS c fv) (hb : BS c n fv g) (hs : SEs c n sc es fs) :
    SE c n sc (.Call (.Name x p) es [] pos) (eCall g fs) := by
  intro A env Fs K φ hp ρ s v hp' hA he I R hf
  obtain ⟨⟨vs, hp1⟩, e1, hf⟩ := Option.bind_eq_some_iff.mp hf
  show wpAny c.M A (do callWith pos (← PySem.eval (.Name x p) env) [] (backTo pos (starEach es env)) (backToKw pos (keywordEach [] env))) _ NoE s
  have fin : wpAny c.M A (callWith pos fv [] (backTo pos (starEach es env)) []) (Post c Fs K φ hp' v) NoE s := callWith_S hk hb hs hA he I R .nil e1 (by simpa using hf)
  refine wpAny_bind ?_
  have hG : s.heap.Ns env.globals c.mg := R.glob ▸ c.g.keeps fun b o e => I.old e
  have hB : s.heap.Ns env.builtins c.mb := R.blt ▸ c.b.keeps fun b o e => I.old e
  rcases hg with hg | ⟨hg, hb'⟩
  · exact Calls.Name_function_global R.kind (by subst he; exact hx) (Calls.loadGlobal_global hG hg fin) hd
  · exact Calls.Name_function_global R.kind (by subst he; exact hx) (Calls.loadGlobal_builtin hG hg hB hb' fin) hd

/-! a def of the text -/
theorem bindL_notin {k : Str → Option NameKind} : ∀ {b : List (Str × Value)} {m : Str → Option Value} {x : Str}, x ∉ b.map (·.1) → bindL k b m x = m x
  | [], _, _, _ => rfl
  | (y, v) :: r, m, x, h => by
    simp only [List.map_cons, List.mem_cons, not_or] at h
    rw [bindL, bindL_notin h.2]
    split
    · exact if_neg h.1
    · rfl
theorem bindL_at {k : Str → Option NameKind} : ∀ {b : List (Str × Value)} {m : Str → Option Value} {x : Str} {v : Value} {j : Nat}, (b.map (·.1)).Nodup → b[j]? = some (x, v) → k x = some .local → bindL k b m x = some v
  | [], _, _, _, _, _, e, _ => by simp at e
  | (y, u) :: r, m, x, v, 0, nd, e, hk => by
    simp at e; obtain ⟨rfl, rfl⟩ := e
    rw [List.map_cons, List.nodup_cons] at nd
    rw [bindL, bindL_notin nd.1, if_pos hk]; exact if_pos rfl
  | (y, u) :: r, m, x, v, j + 1, nd, e, hk => by
    rw [List.map_cons, List.nodup_cons] at nd
    rw [bindL]; exact bindL_at nd.2 (by simpa using e) hk
theorem bindC_notin {k : Str → Option NameKind} : ∀ {b : List (Str × Value)} {m : Str → Option Value} {x : Str}, x ∉ b.map (·.1) → bindC k b m x = m x
  | [], _, _, _ => rfl
  | (y, v) :: r, m, x, h => by
    simp only [List.map_cons, List.mem_cons, not_or] at h
    rw [bindC, bindC_notin h.2]
    split
    · rfl
    · exact if_neg h.1
theorem bindC_at {k : Str → Option NameKind} : ∀ {b : List (Str × Value)} {m : Str → Option Value} {x : Str} {v : Value} {j : Nat}, (b.map (·.1)).Nodup → b[j]? = some (x, v) → k x = some .cell → bindC k b m x = some v
  | [], _, _, _, _, _, e, _ => by simp at e
  | (y, u) :: r, m, x, v, 0, nd, e, hk => by
    simp at e; obtain ⟨rfl, rfl⟩ := e
    rw [List.map_cons, List.nodup_cons] at nd
    rw [bindC, bindC_notin nd.1, if_neg (by rw [hk]; simp)]; exact if_pos rfl
  | (y, u) :: r, m, x, v, j + 1, nd, e, hk => by
    rw [List.map_cons, List.nodup_cons] at nd
    rw [bindC]; exact bindC_at nd.2 (by simpa using e) hk
theorem setAll_get : ∀ {is : List Nat} {vs : List V} {ρ : Loc} {i : Nat} {v : V}, (setAll is vs ρ)[i]? = some (some v) → (∃ j : Nat, is[j]? = some i ∧ vs[j]? = some v) ∨ ρ[i]? = some (some v)
  | [], _, _, _, _, h => .inr (by simpa [setAll] using h)
  | _ :: _, [], _, _, _, h => .inr (by simpa [setAll] using h)
  | k :: is, u :: vs, ρ, i, v, h => by
    rw [setAll] at h
    rcases setAll_get h with ⟨j, h1, h2⟩ | h
    · exact .inl ⟨j + 1, by simpa using h1, by simpa using h2⟩
    · rw [List.getElem?_set] at h
      by_cases hj : k = i
      · subst hj
        simp only [if_true] at h
        split at h
        · cases h; exact .inl ⟨0, rfl, rfl⟩
        · cases h
      · rw [if_neg hj] at h; exact .inr h
noncomputable def parOk (names : List (Str × NameKind)) : List Str → List Nat → Bool
  | [], [] => true
  | x :: xs, i :: is => (match names[i]? with | some (y, k) => x == y && (k == .local || k == .cell) | none => false) && parOk names xs is
  | _, _ => false
theorem parOk_get {names : List (Str × NameKind)} : ∀ {xs : List Str} {is : List Nat}, parOk names xs is = true → xs.length = is.length ∧ ∀ (j i : Nat), is[j]? = some i → ∃ x k, xs[j]? = some x ∧ names[i]? = some (x, k) ∧ (k = .local ∨ k = .cell)
  | [], [], _ => ⟨rfl, fun j i e => by simp at e⟩
  | [], _ :: _, h => by simp [parOk] at h
  | _ :: _, [], h => by simp [parOk] at h
  | x :: xs, i :: is, h => by
    rw [parOk, Bool.and_eq_true] at h
    obtain ⟨h1, h2⟩ := h
    obtain ⟨h3, h4⟩ := parOk_get h2
    refine ⟨by simp [h3], fun j i' e => ?_⟩
    cases j with
    | zero =>
      simp at e; subst e
      split at h1
      · rename_i y k e
        rw [Bool.and_eq_true, Bool.or_eq_true] at h1
        refine ⟨x, k, rfl, ?_, h1.2.elim (fun q => .inl (eq_of_beq q)) fun q => .inr (eq_of_beq q)⟩
        rw [e, eq_of_beq h1.1]
      · cases h1
    | succ j => exact h4 j i' (by simpa using e)

theorem cells_objs {h : Heap} {cm : Str → Option Value} : ∀ {cs : List (Str × Addr)}, (∀ n a, (n, a) ∈ cs → h.IsCell a (cm n)) →
    ∃ Cl : List (Addr × Obj), Cl.map (·.1) = cs.map (·.2) ∧ (∀ p ∈ Cl, h.get? p.1 = some p.2) ∧ ∀ n a, (n, a) ∈ cs → ∃ o, (a, o) ∈ Cl ∧ o.data = .cell (cm n)
  | [], _ => ⟨[], rfl, fun p hp => (nomatch hp), fun n a hm => (nomatch hm)⟩
  | (n, a) :: r, hc => by
    obtain ⟨Cl, h1, h2, h3⟩ := cells_objs (cs := r) fun m b hm => hc m b (.tail _ hm)
    obtain ⟨o, ho, hd⟩ := hc n a (.head _)
    refine ⟨(a, o) :: Cl, by simp [h1], fun p hp => ?_, fun m b hm => ?_⟩
    · rcases List.mem_cons.mp hp with rfl | hp
      · exact ho
      · exact h2 p hp
    · rcases List.mem_cons.mp hm with e | hm
      · cases e; exact ⟨o, .head _, hd⟩
      · obtain ⟨o', h4, h5⟩ := h3 m b hm; exact ⟨o', .tail _ h4, h5⟩
theorem mem_of_lookup {α : Type} : ∀ {l : List (Str × α)} {x : Str} {v : α}, l.lookup x = some v → (x, v) ∈ l
  | [], _, _, e => by simp at e
  | (y, u) :: r, x, v, e => by
    rw [List.lookup_cons] at e
    split at e
    · rename_i q; cases e; rw [eq_of_beq q]; exact .head _
    · exact .tail _ (mem_of_lookup e)
theorem lookup_of_mem {α : Type} {l : List (Str × α)} {x : Str} {v : α} (nd : (l.map (·.1)).Nodup) (h : (x, v) ∈ l) : l.lookup x = some v := by
  obtain ⟨i, hi⟩ := List.getElem?_of_mem h
  exact lookup_of_slot nd hi

/-- the entry of a def: names and cells of its frame -/
theorem Inv.add {Fr : List (Addr × Obj)} (I : Inv c Fs K φ hp s) (h : ∀ p ∈ Fr, s.heap.get? p.1 = some p.2 ∧ K p.1 = none ∧ p.1 ∉ φ ∧ p.1 ∉ Fs.map (·.1)) (nd : (Fr.map (·.1)).Nodup) : Inv c (Fr ++ Fs) K φ hp s := by
  refine ⟨I.base, I.keep, fun p hp => ?_, ?_, I.len, I.nodup, I.obj, I.gens, I.os⟩
  · rcases List.mem_append.mp hp with hp | hp
    · exact ⟨(h p hp).1, (h p hp).2.1, (h p hp).2.2.1⟩
    · exact I.fs p hp
  · rw [List.map_append, List.nodup_append]
    refine ⟨nd, I.fnd, fun a ha b hb q => ?_⟩
    obtain ⟨p, hp, rfl⟩ := List.mem_map.mp ha
    exact (h p hp).2.2.2 (q ▸ hb)

/-- the code of a call of the value fv does g -/
noncomputable def CS (c : Cx) (n : Nat) (fv : Value) (g : BF) : Prop :=
  ∀ (A : Around) Fs K φ hp s vs vals v hp', AOk n A → Inv c Fs K φ hp s → VsR c K φ vs vals → g vs hp = some (v, hp') →
    codeAny c.M A (.call fv ⟨vals, []⟩) (fun r s' => ∃ val, r = .ok (.ret val) ∧ Post c Fs K φ hp' v val s') s
theorem CS.bs {fv : Value} {g : BF} (h : CS c n fv g) : BS c n fv g := by
  intro A Fs K φ hp s vs vals v hp' hA I hv hf
  refine wpAny_call (codeAny_mono (h A Fs K φ hp s vs vals v hp' hA I hv hf) ?_)
  rintro r s' ⟨val, rfl, hP⟩
  exact hP
noncomputable def fnF (ps : List Nat) (size : Nat) (f : SF) (dv : List V := []) : BF := fun vs hp => if (vs ++ dv).length = ps.length then (f (setAll ps (vs ++ dv) (List.replicate size none)) hp).map fun r => (match r.1 with | .ret v => v | _ => .none, r.2.2) else none

theorem CS.fn {fa : Addr} {o : Obj} {fd : FuncData} {body : List Stmt} {ps : List Nat} {pn : List Str} {size : Nat} {f : SF}
    (ho : c.S0.heap.get? fa = some o) (hd : o.data = .func fd) (hbody : fd.body = .stmts body) (hcd : c.S0.heap.CodeRec fd.code fd.qualname)
    (hg : fd.globals = mainGlobals) (hbl : fd.builtins = builtinsNs) (hcl : fd.closure = [])
    (hk : fd.scope.kind = .function) (hco : fd.scope.isCoroutine = false) (hgen : fd.scope.isGenerator = false)
    (hnd : (fd.scope.names.map (·.1)).Nodup) (hpn : pn.Nodup) (hpar : parOk fd.scope.names pn ps = true)
    (hcells : ∀ m, ((cellsFrom m fd.scope.names []).map (·.1)).Nodup ∧ ∀ x, fd.scope.names.lookup x = some .cell → ((cellsFrom m fd.scope.names []).lookup x).isSome = true)
    (dv : List V) (dvals : List Value) (hdv : ∀ K φ, VsR c K φ dv dvals)
    (hbind : ∀ vals : List Value, vals.length + dvals.length = ps.length → ∀ h : Heap, (∀ a o, c.S0.heap.get? a = some o → h.get? a = some o) → Looks c.M h (bindArgs fd ⟨vals, []⟩) (pn.zip (vals ++ dvals)))
    (h : SS c n fd.scope body f) : CS c (n + 1) (.ref fa) (fnF ps size f dv) := by
  intro A Fs K φ hp s vs0 vals0 v hp' hA I hv0 hf
  unfold fnF at hf
  have hv := hv0.append (hdv K φ)
  have hbind0 : (vs0 ++ dv).length = ps.length → Looks c.M s.heap (bindArgs fd ⟨vals0, []⟩) (pn.zip (vals0 ++ dvals)) := fun hl => hbind vals0 (by rw [List.length_append, ← hv0.1, ← (hdv K φ).1] at hl; exact hl) s.heap fun a o e => I.old e
  generalize hvs : vs0 ++ dv = vs at hv hf hbind0
  generalize hvals : vals0 ++ dvals = vals at hv hbind0
  split at hf
  · rename_i hlen
    obtain ⟨⟨fl, ρ', hp1⟩, e1, e2⟩ := Option.map_eq_some_iff.mp hf
    cases e2
    obtain ⟨hpl, hpg⟩ := parOk_get hpar
    have hvl : vals.length = ps.length := hv.1.trans hlen
    have kinds : ∀ x ∈ pn.zip vals, ∃ k, fd.scope.names.lookup x.1 = some k ∧ (k = .local ∨ k = .cell) := fun x hx => by
      obtain ⟨j, hj⟩ := List.getElem?_of_mem hx
      obtain ⟨hj1, hj2⟩ := List.getElem?_zip_eq_some.mp hj
      have hjl : j < ps.length := by rw [← hpl]; exact (List.getElem?_eq_some_iff.mp hj1).1
      obtain ⟨y, k, g1, g2, g3⟩ := hpg j _ (List.getElem?_eq_getElem hjl)
      rw [hj1] at g1; cases g1
      exact ⟨k, lookup_of_slot hnd g2, g3⟩
    refine codeAny_call_function hA.room (I.old ho) hd hco hgen hbody (hcd.keeps fun b o e => I.old e) ?_
    rw [hg, hbl, hcl]
    refine (hbind0 hlen).here (wpAny_newFunctionEnv_cells hk (fun x hx => ?_) fun env' he s' X => ?_)
    · obtain ⟨k, q1, q2⟩ := kinds x hx
      rcases q2 with rfl | rfl
      · exact .inl q1
      · exact .inr ⟨q1, (hcells _).2 _ q1⟩
    have hsc : env'.scope = fd.scope := by rw [he]; rfl
    have hloc : env'.locals = s.heap.objs.size := by rw [he]; rfl
    have hce : env'.cells = cellsFrom (s.heap.objs.size + 1) fd.scope.names [] := by rw [he]; rfl
    have hgl : env'.globals = mainGlobals := by rw [he]; rfl
    have hbu : env'.builtins = builtinsNs := by rw [he]; rfl
    obtain ⟨h1, tk1, hs', hk1⟩ := X.done
    subst hs'
    have ndC : (env'.cells.map (·.1)).Nodup := by rw [hce]; exact (hcells _).1
    obtain ⟨oL, es, ep, hL, hLd, hLs, hLf⟩ := X.toInCall.ns
    obtain ⟨Cl, c1, c2, c3⟩ := cells_objs (h := h1) (cm := bindC env'.kindOf (pn.zip vals) fun _ => none) (cs := env'.cells) fun m b hm => X.cell m b (lookup_of_mem ndC hm)
    have fresh : ∀ a, s.heap.objs.size ≤ a → K a = none ∧ a ∉ φ ∧ a ∉ Fs.map (·.1) := fun a ha => by
      refine ⟨?_, fun hm => ?_, fun hm => ?_⟩
      · cases q : K a with
        | none => rfl
        | some o => exact absurd (Heap.lt_size (I.keep _ _ q)) (Nat.not_lt.mpr ha)
      · obtain ⟨i, hi⟩ := List.getElem?_of_mem hm
        obtain ⟨ob, q⟩ := I.there hi
        exact absurd (Heap.lt_size q) (Nat.not_lt.mpr ha)
      · obtain ⟨p, hp, rfl⟩ := List.mem_map.mp hm
        exact absurd (Heap.lt_size (I.fs p hp).1) (Nat.not_lt.mpr ha)
    have above : ∀ a, a ∈ env'.cells.map (·.2) → env'.locals < a := fun a ha => by
      obtain ⟨⟨m, b⟩, hm, rfl⟩ := List.mem_map.mp ha
      exact X.above m b hm
    have I1 : Inv c (((env'.locals, oL) :: Cl) ++ Fs) K φ hp { s with heap := h1, toks := tk1 } := by
      refine (I.grow (t := tk1) hk1).add (fun p hm => ?_) ?_
      · rcases List.mem_cons.mp hm with rfl | hm
        · exact ⟨hL, fresh _ (Nat.le_of_eq hloc.symm)⟩
        · refine ⟨c2 p hm, fresh _ ?_⟩
          have hlt := above p.1 (c1 ▸ List.mem_map_of_mem hm)
          rw [hloc] at hlt
          exact Nat.le_of_lt hlt
      · rw [List.map_cons, List.nodup_cons, c1]
        refine ⟨fun hm => Nat.lt_irrefl _ (above _ hm), ?_⟩
        have := X.apart
        rw [List.Nodup, List.pairwise_map]
        exact this
    have F1 : FrOk env' ((env'.locals, oL) :: Cl) := by
      refine ⟨⟨oL, es, ep, Cl, rfl, hLd, hLs⟩, fun x ca hx => ?_, fun x y ca hx hy => ?_, fun x hx => ?_⟩
      · obtain ⟨o, q1, q2⟩ := c3 x ca (mem_of_lookup hx)
        exact ⟨o, _, .tail _ q1, q2⟩
      · have m1 := mem_of_lookup hx
        have m2 := mem_of_lookup hy
        obtain ⟨i, hi⟩ := List.getElem?_of_mem m1
        obtain ⟨j, hj⟩ := List.getElem?_of_mem m2
        have ap : (env'.cells.map (·.2)).Nodup := by rw [List.Nodup, List.pairwise_map]; exact X.apart
        have a1 : (env'.cells.map (·.2))[i]? = some ca := by rw [List.getElem?_map, hi]; rfl
        have a2 : (env'.cells.map (·.2))[j]? = some ca := by rw [List.getElem?_map, hj]; rfl
        have : i = j := (List.getElem?_inj (List.getElem?_eq_some_iff.mp a1).1 ap).mp (a1.trans a2.symm)
        subst this
        rw [hi] at hj; cases hj; rfl
      · rw [hce]; exact (hcells _).2 x (by have := hx; unfold Env.kindOf at this; rw [hsc] at this; exact this)
    have slot : ∀ (i : Nat) (u : V), (setAll ps vs (List.replicate size none))[i]? = some (some u) → ∃ (j : Nat) (x : Str) (k : NameKind) (y : Value), ps[j]? = some i ∧ vs[j]? = some u ∧ (pn.zip vals)[j]? = some (x, y) ∧ fd.scope.names[i]? = some (x, k) ∧ VR c K φ u y := fun i u e => by
      rcases setAll_get e with ⟨j, q1, q2⟩ | q
      · obtain ⟨x, k, g1, g2, g3⟩ := hpg j i q1
        obtain ⟨y, y1, y2⟩ := hv.get q2
        exact ⟨j, x, k, y, q1, q2, List.getElem?_zip_eq_some.mpr ⟨g1, y1⟩, g2, y2⟩
      · rw [List.getElem?_replicate] at q; split at q <;> cases q
    have ndz : ((pn.zip vals).map (·.1)).Nodup := by
      rw [List.map_fst_zip (by rw [hpl, hvl]; exact Nat.le_refl _)]; exact hpn
    have R1 : EnvR c ((env'.locals, oL) :: Cl) K φ env' (setAll ps vs (List.replicate size none)) := by
      refine ⟨by rw [hsc]; exact hk, hgl, hbu, by rw [hsc]; exact hnd, F1.has, fun x ca hx => (by rw [List.map_cons, c1]; exact List.mem_cons_of_mem _ (List.mem_map.mpr ⟨_, mem_of_lookup hx, rfl⟩)), ⟨oL, es, ep, .head _, hLd, hLs, fun i x u hx hu => ?_⟩, fun i x u hx hu => ?_⟩
      · obtain ⟨j, x', k, y, q1, q2, q3, q4, q5⟩ := slot i u hu
        rw [hsc, q4] at hx; cases hx
        refine ⟨y, ?_, q5⟩
        rw [hLf]
        exact bindL_at ndz q3 (by unfold Env.kindOf; rw [hsc]; exact lookup_of_slot hnd q4)
      · obtain ⟨j, x', k, y, q1, q2, q3, q4, q5⟩ := slot i u hu
        rw [hsc, q4] at hx; cases hx
        have hlk := lookup_of_slot hnd q4
        obtain ⟨ca, hca⟩ := Option.isSome_iff_exists.mp ((hcells (s.heap.objs.size + 1)).2 x hlk)
        rw [← hce] at hca
        obtain ⟨o, g1, g2⟩ := c3 x ca (mem_of_lookup hca)
        refine ⟨ca, o, y, hca, .tail _ g1, ?_, q5⟩
        rw [g2, bindC_at ndz q3 (by unfold Env.kindOf; rw [hsc]; exact hlk)]
    refine ⟨c.nolimit.keeps fun b o e => hk1 _ _ (I.old e), codeAny_func ?_⟩
    refine wpAny_mono (h (A.deeper env') env' Fs K φ hp _ _ fl ρ' hp1 hA.deeper hsc ⟨_, I1, F1, R1⟩ e1) ?_ fun _ _ x => x.elim
    rintro flow s2 ⟨K2, φ2, ⟨Fr2, I2, F2, R2⟩, k2, p2, v2⟩
    refine ⟨_, rfl, K2, φ2, I2.pops, k2, p2, ?_⟩
    cases v2 with
    | ret h => exact h
    | _ => exact .none
  · cases hf
end
end Mine
end
section
open PySem PySem.W PyProof.Rows
set_option Elab.async false
set_option linter.unusedVariables false
namespace Mine

noncomputable def lim : Nat := 1000000
theorem lim_le {n : Nat} (h : n ≤ lim) : n ≤ sizeLine := Nat.le_trans h (by decide)

section
variable {c : Cx} {n : Nat} {sc : Scope} {Fs : List (Addr × Obj)} {K K' : View} {φ φ' : List Addr} {hp : Hp} {env : Env} {ρ : Loc} {s : Shared} {A : Around}

/-! displays -/
noncomputable def eTup (fs : List EF) : EF := fun ρ hp => (evL fs ρ hp).bind fun r => if r.1.length ≤ lim then some (.tup r.1, r.2) else none
theorem SE.tuple {es : List Expr} {k : Nat} {pos : Pos} {fs : List EF} (hs : SEs c n sc es fs) : SE c n sc (.Tuple es k pos) (eTup fs) := by
  intro A env Fs K φ hp ρ s v hp' hA he I R hf
  obtain ⟨⟨vs, hp1⟩, e1, hf⟩ := Option.bind_eq_some_iff.mp hf
  split at hf
  · rename_i hl
    cases hf
    refine Tuple_ (wpAny_mono (hs.2 A env Fs K φ hp ρ s vs _ pos hA he I R e1) ?_ fun _ _ x => x)
    rintro vals s1 ⟨K1, φ1, I1, k1, p1, v1⟩
    refine wpAny_newTuple ?_ (lim_le (by rw [v1.1]; exact hl))
    exact ⟨_, φ1, I1.imm _ s1.toks, k1.trans (I1.imm_le _), p1, .mk_tup (View.add_self ..) rfl rfl (v1.mono (I1.imm_le _) (List.prefix_refl _))⟩
  · cases hf
theorem List_w {elts : List Expr} {pos : Pos} {Q : Value → Shared → Prop} {M : Model} {E : Value → Shared → Prop}
    (h : wpAny M A (spliced (backTo pos (starEach elts env))) (fun vs s₁ => wpAny M A (newList vs) Q E s₁) E s) : wpAny M A (PySem.eval (.List elts pos) env) Q E s := by
  show wpAny M A (do standAt pos; newList (← spliced (backTo pos (starEach elts env)))) Q E s
  exact wpAny_bind (wpAny_standAt (wpAny_bind h))
/-- a list that will not change -/
noncomputable def eLst (fs : List EF) : EF := fun ρ hp => (evL fs ρ hp).bind fun r => if r.1.length ≤ lim then some (.lst r.1, r.2) else none
theorem SE.list {es : List Expr} {pos : Pos} {fs : List EF} (hs : SEs c n sc es fs) : SE c n sc (.List es pos) (eLst fs) := by
  intro A env Fs K φ hp ρ s v hp' hA he I R hf
  obtain ⟨⟨vs, hp1⟩, e1, hf⟩ := Option.bind_eq_some_iff.mp hf
  split at hf
  · rename_i hl
    cases hf
    refine List_w (wpAny_mono (hs.2 A env Fs K φ hp ρ s vs _ pos hA he I R e1) ?_ fun _ _ x => x)
    rintro vals s1 ⟨K1, φ1, I1, k1, p1, v1⟩
    refine wpAny_newList ?_ (lim_le (by rw [v1.1]; exact hl))
    exact ⟨_, φ1, I1.imm _ s1.toks, k1.trans (I1.imm_le _), p1, .mk_lst (View.add_self ..) rfl rfl (v1.mono (I1.imm_le _) (List.prefix_refl _))⟩
  · cases hf
theorem Inv.newAcc {vs : List V} {vals : List Value} (I : Inv c Fs K φ hp s) (h : VsR c K φ vs vals) (t : Nat) :
    Inv c Fs K (φ ++ [s.heap.objs.size]) (hp ++ [.acc vs]) { s with heap := s.heap.push { cls := .type "list", data := .seq vals.toArray }, toks := t } :=
  I.new _ t (.acc vs) ⟨I.K_size, vals.toArray, 0, Heap.get?_push_size _ rfl, by simpa using h.mono (.refl K) (List.prefix_append _ _)⟩
theorem Inv.newList {vs : List V} {vals : List Value} (I : Inv c Fs K φ hp s) (h : VsR c K φ vs vals) (t : Nat) :
    Inv c Fs K (φ ++ [s.heap.objs.size]) (hp ++ [.list vs]) { s with heap := s.heap.push { cls := .type "list", data := .seq vals.toArray }, toks := t } :=
  I.new _ t (.list vs) ⟨I.K_size, _, vals.toArray, 0, Heap.get?_push_size _ rfl, rfl, rfl, by simpa using h.mono (.refl K) (List.prefix_append _ _)⟩
theorem ref_new {vs : List V} (hl : φ.length = hp.length) (a : Addr) : VR c K (φ ++ [a]) (.ref hp.length) (.ref a) := .ref (by rw [← hl]; simp)
/-- a list that may change -/
noncomputable def eMut (fs : List EF) : EF := fun ρ hp => (evL fs ρ hp).bind fun r => if r.1.length ≤ lim then some (.ref r.2.length, r.2 ++ [.acc r.1]) else none
theorem SE.listM {es : List Expr} {pos : Pos} {fs : List EF} (hs : SEs c n sc es fs) : SE c n sc (.List es pos) (eMut fs) := by
  intro A env Fs K φ hp ρ s v hp' hA he I R hf
  obtain ⟨⟨vs, hp1⟩, e1, hf⟩ := Option.bind_eq_some_iff.mp hf
  split at hf
  · rename_i hl
    cases hf
    refine List_w (wpAny_mono (hs.2 A env Fs K φ hp ρ s vs _ pos hA he I R e1) ?_ fun _ _ x => x)
    rintro vals s1 ⟨K1, φ1, I1, k1, p1, v1⟩
    refine wpAny_newList ?_ (lim_le (by rw [v1.1]; exact hl))
    exact ⟨K1, _, I1.newAcc v1 s1.toks, k1, p1.trans (List.prefix_append _ _), ref_new (vs := vs) I1.len _⟩
  · cases hf

/-! dicts -/
noncomputable def dGet (es : List (Int × V)) (k : Int) : Option V := (es.find? fun e => e.1 = k).map (·.2)
noncomputable def dPut (es : List (Int × V)) (k : Int) (v : V) : List (Int × V) := if es.any (fun e => e.1 = k) then es.map (fun e => if e.1 = k then (e.1, v) else e) else es ++ [(k, v)]
theorem PsR.cons_inv {x : Int × V} {xs : List (Int × V)} {ys : List (Int × Value)} (h : PsR c K φ (x :: xs) ys) : ∃ y ys', ys = (x.1, y) :: ys' ∧ VR c K φ x.2 y ∧ PsR c K φ xs ys' := by
  obtain ⟨h1, h2⟩ := h
  cases ys with
  | nil => simp at h1
  | cons y ys' =>
    simp at h1
    obtain ⟨a, b⟩ := y
    obtain ⟨rfl, h1⟩ := h1
    exact ⟨b, ys', rfl, h2 0 _ _ rfl rfl, h1, fun i a b e e' => h2 (i + 1) a b (by simpa using e) (by simpa using e')⟩
theorem PsR.nil_inv {ys : List (Int × Value)} (h : PsR c K φ [] ys) : ys = [] := by
  have := h.1; simpa using this
theorem PsR.nil : PsR c K φ [] [] := ⟨rfl, fun i x y e => by simp at e⟩
theorem PsR.cons {k : Int} {v : V} {y : Value} {xs : List (Int × V)} {ys : List (Int × Value)} (h : VR c K φ v y) (hs : PsR c K φ xs ys) : PsR c K φ ((k, v) :: xs) ((k, y) :: ys) := by
  refine ⟨by simp [hs.1], fun i a b e e' => ?_⟩
  cases i with
  | zero => simp at e e'; subst e; subst e'; exact h
  | succ i => exact hs.2 i a b (by simpa using e) (by simpa using e')
theorem PsR.get {k : Int} : ∀ {es : List (Int × V)} {kvs : List (Int × Value)}, PsR c K φ es kvs → match dGet es k with
    | some v => ∃ val, valueAt kvs k = some val ∧ VR c K φ v val
    | none => valueAt kvs k = none
  | [], kvs, h => by rw [h.nil_inv]; rfl
  | (k', v) :: r, kvs, h => by
    obtain ⟨y, ys, rfl, h1, h2⟩ := h.cons_inv
    have ih := PsR.get (k := k) h2
    unfold dGet valueAt at ih ⊢
    simp only [List.find?_cons]
    by_cases hk : k' = k
    · simp only [hk, decide_true]; exact ⟨y, rfl, h1⟩
    · simp only [hk, decide_false]; exact ih
theorem PsR.anyKey {k : Int} {es : List (Int × V)} {kvs : List (Int × Value)} (h : PsR c K φ es kvs) : (kvs.any fun e => decide (e.1 = k)) = (es.any fun e => decide (e.1 = k)) := by
  have e1 : (kvs.any fun e => decide (e.1 = k)) = (kvs.map (·.1)).any fun e => decide (e = k) := by rw [List.any_map]; rfl
  have e2 : (es.any fun e => decide (e.1 = k)) = (es.map (·.1)).any fun e => decide (e = k) := by rw [List.any_map]; rfl
  rw [e1, e2, h.1]
theorem PsR.mapPut {k : Int} {v : V} {y : Value} (hv : VR c K φ v y) : ∀ {es : List (Int × V)} {kvs : List (Int × Value)}, PsR c K φ es kvs → PsR c K φ (es.map fun e => if e.1 = k then (e.1, v) else e) (kvs.map fun e => if e.1 = k then (e.1, y) else e)
  | [], kvs, h => by rw [h.nil_inv]; exact .nil
  | (k', u) :: r, kvs, h => by
    obtain ⟨z, ys, rfl, h1, h2⟩ := h.cons_inv
    have ih := PsR.mapPut (k := k) hv h2
    simp only [List.map_cons]
    by_cases hk : k' = k
    · simp only [hk, if_true]; exact .cons hv ih
    · simp only [hk, if_false]; exact .cons h1 ih
theorem PsR.append {es es' : List (Int × V)} {kvs kvs' : List (Int × Value)} (h : PsR c K φ es kvs) (h' : PsR c K φ es' kvs') : PsR c K φ (es ++ es') (kvs ++ kvs') := by
  induction es generalizing kvs with
  | nil => rw [h.nil_inv]; exact h'
  | cons x r ih =>
    obtain ⟨z, ys, rfl, h1, h2⟩ := h.cons_inv
    obtain ⟨a, b⟩ := x
    exact .cons h1 (ih h2)
theorem PsR.put {k : Int} {v : V} {y : Value} {es : List (Int × V)} {kvs : List (Int × Value)} (h : PsR c K φ es kvs) (hv : VR c K φ v y) : PsR c K φ (dPut es k v) (stored kvs k y) := by
  unfold dPut stored
  rw [h.anyKey]
  split
  · exact h.mapPut hv
  · exact h.append (.cons hv .nil)
theorem PsR.length {es : List (Int × V)} {kvs : List (Int × Value)} (h : PsR c K φ es kvs) : kvs.length = es.length := by
  have := congrArg List.length h.1; simpa using this
theorem DictShape.at {o : Obj} {kvs : List (Int × Value)} {a : Addr} {h : Heap} (ho : h.get? a = some o) (hs : DictShape c o kvs) : h.DictOf (intKind c.prog c.w) a kvs := by
  obtain ⟨h1, es, ep, h2, h3, h4, h5⟩ := hs
  exact ⟨o, es, ep, ho, h1, h2, h3, h4, h5⟩
theorem DictShape.of {kvs : List (Int × Value)} {a : Addr} {h : Heap} (hd : h.DictOf (intKind c.prog c.w) a kvs) : ∃ o, h.get? a = some o ∧ DictShape c o kvs := by
  obtain ⟨o, es, ep, ho, h1, h2, h3, h4, h5⟩ := hd
  exact ⟨o, ho, h1, es, ep, h2, h3, h4, h5⟩

/-! items -/
noncomputable def nth (xs : List V) (k : Int) : Option V := if 0 ≤ k ∧ k < 2 ^ 62 then xs[k.toNat]? else none
noncomputable def oIdx : V → V → Hp → Option V
  | .lst xs, .int k, _ => if k = -1 then xs.getLast? else nth xs k
  | .tup xs, .int k, _ => nth xs k
  | .dct es, .int k, _ => dGet es k
  | .ref m, .int k, hp => match hp[m]? with
    | some (.list xs) => nth xs k
    | some (.acc xs) => nth xs k
    | some (.dict es) => dGet es k
    | _ => none
  | _, _, _ => none
noncomputable def eIdx (f g : EF) : EF := fun ρ hp => (f ρ hp).bind fun r => (g ρ r.2).bind fun q => (oIdx r.1 q.1 q.2).map fun v => (v, q.2)

theorem nth_get {xs : List V} {k : Int} {v : V} (h : nth xs k = some v) : 0 ≤ k ∧ k < 2 ^ 62 ∧ xs[k.toNat]? = some v := by
  unfold nth at h
  split at h
  · rename_i q; exact ⟨q.1, q.2, h⟩
  · cases h
theorem oIdx_int {o i v : V} {hp : Hp} (h : oIdx o i hp = some v) : ∃ k, i = .int k := by
  cases i <;> first | exact ⟨_, rfl⟩ | (cases o <;> exact (no h rfl).elim)
theorem item_of {value slice : Expr} {o i : V} {x y : Value} {v : V} (I : Inv c Fs K φ hp s) (ho : VR c K φ o x) (hi : VR c K φ i y) (hf : oIdx o i hp = some v)
    (hs : ∀ o i : Value, subscripted slice false o i = operate [o, i] (getItem o i)) : wpAny c.M A (subscriptTail value slice x y) (Post c Fs K φ hp v) NoE s := by
  have listCase : ∀ (l : Addr) (items : Array Value) (xs : List V) (k : Int) (t : Tok), s.heap.IsList l items → VsR c K φ xs items.toList → nth xs k = some v →
      wpAny c.M A (subscriptTail value slice (.ref l) (.int k t)) (Post c Fs K φ hp v) NoE s := fun l items xs k t hl hv hn => by
    obtain ⟨h0, h1, h2⟩ := nth_get hn
    obtain ⟨z, hz, hr⟩ := hv.get h2
    exact tail_any hl.typeIs slot_list_getitem.lookup (wpAny_getItem_list hl h0 (by omega) (by simpa using hz) (Post.of I hr)) (hs _ _)
  have dictCase : ∀ (d : Addr) (kvs : List (Int × Value)) (es : List (Int × V)) (k : Int) (t : Tok), s.heap.DictOf (intKind c.prog c.w) d kvs → PsR c K φ es kvs → dGet es k = some v →
      wpAny c.M A (subscriptTail value slice (.ref d) (.int k t)) (Post c Fs K φ hp v) NoE s := fun d kvs es k t hd hv hn => by
    have := hv.get (k := k)
    rw [hn] at this
    obtain ⟨z, hz, hr⟩ := this
    exact tail_any hd.typeIs slot_dict_getitem.lookup (wpAny_getItem_of (intKind_is _ _ k t) hd.mapOf hz (Post.of (I.toks _) hr)) (hs _ _)
  obtain ⟨k, rfl⟩ := oIdx_int hf
  cases o <;> try cases hf
  · rename_i xs
    replace hf : nth xs k = some v := hf
    cases hi
    cases ho with
    | tup h1 h2 h3 h4 h5 =>
      obtain ⟨h0, h1', h2'⟩ := nth_get hf
      obtain ⟨z, hz, hr⟩ := (VsR.of_arr h4 h5).get h2'
      have ht : IsTup s.heap _ _ := ⟨_, I.keep _ _ h1, h2, _, h3⟩
      have hlt : k.toNat < xs.length := (List.getElem?_eq_some_iff.mp h2').1
      refine tail_any ht.typeIs slot_tuple_getitem.lookup (getItem_tuple ht (by omega) (by omega) (j := k.toNat) ?_ (by simpa using hz) (Post.of I hr)) (hs _ _)
      have hneg : ¬ k < 0 := by omega
      have hq : (0 ≤ k && decide (k < (xs.length : Int))) = true := by simp; omega
      simp only [seqIndex?, if_neg hneg, h4, hq, if_true]
  · rename_i xs
    replace hf : (if k = -1 then xs.getLast? else nth xs k) = some v := hf
    cases hi
    cases ho with
    | lst h1 h2 h3 h4 h5 =>
      have hl : s.heap.IsList _ _ := ⟨_, I.keep _ _ h1, h2, _, h3⟩
      split at hf
      · rename_i hk
        subst hk
        rw [List.getLast?_eq_getElem?] at hf
        obtain ⟨z, hz, hr⟩ := (VsR.of_arr h4 h5).get hf
        have hlt : xs.length - 1 < xs.length := (List.getElem?_eq_some_iff.mp hf).1
        refine tail_any hl.typeIs slot_list_getitem.lookup (wpAny_getItem_list_neg hl (by omega) (by omega) (by omega) (x := z) ?_ (Post.of I hr)) (hs _ _)
        have : (-1 + (xs.length : Int)).toNat = xs.length - 1 := by omega
        rw [h4, this]; simpa using hz
      · exact listCase _ _ _ _ _ hl (VsR.of_arr h4 h5) hf
  · rename_i es
    cases hi
    cases ho with
    | dct h1 h0 h2 h3 h4 => exact dictCase _ _ _ _ _ (DictShape.at (I.keep _ _ h1) h2) ⟨h3, h4⟩ hf
  · rename_i m
    dsimp only [oIdx] at hf
    cases hi
    cases ho with
    | ref h1 =>
      split at hf
      · rename_i xs hm
        obtain ⟨_, ob, items, nn, g1, g2, g3, g4⟩ := I.obj _ _ _ h1 hm
        exact listCase _ items xs _ _ ⟨ob, g1, g2, nn, g3⟩ g4 hf
      · rename_i xs hm
        obtain ⟨_, items, nn, g1, g4⟩ := I.obj _ _ _ h1 hm
        exact listCase _ items xs _ _ ⟨_, g1, rfl, nn, rfl⟩ g4 hf
      · rename_i es hm
        obtain ⟨_, _, ob, kvs, g1, g2, g3⟩ := I.obj _ _ _ h1 hm
        exact dictCase _ kvs es _ _ (DictShape.at g1 g2) g3 hf
      · cases hf
theorem SE.idx {value slice : Expr} {pos : Pos} {f g : EF} (hv : SE c n sc value f) (hi : SE c n sc slice g) (hs : ∀ o i : Value, subscripted slice false o i = operate [o, i] (getItem o i)) :
    SE c n sc (.Subscript value slice pos) (eIdx f g) := by
  intro A env Fs K φ hp ρ s v hp' hA he I R hf
  obtain ⟨⟨a, hp1⟩, e1, hf⟩ := Option.bind_eq_some_iff.mp hf
  obtain ⟨⟨b, hp2⟩, e2, hf⟩ := Option.bind_eq_some_iff.mp hf
  obtain ⟨u, e3, hf⟩ := Option.map_eq_some_iff.mp hf
  cases hf
  refine Subscript_ (wpAny_mono (hv A env Fs K φ hp ρ s a hp1 hA he I R e1) ?_ fun _ _ x => x)
  rintro x s1 ⟨K1, φ1, I1, k1, p1, v1⟩
  refine wpAny_mono (hi A env Fs K1 φ1 hp1 ρ s1 b _ hA he I1 (R.mono (fun _ h => h) k1 p1) e2) ?_ fun _ _ x => x
  rintro y s2 ⟨K2, φ2, I2, k2, p2, v2⟩
  exact wpAny_mono (item_of I2 (v1.mono k2 p2) v2 e3 hs) (fun _ _ h => h.trans (k1.trans k2) (p1.trans p2)) fun _ _ x => x

/-! stores -/
noncomputable def oSet : V → V → V → Hp → Option Hp
  | .ref m, .int k, v, hp => match hp[m]? with
    | some (.list xs) => if 0 ≤ k ∧ k < xs.length ∧ xs.length ≤ lim then some (hp.set m (.list (xs.set k.toNat v))) else none
    | some (.dict es) => if es.length ≤ lim then some (hp.set m (.dict (dPut es k v))) else none
    | _ => none
  | _, _, _, _ => none
theorem set_of {o i v : V} {x y z : Value} {hp' : Hp} (I : Inv c Fs K φ hp s) (ho : VR c K φ o x) (hi : VR c K φ i y) (hv : VR c K φ v z) (hf : oSet o i v hp = some hp') :
    wpAny c.M A (setItem x y z) (fun _ s' => Inv c Fs K φ hp' s') NoE s := by
  obtain ⟨m, rfl⟩ : ∃ z, o = .ref z := by cases o <;> first | exact ⟨_, rfl⟩ | exact (no hf rfl).elim
  obtain ⟨k, rfl⟩ : ∃ z, i = .int z := by cases i <;> first | exact ⟨_, rfl⟩ | exact (no hf rfl).elim
  dsimp only [oSet] at hf
  cases hi
  cases ho with
  | ref h1 =>
    split at hf
    · rename_i xs hm
      split at hf
      · rename_i hb
        cases hf
        obtain ⟨hk, ob, items, nn, g1, g2, g3, g4⟩ := I.obj _ _ _ h1 hm
        have hsz : items.size = xs.length := by have := g4.1; simpa using this
        have hlim : lim = 1000000 := rfl
        refine wpAny_setItem_list ⟨ob, g1, g2, nn, g3⟩ hb.1 (by omega) (by omega) fun h' hl hs => ?_
        obtain ⟨o', ho', hc', n', hd'⟩ := hl
        refine I.set_obj s.toks h1 hm (by simp) hs ⟨hk, o', _, n', ho', hc', hd', ?_⟩
        simpa using g4.set (i := k.toNat) hv
      · cases hf
    · rename_i es hm
      split at hf
      · rename_i hb
        cases hf
        obtain ⟨hk, h0, ob, kvs, g1, g2, g3⟩ := I.obj _ _ _ h1 hm
        refine wpAny_setItem_pairs (intKind_is _ _ k _) (DictShape.at g1 g2) (fun h' hd hs => ?_) (lim_le (by rw [g3.length]; exact hb))
        obtain ⟨o', ho', hs'⟩ := DictShape.of hd
        exact I.set_obj _ h1 hm (by simp) hs ⟨hk, h0, o', _, ho', hs', g3.put hv⟩
      · cases hf
    · cases hf
noncomputable def sSet (fo fi fv : EF) : SF := fun ρ hp => (fv ρ hp).bind fun r => (fo ρ r.2).bind fun q => (fi ρ q.2).bind fun t => (oSet q.1 t.1 r.1 t.2).map fun hp' => (.next, ρ, hp')
theorem S1.set {o i value : Expr} {p pos : Pos} {fo fi fv : EF} (ho : SE c n sc o fo) (hi : SE c n sc i fi) (hv : SE c n sc value fv)
    (hs : ∀ env : Env, swapsWith value (some (.Subscript o i p)) pos.line env = pure false) : S1 c n sc (.Assign [.Subscript o i p] value pos) (sSet fo fi fv) := by
  intro A env Fs K φ hp ρ s fl ρ' hp' hA he I hf
  obtain ⟨⟨v, hp1⟩, e1, hf⟩ := Option.bind_eq_some_iff.mp hf
  obtain ⟨⟨a, hp2⟩, e2, hf⟩ := Option.bind_eq_some_iff.mp hf
  obtain ⟨⟨b, hp3⟩, e3, hf⟩ := Option.bind_eq_some_iff.mp hf
  obtain ⟨hp4, e4, hf⟩ := Option.map_eq_some_iff.mp hf
  cases hf
  refine wpAny_Assign_Subscript (wpAny_mono (I.eval hv hA he e1) ?_ fun _ _ x => x) (hs env)
  rintro z s1 ⟨K1, φ1, I1, k1, p1, v1⟩
  refine wpAny_mono (I1.eval ho hA he e2) ?_ fun _ _ x => x
  rintro x s2 ⟨K2, φ2, I2, k2, p2, v2⟩
  refine wpAny_mono (I2.eval hi hA he e3) ?_ fun _ _ x => x
  rintro y s3 ⟨K3, φ3, ⟨Fr, I3, F3, R3⟩, k3, p3, v3⟩
  refine wpAny_mono (set_of I3 (v2.mono k3 p3) v3 (v1.mono (k2.trans k3) (p2.trans p3)) e4) ?_ fun _ _ x => x
  intro _ s4 I4
  exact ⟨K3, φ3, ⟨Fr, I4, F3, R3⟩, (k1.trans k2).trans k3, (p1.trans p2).trans p3, .next⟩

/-! what will not change any more -/
noncomputable def oFrz : V → Hp → Option (V × Hp)
  | .ref m, hp => match hp[m]? with
    | some (.list xs) => some (.lst xs, hp.set m .dead)
    | some (.acc xs) => some (.lst xs, hp.set m .dead)
    | some (.dict es) => some (.dct es, hp.set m .dead)
    | _ => none
  | _, _ => none
theorem frz_of {o v : V} {x : Value} {hp' : Hp} (I : Inv c Fs K φ hp s) (ho : VR c K φ o x) (hf : oFrz o hp = some (v, hp')) : Post c Fs K φ hp' v x s := by
  obtain ⟨m, rfl⟩ : ∃ z, o = .ref z := by cases o <;> first | exact ⟨_, rfl⟩ | exact (no hf rfl).elim
  dsimp only [oFrz] at hf
  cases ho with
  | ref h1 =>
    split at hf
    · rename_i xs hm
      cases hf
      obtain ⟨hk, ob, items, nn, g1, g2, g3, g4⟩ := I.obj _ _ _ h1 hm
      exact ⟨_, φ, I.freeze h1 hm (by simp) g1, View.le_add hk, List.prefix_refl _, .mk_lst (View.add_self ..) g2 g3 (g4.mono (View.le_add hk) (List.prefix_refl _))⟩
    · rename_i xs hm
      cases hf
      obtain ⟨hk, items, nn, g1, g4⟩ := I.obj _ _ _ h1 hm
      exact ⟨_, φ, I.freeze h1 hm (by simp) g1, View.le_add hk, List.prefix_refl _, .mk_lst (View.add_self ..) rfl rfl (g4.mono (View.le_add hk) (List.prefix_refl _))⟩
    · rename_i es hm
      cases hf
      obtain ⟨hk, h0, ob, kvs, g1, g2, g3⟩ := I.obj _ _ _ h1 hm
      have g4 := g3.mono (View.le_add (o := ob) hk) (List.prefix_refl _)
      exact ⟨_, φ, I.freeze h1 hm (by simp) g1, View.le_add hk, List.prefix_refl _, .dct (View.add_self ..) h0 g2 g4.1 g4.2⟩
    · cases hf
noncomputable def eFrz (f : EF) : EF := fun ρ hp => (f ρ hp).bind fun r => oFrz r.1 r.2
theorem SE.frz {e : Expr} {f : EF} (h : SE c n sc e f) : SE c n sc e (eFrz f) := by
  intro A env Fs K φ hp ρ s v hp' hA he I R hf
  obtain ⟨⟨a, hp1⟩, e1, hf⟩ := Option.bind_eq_some_iff.mp hf
  refine wpAny_mono (h A env Fs K φ hp ρ s a hp1 hA he I R e1) ?_ fun _ _ x => x
  rintro x s1 ⟨K1, φ1, I1, k1, p1, v1⟩
  exact (frz_of I1 v1 hf).trans k1 p1
end
end Mine
end
section
open PySem PySem.W PyProof.Rows
set_option Elab.async false
set_option linter.unusedVariables false
namespace Mine

/-- the addresses that a comprehension's own names take over -/
noncomputable def closL (cells : List (Str × Addr)) : List (Str × NameKind) → List (Str × Addr) → List (Str × Addr)
  | [], acc => acc
  | (x, k) :: r, acc => if k == .free then closL cells r ((x, (cells.lookup x).getD 0) :: acc) else closL cells r acc

theorem closureFor_eq {env : Env} : ∀ {names : List (Str × NameKind)} {acc : List (Str × Addr)}, (∀ x, (x, NameKind.free) ∈ names → (env.cells.lookup x).isSome = true) →
    (forIn names acc fun (p : Str × NameKind) (cs : List (Str × Addr)) => (match p with
      | (name, kind) => if kind == .free then (do let a ← cellOf env name; pure (ForInStep.yield ((name, a) :: cs))) else pure (ForInStep.yield cs) : Sem (ForInStep (List (Str × Addr))))) = pure (closL env.cells names acc)
  | [], acc, _ => rfl
  | (x, k) :: r, acc, h => by
    rw [List.forIn_cons]
    cases hk : k == NameKind.free with
    | true =>
      have hk' : k = .free := eq_of_beq hk
      subst hk'
      obtain ⟨a, ha⟩ := Option.isSome_iff_exists.mp (h x (.head _))
      have e1 : cellOf env x = pure a := by unfold cellOf; rw [ha]
      simp only [beq_self_eq_true, if_true, e1, pure_bind]
      rw [closureFor_eq fun y hy => h y (.tail _ hy)]
      simp only [closL, beq_self_eq_true, if_true, ha, Option.getD_some]
    | false =>
      simp only [hk, Bool.false_eq_true, if_false, pure_bind]
      rw [closureFor_eq fun y hy => h y (.tail _ hy)]
      simp only [closL, hk, Bool.false_eq_true, if_false]
theorem closureFor_is {env : Env} {scope : Scope} (h : ∀ x, (x, NameKind.free) ∈ scope.names → (env.cells.lookup x).isSome = true) : closureFor scope env = pure (closL env.cells scope.names []) := by
  unfold closureFor
  have := closureFor_eq (env := env) (names := scope.names) (acc := []) h
  simp only [bind_pure]
  exact this

theorem closL_lookup {cells : List (Str × Addr)} : ∀ {names : List (Str × NameKind)} {acc : List (Str × Addr)} {x : Str}, (x, NameKind.free) ∈ names → (names.map (·.1)).Nodup → (closL cells names acc).lookup x = some ((cells.lookup x).getD 0) := by
  have other : ∀ {names : List (Str × NameKind)} {acc : List (Str × Addr)} {x : Str}, x ∉ names.map (·.1) → (closL cells names acc).lookup x = acc.lookup x := by
    intro names
    induction names with
    | nil => intro acc x _; rfl
    | cons p r ih =>
      intro acc x hx
      obtain ⟨y, k⟩ := p
      simp only [List.map_cons, List.mem_cons, not_or] at hx
      unfold closL
      split
      · rw [ih hx.2, List.lookup_cons]
        have : (x == y) = false := beq_eq_false_iff_ne.mpr hx.1
        rw [this]
      · exact ih hx.2
  intro names
  induction names with
  | nil => intro acc x hx; cases hx
  | cons p r ih =>
    intro acc x hx nd
    obtain ⟨y, k⟩ := p
    rw [List.map_cons, List.nodup_cons] at nd
    unfold closL
    rcases List.mem_cons.mp hx with e | hx
    · cases e
      simp only [beq_self_eq_true, if_true]
      rw [other nd.1, List.lookup_cons]
      simp
    · split
      · exact ih hx nd.2
      · exact ih hx nd.2

theorem closL_mem {cells : List (Str × Addr)} : ∀ {names : List (Str × NameKind)} {acc : List (Str × Addr)} {y : Str} {ca : Addr}, (y, ca) ∈ closL cells names acc → ((y, NameKind.free) ∈ names ∧ ca = (cells.lookup y).getD 0) ∨ (y, ca) ∈ acc
  | [], _, _, _, h => .inr h
  | (x, k) :: r, acc, y, ca, h => by
    unfold closL at h
    split at h
    · rename_i hk
      rcases closL_mem h with ⟨h1, h2⟩ | h
      · exact .inl ⟨.tail _ h1, h2⟩
      · rcases List.mem_cons.mp h with e | h
        · cases e; rw [eq_of_beq hk]; exact .inl ⟨.head _, rfl⟩
        · exact .inr h
    · rcases closL_mem h with ⟨h1, h2⟩ | h
      · exact .inl ⟨.tail _ h1, h2⟩
      · exact .inr h

/-- at most one cell of its own -/
noncomputable def ownCells (names : List (Str × NameKind)) : List Str := (names.filter fun p => p.2 == .cell).map (·.1)
theorem cellsFrom_none : ∀ {names : List (Str × NameKind)} {n : Nat} {acc : List (Str × Addr)} {h : Heap}, ownCells names = [] → cellsFrom n names acc = acc ∧ pushCells h names = h
  | [], _, _, _, _ => ⟨rfl, rfl⟩
  | (x, k) :: r, n, acc, h, ho => by
    unfold ownCells at ho
    unfold cellsFrom pushCells
    cases hk : k == NameKind.cell with
    | true => simp [hk] at ho
    | false =>
      simp only [Bool.false_eq_true, if_false]
      refine cellsFrom_none ?_
      simpa [ownCells, List.filter_cons, hk] using ho
theorem cellsFrom_one : ∀ {names : List (Str × NameKind)} {n : Nat} {acc : List (Str × Addr)} {h : Heap} {y : Str}, ownCells names = [y] → cellsFrom n names acc = (y, n) :: acc ∧ pushCells h names = h.push { cls := .type "cell", data := .cell none }
  | [], _, _, _, _, ho => by simp [ownCells] at ho
  | (x, k) :: r, n, acc, h, y, ho => by
    unfold ownCells at ho
    unfold cellsFrom pushCells
    cases hk : k == NameKind.cell with
    | true =>
      simp only [List.filter_cons, hk, if_true, List.map_cons, List.cons.injEq] at ho
      obtain ⟨rfl, ho⟩ := ho
      simp only [if_true]
      exact cellsFrom_none ho
    | false =>
      simp only [Bool.false_eq_true, if_false]
      refine cellsFrom_one ?_
      simpa [ownCells, List.filter_cons, hk] using ho

noncomputable def mkLoc (cap : List (Option Nat)) (ρ : Loc) : Loc := cap.map fun o => o.bind fun j => (ρ[j]?).join
noncomputable def capOk1 (outer : List (Str × NameKind)) (x : Str) (k : NameKind) (o : Option Nat) : Bool := match k, o with
  | .free, some j => (match outer[j]? with | some (y, .cell) => x == y | _ => false)
  | .free, none => false
  | _, none => true
  | _, some _ => false
noncomputable def capOk (outer : List (Str × NameKind)) : List (Str × NameKind) → List (Option Nat) → Bool
  | [], [] => true
  | p :: r, o :: os => capOk1 outer p.1 p.2 o && capOk outer r os
  | [], _ :: _ => false
  | _ :: _, [] => false
theorem capOk_get {outer : List (Str × NameKind)} : ∀ {names : List (Str × NameKind)} {cap : List (Option Nat)}, capOk outer names cap = true → ∀ (i : Nat) x k, names[i]? = some (x, k) →
    (k = .free ∧ ∃ j, cap[i]? = some (some j) ∧ outer[j]? = some (x, .cell)) ∨ (k ≠ .free ∧ cap[i]? = some none)
  | [], _, _, i, x, k, e => by simp at e
  | _ :: _, [], h, _, _, _, _ => by simp [capOk] at h
  | (y, k') :: r, o :: os, h, i, x, k, e => by
    simp only [capOk, Bool.and_eq_true] at h
    cases i with
    | zero =>
      simp at e; obtain ⟨rfl, rfl⟩ := e
      have h1 := h.1
      cases k' <;> cases o <;> simp [capOk1] at h1 <;> try exact .inr ⟨by simp, rfl⟩
      rename_i j
      cases hq : outer[j]? with
      | none => rw [hq] at h1; cases h1
      | some z =>
        obtain ⟨z, kz⟩ := z
        rw [hq] at h1
        cases kz <;> simp at h1
        subst h1
        exact .inl ⟨rfl, j, rfl, hq⟩
    | succ i => exact capOk_get h.2 i x k (by simpa using e)

noncomputable def compL (t : Option TF) (e : EF) (i : Nat) : List V → Loc → Hp → Option (List V × Hp)
  | [], _, hp => some ([], hp)
  | x :: xs, ρ, hp => (match t with
      | none => some (true, hp)
      | some t => t (ρ.set i (some x)) hp).bind fun b => if b.1 then (e (ρ.set i (some x)) b.2).bind fun r => (compL t e i xs ρ r.2).map fun (q : List V × Hp) => (r.1 :: q.1, q.2)
        else compL t e i xs ρ b.2
noncomputable def eComp (it : EF) (cap : List (Option Nat)) (t : Option TF) (e : EF) (i : Nat) : EF := fun ρ hp => (it ρ hp).bind fun r => (itemsOf r.1).bind fun xs =>
  (compL t e i xs (mkLoc cap ρ) r.2).bind fun q => if xs.length ≤ lim then some (.lst q.1, q.2) else none

section
variable {c : Cx} {n : Nat} {sc : Scope} {Fs : List (Addr × Obj)} {K K' : View} {φ φ' : List Addr} {hp : Hp} {env : Env} {ρ : Loc} {s : Shared} {A : Around}

theorem Inv.own_imm {a : Addr} {o : Obj} (I : Inv c ((a, o) :: Fs) K φ hp s) : Inv c Fs (K.add a o) φ hp s ∧ View.le K (K.add a o) := by
  obtain ⟨h1, h2, h3⟩ := I.fs (a, o) (.head _)
  refine ⟨⟨fun b ob f => View.le_add h2 _ _ (I.base b ob f), fun b ob f => ?_, fun p hm => ?_, (List.nodup_cons.mp I.fnd).2, I.len, I.nodup, fun j b ob f f' => ?_, I.gens, I.os⟩, View.le_add h2⟩
  · unfold View.add at f
    split at f
    · rename_i q; cases f; rw [q]; exact h1
    · exact I.keep _ _ f
  · have := I.fs p (.tail _ hm)
    refine ⟨this.1, ?_, this.2.2⟩
    have hn : ¬ p.1 = a := fun q => (List.nodup_cons.mp I.fnd).1 (List.mem_map.mpr ⟨p, hm, q⟩)
    unfold View.add; rw [if_neg hn]; exact this.2.1
  · refine (I.obj j b ob f f').mono (View.le_add h2) (List.prefix_refl φ) (fun _ h => ?_) fun _ h => h
    have hn : ¬ b = a := fun q => h3 (by rw [← q]; exact List.mem_of_getElem? f)
    unfold View.add; rw [if_neg hn]; exact h

/-- binding a name in a block whose frame heads the list -/
theorem store_loc {oL : Obj} {es : Array DictEntry} {ep : Nat} {i : Nat} {x : Str} {v : V} {val : Value} (hx : env.scope.names[i]? = some (x, .local)) (hd : oL.data = .dict es ep) (hsk : StrKeys es)
    {rest : List (Addr × Obj)} (hsub : ∀ p ∈ Fs, p ∈ rest) (I : Inv c ((env.locals, oL) :: rest) K φ hp s) (R : EnvR c ((env.locals, oL) :: Fs) K φ env ρ) (hv : VR c K φ v val) :
    wpAny c.M A (storeName env x val) (fun _ s' => ∃ oL' es' ep', oL'.data = .dict es' ep' ∧ StrKeys es' ∧ Inv c ((env.locals, oL') :: rest) K φ hp s' ∧ EnvR c ((env.locals, oL') :: Fs) K φ env (ρ.set i (some v))) NoE s := by
  have hl := lookup_of_slot R.nd hx
  have hp0 : (env.scope.kind == .class || (env.scope.kind == .module && env.locals != env.globals)) = false := by rw [R.kind]; rfl
  rw [storeName_local hl hp0]
  refine nsSet_obj (I.fs (env.locals, oL) (.head _)).1 hd hsk fun h' o' es' ep' h1 h2 h3 h4 hs => ?_
  have setval : ∀ (j : Nat) (u : V), (ρ.set i (some v))[j]? = some (some u) → (j = i ∧ u = v) ∨ (j ≠ i ∧ ρ[j]? = some (some u)) := fun j u e => by
    rw [List.getElem?_set] at e
    by_cases hj : i = j
    · subst hj
      simp only [if_true] at e
      split at e
      · cases e; exact .inl ⟨rfl, rfl⟩
      · cases e
    · rw [if_neg hj] at e; exact .inr ⟨fun q => hj q.symm, e⟩
  refine ⟨o', es', ep', h2, h3, I.set_own _ hs h1, R.kind, R.glob, R.blt, R.nd, R.has, fun y cb h => (by simpa using R.cin y cb h), ⟨o', es', ep', .head _, h2, h3, fun j y u hj hu => ?_⟩, fun j y u hj hu => ?_⟩
  · rcases setval j u hu with ⟨rfl, rfl⟩ | ⟨hne, hu⟩
    · rw [hx] at hj; cases hj
      exact ⟨val, by rw [h4, if_pos rfl], hv⟩
    · obtain ⟨oL', es0, ep0, m1, m2, m3, m4⟩ := R.loc
      have : oL' = oL := by
        rcases List.mem_cons.mp m1 with e | m1
        · cases e; rfl
        · exact absurd (List.mem_map.mpr ⟨_, hsub _ m1, rfl⟩) I.out
      subst this
      rw [hd] at m2; cases m2
      obtain ⟨w, w1, w2⟩ := m4 j y u hj hu
      refine ⟨w, ?_, w2⟩
      rw [h4, if_neg fun q => ?_]
      · exact w1
      · subst q; exact hne (slot_inj R.nd hj hx)
  · rcases setval j u hu with ⟨rfl, rfl⟩ | ⟨hne, hu⟩
    · rw [hx] at hj; cases hj
    · obtain ⟨ca, o, w, w1, w2, w3, w4⟩ := R.cell j y u hj hu
      rcases List.mem_cons.mp w2 with e | w2
      · cases e; rw [hd] at w3; cases w3
      · exact ⟨ca, o, w, w1, .tail _ w2, w3, w4⟩
theorem store_cell {ca : Addr} {o : Obj} {cv : Option Value} {i : Nat} {x : Str} {v : V} {val : Value} (hx : env.scope.names[i]? = some (x, .cell)) (hd : o.data = .cell cv) (hca : env.cells.lookup x = some ca)
    (hinj : ∀ y, env.cells.lookup y = some ca → y = x)
    {rest : List (Addr × Obj)} (hsub : ∀ p ∈ Fs, p ∈ rest) (I : Inv c ((ca, o) :: rest) K φ hp s) (R : EnvR c ((ca, o) :: Fs) K φ env ρ) (hv : VR c K φ v val) :
    wpAny c.M A (storeName env x val) (fun _ s' => ∃ o' cv', o'.data = .cell cv' ∧ Inv c ((ca, o') :: rest) K φ hp s' ∧ EnvR c ((ca, o') :: Fs) K φ env (ρ.set i (some v))) NoE s := by
  have hl := lookup_of_slot R.nd hx
  refine wpAny_storeName_cell R.kind hl hca ⟨o, (I.fs _ (.head _)).1, hd⟩ fun h' hc' hs => ?_
  obtain ⟨o', ho', hd'⟩ := hc'
  have setval : ∀ (j : Nat) (u : V), (ρ.set i (some v))[j]? = some (some u) → (j = i ∧ u = v) ∨ (j ≠ i ∧ ρ[j]? = some (some u)) := fun j u e => by
    rw [List.getElem?_set] at e
    by_cases hj : i = j
    · subst hj
      simp only [if_true] at e
      split at e
      · cases e; exact .inl ⟨rfl, rfl⟩
      · cases e
    · rw [if_neg hj] at e; exact .inr ⟨fun q => hj q.symm, e⟩
  have back : ∀ b ob, (b, ob) ∈ (ca, o) :: Fs → b ≠ ca → (b, ob) ∈ (ca, o') :: Fs := fun b ob hm hb => by
    rcases List.mem_cons.mp hm with e | h
    · cases e; exact absurd rfl hb
    · exact .tail _ h
  refine ⟨o', _, hd', I.set_own s.toks hs ho', R.kind, R.glob, R.blt, R.nd, R.has, fun y cb h => (by simpa using R.cin y cb h), ?_, fun j y u hj hu => ?_⟩
  · obtain ⟨oL', es0, ep0, m1, m2, m3, m4⟩ := R.loc
    have hLne : env.locals ≠ ca := fun q => by
      rcases List.mem_cons.mp m1 with e | m1
      · cases e; rw [hd] at m2; cases m2
      · exact I.out (List.mem_map.mpr ⟨_, hsub _ m1, q⟩)
    refine ⟨oL', es0, ep0, back _ _ m1 hLne, m2, m3, fun j y u hj hu => ?_⟩
    rcases setval j u hu with ⟨rfl, rfl⟩ | ⟨hne, hu⟩
    · rw [hx] at hj; cases hj
    · exact m4 j y u hj hu
  · rcases setval j u hu with ⟨rfl, rfl⟩ | ⟨hne, hu⟩
    · rw [hx] at hj; cases hj
      exact ⟨ca, o', val, hca, .head _, hd', hv⟩
    · obtain ⟨cb, o2, w, w1, w2, w3, w4⟩ := R.cell j y u hj hu
      have hb : cb ≠ ca := fun q => by
        subst q
        have := hinj _ w1
        subst this
        exact hne (slot_inj R.nd hj hx)
      exact ⟨cb, o2, w, w1, back _ _ w2 hb, w3, w4⟩

theorem iterSelf {it : Addr} {o : Obj} {xs : List V} {Q : Value → Shared → Prop} {E : Value → Shared → Prop} (I : Inv c ((it, o) :: Fs) K φ hp s) (h : ItSt c K φ o xs) (hQ : Q (.ref it) s) : wpAny c.M A (pyIter (.ref it)) Q E s := by
  have hit := (I.fs _ (.head _)).1
  cases h with
  | list h1 h2 => exact wpAny_pyIter_listiter ⟨o, hit, h1, h2⟩ hQ
  | rng => exact wpAny_pyIter_rangeiter hit hQ

noncomputable def TestS (c : Cx) (n : Nat) (sc : Scope) (ifs : List Expr) : Option TF → Prop
  | none => ifs = []
  | some t => ∃ e, ifs = [e] ∧ ST c n sc e t

/-- what binds the comprehension's variable -/
structure Binder (c : Cx) (cenv : Env) (Fs : List (Addr × Obj)) (x : Str) (i : Nat) (Sh : List (Addr × Obj) → Prop) : Prop where
  store : ∀ (A : Around) P rest K φ hp ρ s v val, Sh P → (∀ p ∈ Fs, p ∈ rest) → Inv c (P ++ rest) K φ hp s → EnvR c (P ++ Fs) K φ cenv ρ → VR c K φ v val →
    wpAny c.M A (storeName cenv x val) (fun _ s' => ∃ P', Sh P' ∧ Inv c (P' ++ rest) K φ hp s' ∧ EnvR c (P' ++ Fs) K φ cenv (ρ.set i (some v))) NoE s

/-- a list that has no dict -/
noncomputable def PlainRef (K : View) (v : Value) : Prop := ∃ a o, v = .ref a ∧ K a = some o ∧ o.dict = none
inductive CoI (c : Cx) (Fs : List (Addr × Obj)) (Sh : List (Addr × Obj) → Prop) (cenv : Env) (t : Option TF) (e : EF) (i : Nat) (it D : Addr) (ρ0 : Loc) (hp' : Hp) (vs : List V) (K₀ : View) (φ₀ : List Addr) (m : Nat) (s' : Shared) : Prop
  | mk (K : View) (φ : List Addr) (hp : Hp) (P : List (Addr × Obj)) (ρ : Loc) (oi oD : Obj) (items : Array Value) (nn : Nat) (ys vdone rem : List V) (hSh : Sh P) (I : Inv c (P ++ (D, oD) :: (it, oi) :: Fs) K φ hp s') (R : EnvR c (P ++ Fs) K φ cenv ρ) (hρ : ∀ z, ρ.set i z = ρ0.set i z) (kk : View.le K₀ K) (pp : φ₀ <+: φ)
      (hc : oD = { cls := .type "list", data := .seq items nn }) (hd : oD.data = .seq items nn) (hv : VsR c K φ vdone items.toList) (hst : ItSt c K φ oi ys) (hf : compL t e i ys ρ0 hp = some (rem, hp')) (hvs : vs = vdone ++ rem) (hlen : vdone.length + ys.length ≤ lim) (hm : m = ys.length) : CoI c Fs Sh cenv t e i it D ρ0 hp' vs K₀ φ₀ m s'
theorem comp_loop {elt iter : Expr} {x : Str} {px pos : Pos} {ifs : List Expr} {scope : Scope} {cenv : Env} {t : Option TF} {e : EF} {i : Nat} {Sh : List (Addr × Obj) → Prop} {R : Result → Shared → Prop} {it D : Addr}
    (hA : AOk n A) (hB : Binder c cenv Fs x i Sh) (hT : TestS c n cenv.scope ifs t) (hE : SE c n cenv.scope elt e) {ρ0 : Loc} {hp' : Hp} {vs : List V} {K₀ : View} {φ₀ : List Addr}
    (hR : ∀ K' φ' P oD items nn s', Sh P → Inv c (P ++ (D, oD) :: Fs) K' φ' hp' s' → View.le K₀ K' → φ₀ <+: φ' → oD = { cls := .type "list", data := .seq items nn } → oD.data = .seq items nn → VsR c K' φ' vs items.toList → R (.ok .next) s') :
    ∀ (m : Nat) K φ hp P ρ oi oD items nn ys vdone rem s, Sh P → Inv c (P ++ (D, oD) :: (it, oi) :: Fs) K φ hp s → EnvR c (P ++ Fs) K φ cenv ρ → (∀ z, ρ.set i z = ρ0.set i z) → View.le K₀ K → φ₀ <+: φ →
      oD = { cls := .type "list", data := .seq items nn } → oD.data = .seq items nn → VsR c K φ vdone items.toList → ItSt c K φ oi ys → compL t e i ys ρ0 hp = some (rem, hp') → vs = vdone ++ rem → vdone.length + ys.length ≤ lim → m = ys.length →
      codeAny c.M A (.compLoop (.ListComp elt [⟨.Name x px, iter, ifs, 0⟩] scope pos) 0 (.ref it) (.ref D) cenv) R s := by
  intro m K φ hp P ρ oi oD items nn ys vdone rem s hSh I hR' hρ kk pp hc hd hv hst hf hvs hlen hm
  refine codeAny_compLoop_tests (CoI c Fs Sh cenv t e i it D ρ0 hp' vs K₀ φ₀) ?_ m
    ⟨K, φ, hp, P, ρ, oi, oD, items, nn, ys, vdone, rem, hSh, I, hR', hρ, kk, pp, hc, hd, hv, hst, hf, hvs, hlen, hm⟩
  clear hm hlen hvs hf hst hv hd hc pp kk hρ hR' I hSh
  rintro m s ⟨K, φ, hp, P, ρ, oi, oD, items, nn, ys, vdone, rem, hSh, I, hR', hρ, kk, pp, hc, hd, hv, hst, hf, hvs, hlen, rfl⟩
  have toFront : ∀ (o : Obj), (P ++ (D, oD) :: (it, o) :: Fs).Perm ((it, o) :: (P ++ (D, oD) :: Fs)) := fun o => by
    have e1 : P ++ (D, oD) :: (it, o) :: Fs = (P ++ [(D, oD)]) ++ (it, o) :: Fs := by simp
    have e2 : P ++ (D, oD) :: Fs = (P ++ [(D, oD)]) ++ Fs := by simp
    rw [e1, e2]; exact List.perm_middle
  have I1 := I.perm (toFront oi)
  cases ys with
  | nil =>
    cases hf
    rw [List.append_nil] at hvs; subst hvs
    refine wpAny_mono (hst.stop hA I1) ?_ fun _ _ x => x.elim
    rintro r s1 ⟨rfl, I2⟩
    exact hR K φ P oD items nn s1 hSh I2 kk pp hc hd hv
  | cons y ys =>
    unfold compL at hf
    obtain ⟨⟨b, hp1⟩, ht, hf⟩ := Option.bind_eq_some_iff.mp hf
    refine wpAny_mono (hst.next hA I1) ?_ fun _ _ x => x.elim
    rintro r s1 ⟨val, oi1, rfl, hyv, I2, hst1⟩
    have I3 := I2.perm (toFront oi1).symm
    refine wpAny_assign_Name (wpAny_mono (hB.store A P ((D, oD) :: (it, oi1) :: Fs) K φ hp ρ s1 y val hSh (fun p hp => .tail _ (.tail _ hp)) I3 hR' hyv) ?_ fun _ _ x => x.elim)
    rintro _ s2 ⟨P2, hSh2, I4, R4⟩
    rw [hρ] at R4
    have sub2 : ∀ p ∈ P2 ++ Fs, p ∈ P2 ++ (D, oD) :: (it, oi1) :: Fs := fun p hp => by
      rcases List.mem_append.mp hp with h | h
      · exact List.mem_append_left _ h
      · exact List.mem_append_right _ (.tail _ (.tail _ h))
    have hρ2 : ∀ z, (ρ0.set i (some y)).set i z = ρ0.set i z := fun z => List.set_set ..
    -- the test
    have test : wpAny c.M A (forIn ifs true fun c r => if r = true then do let ok ← isTrue c cenv (PySem.eval c cenv); pure (ForInStep.yield ok) else pure (ForInStep.yield r))
        (PostB c (P2 ++ (D, oD) :: (it, oi1) :: Fs) K φ hp1 b) NoE s2 := by
      cases t with
      | none =>
        have : ifs = [] := hT
        subst this
        cases ht
        exact wpAny_tests_nil ⟨rfl, K, φ, I4, .refl K, List.prefix_refl φ⟩
      | some tf =>
        obtain ⟨ce, rfl, hst'⟩ := hT
        refine wpAny_tests_one (wpAny_mono (hst' A cenv _ K φ hp _ s2 b hp1 hA rfl I4 (R4.mono sub2 (.refl K) (List.prefix_refl φ)) ht) ?_ fun _ _ x => x)
        rintro ok s3 ⟨e1, K3, φ3, I5, k5, p5⟩
        exact ⟨e1, K3, φ3, I5, k5, p5⟩
    refine wpAny_mono test ?_ fun _ _ x => x.elim
    rintro ok s3 ⟨rfl, K3, φ3, I5, k5, p5⟩
    have R5 := R4.mono (fun p hp => hp) k5 p5
    cases ok with
    | false =>
      simp only [Bool.false_eq_true, if_false] at hf ⊢
      refine ⟨ys.length, Nat.lt_succ_self _, K3, φ3, hp1, P2, _, oi1, oD, items, nn, ys, vdone, rem, hSh2, I5, R5, hρ2, kk.trans k5, pp.trans p5, hc, hd, hv.mono k5 p5, hst1.mono k5 p5, hf, hvs, ?_, rfl⟩
      simp at hlen; omega
    | true =>
      simp only [if_true] at hf ⊢
      obtain ⟨⟨u, hp2⟩, he, hf⟩ := Option.bind_eq_some_iff.mp hf
      obtain ⟨⟨us, hp3⟩, hf2, hq⟩ := Option.map_eq_some_iff.mp hf
      clear hf
      cases hq
      refine wpAny_mono (hE A cenv _ K3 φ3 hp1 _ s3 u hp2 hA rfl I5 (R5.mono sub2 (.refl K3) (List.prefix_refl φ3)) he) ?_ fun _ _ x => x.elim
      rintro uval s4 ⟨K4, φ4, I6, k6, p6, hu⟩
      have toD : (P2 ++ (D, oD) :: (it, oi1) :: Fs).Perm ((D, oD) :: (P2 ++ (it, oi1) :: Fs)) := List.perm_middle
      have I7 := I6.perm toD
      have hlD : s4.heap.PlainList D items := ⟨nn, by rw [← hc]; exact (I7.fs _ (.head _)).1⟩
      have hsz : items.size = vdone.length := by have := hv.1; simpa using this
      simp only [List.length_cons] at hlen
      refine wpAny_list_append_plain hlD (fun h' hl' hs' => ?_) (lim_le (by omega))
      obtain ⟨nn', ho'⟩ := hl'
      have I8 : Inv c (P2 ++ (D, { cls := .type "list", data := .seq (items.push uval) nn' }) :: (it, oi1) :: Fs) K4 φ4 hp2 { s4 with heap := h', toks := s4.toks } := (I7.set_own s4.toks hs' ho').perm List.perm_middle.symm
      refine ⟨ys.length, Nat.lt_succ_self _, K4, φ4, hp2, P2, _, oi1, _, items.push uval, nn', ys, vdone ++ [u], us, hSh2, I8, R5.mono (fun p hp => hp) k6 p6, hρ2, (kk.trans k5).trans k6, (pp.trans p5).trans p6, rfl, rfl, ?_, (hst1.mono k5 p5).mono k6 p6, hf2, ?_, ?_, rfl⟩
      · rw [Array.toList_push]
        exact ((hv.mono k5 p5).mono k6 p6).append (.cons hu .nil)
      · rw [hvs]; simp
      · simp; omega

theorem newCompEnv {scope : Scope} {cl : List (Str × Addr)} {qual : Str} {outer : Env} {Q : Env → Shared → Prop} {E : Value → Shared → Prop} {M : Model}
    (h : Q { scope, locals := s.heap.objs.size, globals := outer.globals, cells := cellsFrom (s.heap.objs.size + 1) scope.names cl, qual, func := none, code := outer.code, frame := outer.frame, builtins := outer.builtins }
      { s with heap := pushCells (s.heap.push { cls := .type "dict", data := .dict #[] }) scope.names }) :
    wpAny M A (newFunctionEnv scope outer.globals cl [] qual none .none (some outer)) Q E s := by
  simp only [newFunctionEnv, Option.isSome_some, if_true]
  refine wpAny_bind (wpAny_alloc ?_)
  refine wpAny_bind (wpAny_layCells _ (fun name kind cells => by cases kind == NameKind.cell <;> simp) _ _ _ _ ?_)
  rw [show ({ s with heap := s.heap.push { cls := .type "dict", data := .dict #[] } } : Shared).heap.objs.size = s.heap.objs.size + 1 from Heap.size_push ..]
  simp only [List.forIn_nil]
  exact wpAny_bind (wpAny_pure (wpAny_pure h))

inductive CpP (c : Cx) (Fs : List (Addr × Obj)) (K : View) (φ : List Addr) (hp' : Hp) (vs : List V) (acc : Value) (L : Addr) (r : Result) (s' : Shared) : Prop
  | mk (h : r = .ok .next) (K' : View) (φ' : List Addr) (oL : Obj) (es : Array DictEntry) (ep : Nat) (I : Inv c ((L, oL) :: Fs) K' φ' hp' s') (k : View.le K K') (p : φ <+: φ') (v : VR c K' φ' (.lst vs) acc) (hd : oL.data = .dict es ep) (hk : StrKeys es) (pl : PlainRef K' acc) : CpP c Fs K φ hp' vs acc L r s'
theorem comp_core {elt iter : Expr} {x : Str} {px pos : Pos} {ifs : List Expr} {scope sc' : Scope} {cap : List (Option Nat)} {t : Option TF} {e : EF} {i : Nat} {it : Addr} {oi : Obj} {xs vs : List V} {hp' : Hp}
    (hA : AOk n A) (hrel : relabel scope env = sc') (hk' : sc'.kind = .function) (hnd : (scope.names.map (·.1)).Nodup)
    (hnames : sc'.names = scope.names.map fun p => if p.2 == NameKind.free then (p.1, NameKind.cell) else p)
    (hcap : capOk env.scope.names scope.names cap = true)
    (hown : (ownCells scope.names = [] ∧ scope.names[i]? = some (x, .local)) ∨ (ownCells scope.names = [x] ∧ scope.names[i]? = some (x, .cell)))
    (hT : TestS c n sc' ifs t) (hE : SE c n sc' elt e)
    (I : Inv c ((it, oi) :: Fs) K φ hp s) (st : ItSt c K φ oi xs) (R : EnvR c Fs K φ env ρ)
    (hf : compL t e i xs (mkLoc cap ρ) hp = some (vs, hp')) (hlen : xs.length ≤ lim) :
    wpAny c.M A (newList []) (fun acc s₃ => wpAny c.M A (newFunctionEnv scope env.globals (closL env.cells scope.names []) [] env.qual none .none (some env)) (fun cenv s₄ =>
      codeAny c.M A (.compStart (.ListComp elt [⟨.Name x px, iter, ifs, 0⟩] scope pos) 0 (.ref it) acc { cenv with scope := relabel scope env })
        (CpP c Fs K φ hp' vs acc cenv.locals) s₄) NoE s₃) NoE s := by
  refine wpAny_newList ?_ (by simp)
  have I1 := I.own { cls := .type "list", data := .seq ([] : List Value).toArray } s.toks
  generalize hD : s.heap.objs.size = D at I1 ⊢
  generalize hs1 : ({ s with heap := s.heap.push { cls := .type "list", data := .seq ([] : List Value).toArray } } : Shared) = s1 at I1 ⊢
  refine newCompEnv ?_
  have I2 := I1.own { cls := .type "dict", data := .dict #[] } s1.toks
  have hfresh : s1.heap.objs.size ∉ Fs.map (·.1) := fun hm => I2.out (by rw [List.map_cons, List.map_cons]; exact .tail _ (.tail _ hm))
  generalize hL : s1.heap.objs.size = L at I2 hfresh ⊢
  have hsz2 : (s1.heap.push { cls := .type "dict", data := .dict #[] }).objs.size = L + 1 := by rw [Heap.size_push, hL]
  -- kinds of the inner names
  have inner : ∀ (j : Nat) y k, sc'.names[j]? = some (y, k) → (k = .cell ∧ scope.names[j]? = some (y, .free)) ∨ (k ≠ .free ∧ scope.names[j]? = some (y, k)) := fun j y k h => by
    rw [hnames, List.getElem?_map] at h
    cases hq : scope.names[j]? with
    | none => rw [hq] at h; cases h
    | some p =>
      rw [hq] at h
      obtain ⟨y', k'⟩ := p
      simp only [Option.map_some, Option.some.injEq] at h
      by_cases hk : k' = .free
      · subst hk; simp at h; obtain ⟨rfl, rfl⟩ := h; exact .inl ⟨rfl, rfl⟩
      · have hb : (k' == NameKind.free) = false := beq_eq_false_iff_ne.mpr hk
        simp only [hb, Bool.false_eq_true, if_false] at h
        cases h; exact .inr ⟨hk, rfl⟩
  have nd' : (sc'.names.map (·.1)).Nodup := by
    have : sc'.names.map (·.1) = scope.names.map (·.1) := by
      rw [hnames, List.map_map]
      apply List.map_congr_left
      intro p _
      simp only [Function.comp_apply]
      split <;> rfl
    rw [this]; exact hnd
  have memFree : ∀ (j : Nat) y, scope.names[j]? = some (y, .free) → (y, NameKind.free) ∈ scope.names := fun j y h => List.mem_of_getElem? h
  have closOf : ∀ y, (y, NameKind.free) ∈ scope.names → ∃ ca, env.cells.lookup y = some ca ∧ (closL env.cells scope.names []).lookup y = some ca := fun y hy => by
    obtain ⟨j, hj⟩ := List.getElem?_of_mem hy
    rcases capOk_get hcap j y _ hj with ⟨_, j', _, h2⟩ | ⟨h, _⟩
    · obtain ⟨ca, hca⟩ := Option.isSome_iff_exists.mp (R.has y (lookup_of_slot R.nd h2))
      exact ⟨ca, hca, by rw [closL_lookup hy hnd, hca]; rfl⟩
    · exact absurd rfl h
  have closIn : ∀ y ca, (closL env.cells scope.names []).lookup y = some ca → ca ∈ Fs.map (·.1) := fun y ca h => by
    rcases closL_mem (mem_of_lookup h) with ⟨h1, h2⟩ | h1
    · obtain ⟨cb, h3, _⟩ := closOf y h1
      rw [h3] at h2; subst h2
      exact R.cin y _ h3
    · cases h1
  have mkNone : ∀ (j : Nat) y k v, scope.names[j]? = some (y, k) → k ≠ .free → (mkLoc cap ρ)[j]? = some (some v) → False := fun j y k v h hk hv => by
    rcases capOk_get hcap j y k h with ⟨h1, _⟩ | ⟨_, h1⟩
    · exact hk h1
    · unfold mkLoc at hv; rw [List.getElem?_map, h1] at hv; cases hv
  have mkCap : ∀ (j : Nat) y v, scope.names[j]? = some (y, .free) → (mkLoc cap ρ)[j]? = some (some v) → ∃ ca o val, env.cells.lookup y = some ca ∧ (ca, o) ∈ Fs ∧ o.data = .cell (some val) ∧ VR c K φ v val := fun j y v h hv => by
    rcases capOk_get hcap j y _ h with ⟨_, j', h1, h2⟩ | ⟨h1, _⟩
    · unfold mkLoc at hv
      rw [List.getElem?_map, h1] at hv
      simp only [Option.map_some, Option.bind_some, Option.some.injEq] at hv
      refine R.cell j' y v h2 ?_
      cases hq : ρ[j']? with
      | none => rw [hq] at hv; cases hv
      | some o => rw [hq] at hv; simp at hv; rw [hv]
    · exact absurd rfl h1
  have fin : ∀ {cenv : Env} {Sh : List (Addr × Obj) → Prop} {P : List (Addr × Obj)} {s3 : Shared}, cenv.scope = sc' → cenv.locals = L → Sh P → Binder c cenv Fs x i Sh →
      (∀ P, Sh P → ∃ pre oL es ep, P = pre ++ [(L, oL)] ∧ oL.data = .dict es ep ∧ StrKeys es) →
      Inv c (P ++ (D, { cls := .type "list", data := .seq ([] : List Value).toArray }) :: (it, oi) :: Fs) K φ hp s3 → EnvR c (P ++ Fs) K φ cenv (mkLoc cap ρ) →
      codeAny c.M A (.compStart (.ListComp elt [⟨.Name x px, iter, ifs, 0⟩] scope pos) 0 (.ref it) (.ref D) cenv)
        (CpP c Fs K φ hp' vs (.ref D) L) s3 := by
    intro cenv Sh P s3 hsc hloc hSh hB hshape I3 R3
    have loop : codeAny c.M A (.compLoop (.ListComp elt [⟨.Name x px, iter, ifs, 0⟩] scope pos) 0 (.ref it) (.ref D) cenv)
        (CpP c Fs K φ hp' vs (.ref D) L) s3 := by
      refine comp_loop (n := n) (t := t) (e := e) (ρ0 := mkLoc cap ρ) (hp' := hp') (vs := vs) (K₀ := K) (φ₀ := φ) hA hB (by rw [hsc]; exact hT) (by rw [hsc]; exact hE) ?_ xs.length K φ hp P (mkLoc cap ρ) oi _ #[] 0 xs [] vs s3 hSh I3 R3 (fun _ => rfl) (.refl K) (List.prefix_refl φ) rfl rfl .nil st hf rfl (by simpa using hlen) rfl
      intro K' φ' P' oD items nn s' hSh' I' kk pp hc hd hv
      obtain ⟨pre, oL, es, ep, rfl, h1, h2⟩ := hshape P' hSh'
      have e1 : pre ++ [(L, oL)] ++ (D, oD) :: Fs = pre ++ ((L, oL) :: (D, oD) :: Fs) := by simp
      rw [e1] at I'
      have I4 : Inv c ((D, oD) :: (L, oL) :: Fs) K' φ' hp' s' := I'.pops.perm (.swap ..)
      obtain ⟨I5, k5⟩ := I4.own_imm
      exact ⟨rfl, _, φ', oL, es, ep, I5, kk.trans k5, pp, .mk_lst (View.add_self ..) (by rw [hc]) hd (hv.mono k5 (List.prefix_refl _)), h1, h2, D, oD, rfl, View.add_self .., by rw [hc]⟩
    refine codeAny_compStart_list loop ?_
    have hfr : Inv c ((it, oi) :: (P ++ [(D, { cls := .type "list", data := .seq ([] : List Value).toArray })] ++ Fs)) K φ hp s3 := by
      refine I3.perm ?_
      have e1 : P ++ (D, ({ cls := .type "list", data := .seq ([] : List Value).toArray } : Obj)) :: (it, oi) :: Fs = (P ++ [(D, { cls := .type "list", data := .seq ([] : List Value).toArray })]) ++ (it, oi) :: Fs := by simp
      rw [e1]; exact List.perm_middle
    exact iterSelf hfr st loop
  rcases hown with ⟨ho, hi⟩ | ⟨ho, hi⟩
  · obtain ⟨e1, e2⟩ := cellsFrom_none (n := L + 1) (acc := closL env.cells scope.names []) (h := s1.heap.push { cls := .type "dict", data := .dict #[] }) ho
    rw [e1, e2]
    have ownCell : ∀ (j : Nat) y, scope.names[j]? ≠ some (y, .cell) := fun j y h => by
      have hm : y ∈ ownCells scope.names := List.mem_map.mpr ⟨(y, .cell), List.mem_filter.mpr ⟨List.mem_of_getElem? h, rfl⟩, rfl⟩
      rw [ho] at hm; cases hm
    refine fin (Sh := fun P => ∃ oL es ep, P = [(L, oL)] ∧ oL.data = .dict es ep ∧ StrKeys es) (P := [(L, { cls := .type "dict", data := .dict #[] })]) (by simpa using hrel) rfl ⟨_, _, _, rfl, rfl, fun e he => by simp at he⟩ ⟨?_⟩ ?_ I2 ?_
    · rintro A P rest K φ hp ρ s v val ⟨oL, es, ep, rfl, h1, h2⟩ hsub I R hv
      refine wpAny_mono (store_loc (Fs := Fs) (x := x) (i := i) ?_ h1 h2 hsub I R hv) ?_ fun _ _ x => x
      · show (relabel scope env).names[i]? = _
        rw [hrel, hnames, List.getElem?_map, hi]; rfl
      · rintro _ s' ⟨oL', es', ep', h3, h4, I', R'⟩
        exact ⟨[(L, oL')], ⟨oL', es', ep', rfl, h3, h4⟩, I', R'⟩
    · rintro P ⟨oL, es, ep, rfl, h1, h2⟩
      exact ⟨[], oL, es, ep, rfl, h1, h2⟩
    · refine ⟨?_, R.glob, R.blt, ?_, fun y hy => ?_, fun y ca hy => ?_, ⟨_, _, _, .head _, rfl, fun e he => by simp at he, fun j y v hj hv => ?_⟩, fun j y v hj hv => ?_⟩
      · show (relabel scope env).kind = _
        rw [hrel]; exact hk'
      · show ((relabel scope env).names.map (·.1)).Nodup
        rw [hrel]; exact nd'
      · have hy' : sc'.names.lookup y = some .cell := by rw [← hrel]; exact hy
        obtain ⟨j, hj⟩ := List.getElem?_of_mem (mem_of_lookup hy')
        rcases inner j y _ hj with ⟨_, h⟩ | ⟨_, h⟩
        · obtain ⟨ca, _, h3⟩ := closOf y (memFree j y h)
          show ((closL env.cells scope.names []).lookup y).isSome = true
          rw [h3]; rfl
        · exact absurd h (ownCell j y)
      · exact .tail _ (closIn y ca hy)
      · have hj' : sc'.names[j]? = some (y, .local) := by rw [← hrel]; exact hj
        rcases inner j y _ hj' with ⟨h, _⟩ | ⟨h, h3⟩
        · cases h
        · exact (mkNone j y _ v h3 h hv).elim
      · have hj' : sc'.names[j]? = some (y, .cell) := by rw [← hrel]; exact hj
        rcases inner j y _ hj' with ⟨_, h⟩ | ⟨_, h⟩
        · obtain ⟨ca, o, val, g1, g2, g3, g4⟩ := mkCap j y v h hv
          obtain ⟨ca', q1, q2⟩ := closOf y (memFree j y h)
          rw [g1] at q1; cases q1
          exact ⟨ca, o, val, q2, .tail _ g2, g3, g4⟩
        · exact absurd h (ownCell j y)
  · obtain ⟨e1, e2⟩ := cellsFrom_one (n := L + 1) (acc := closL env.cells scope.names []) (h := s1.heap.push { cls := .type "dict", data := .dict #[] }) ho
    rw [e1, e2]
    have I3 := I2.own { cls := .type "cell", data := .cell none } s1.toks
    rw [show ({ s1 with heap := s1.heap.push { cls := .type "dict", data := .dict #[] }, toks := s1.toks } : Shared).heap.objs.size = L + 1 from hsz2] at I3
    have hCout : L + 1 ∉ Fs.map (·.1) := fun hm => I3.out (by simp only [List.map_cons]; exact .tail _ (.tail _ (.tail _ hm)))
    have ownCell : ∀ (j : Nat) y, scope.names[j]? = some (y, .cell) → y = x := fun j y h => by
      have hm : y ∈ ownCells scope.names := List.mem_map.mpr ⟨(y, .cell), List.mem_filter.mpr ⟨List.mem_of_getElem? h, rfl⟩, rfl⟩
      rw [ho] at hm; exact List.mem_singleton.mp hm
    have hx' : sc'.names[i]? = some (x, .cell) := by rw [hnames, List.getElem?_map, hi]; rfl
    have front : ∀ y ca, ((x, L + 1) :: closL env.cells scope.names []).lookup y = some ca → (y = x ∧ ca = L + 1) ∨ (y ≠ x ∧ (closL env.cells scope.names []).lookup y = some ca) := fun y ca h => by
      rw [List.lookup_cons] at h
      split at h
      · rename_i q; cases h; exact .inl ⟨eq_of_beq q, rfl⟩
      · rename_i q; exact .inr ⟨fun r => by rw [r] at q; simp at q, h⟩
    refine fin (Sh := fun P => ∃ oc cv oL es ep, P = [(L + 1, oc), (L, oL)] ∧ oc.data = .cell cv ∧ oL.data = .dict es ep ∧ StrKeys es) (P := [(L + 1, { cls := .type "cell", data := .cell none }), (L, { cls := .type "dict", data := .dict #[] })])
      (by simpa using hrel) rfl ⟨_, _, _, _, _, rfl, rfl, rfl, fun e he => by simp at he⟩ ⟨?_⟩ ?_ I3 ?_
    · rintro A P rest K φ hp ρ s v val ⟨oc, cv, oL, es, ep, rfl, h0, h1, h2⟩ hsub I R' hv
      refine wpAny_mono (store_cell (Fs := (L, oL) :: Fs) (rest := (L, oL) :: rest) (x := x) (i := i) ?_ h0 (ca := L + 1) ?_ ?_ ?_ I R' hv) ?_ fun _ _ x => x
      · show (relabel scope env).names[i]? = _
        rw [hrel]; exact hx'
      · show ((x, L + 1) :: closL env.cells scope.names []).lookup x = _
        simp
      · intro y hy
        rcases front y _ hy with ⟨h, _⟩ | ⟨_, h⟩
        · exact h
        · exact absurd (closIn y _ h) hCout
      · intro p hp
        rcases List.mem_cons.mp hp with rfl | hp
        · exact .head _
        · exact .tail _ (hsub p hp)
      · rintro _ s' ⟨o', cv', h3, I', R''⟩
        exact ⟨[(L + 1, o'), (L, oL)], ⟨o', cv', oL, es, ep, rfl, h3, h1, h2⟩, I', R''⟩
    · rintro P ⟨oc, cv, oL, es, ep, rfl, h0, h1, h2⟩
      exact ⟨[(L + 1, oc)], oL, es, ep, rfl, h1, h2⟩
    · refine ⟨?_, R.glob, R.blt, ?_, fun y hy => ?_, fun y ca hy => ?_, ⟨_, _, _, .tail _ (.head _), rfl, fun e he => by simp at he, fun j y v hj hv => ?_⟩, fun j y v hj hv => ?_⟩
      · show (relabel scope env).kind = _
        rw [hrel]; exact hk'
      · show ((relabel scope env).names.map (·.1)).Nodup
        rw [hrel]; exact nd'
      · have hy' : sc'.names.lookup y = some .cell := by rw [← hrel]; exact hy
        obtain ⟨j, hj⟩ := List.getElem?_of_mem (mem_of_lookup hy')
        show (((x, L + 1) :: closL env.cells scope.names []).lookup y).isSome = true
        rw [List.lookup_cons]
        split
        · rfl
        · rename_i q
          rcases inner j y _ hj with ⟨_, h⟩ | ⟨_, h⟩
          · obtain ⟨ca, _, h3⟩ := closOf y (memFree j y h)
            rw [h3]; rfl
          · have := ownCell j y h
            subst this; simp at q
      · rcases front y ca hy with ⟨_, h⟩ | ⟨_, h⟩
        · rw [h]; exact .head _
        · exact .tail _ (.tail _ (closIn y ca h))
      · have hj' : sc'.names[j]? = some (y, .local) := by rw [← hrel]; exact hj
        rcases inner j y _ hj' with ⟨h, _⟩ | ⟨h, h3⟩
        · cases h
        · exact (mkNone j y _ v h3 h hv).elim
      · have hj' : sc'.names[j]? = some (y, .cell) := by rw [← hrel]; exact hj
        rcases inner j y _ hj' with ⟨_, h⟩ | ⟨h, h3⟩
        · obtain ⟨ca, o, val, g1, g2, g3, g4⟩ := mkCap j y v h hv
          obtain ⟨ca', q1, q2⟩ := closOf y (memFree j y h)
          rw [g1] at q1; cases q1
          refine ⟨ca, o, val, ?_, .tail _ (.tail _ g2), g3, g4⟩
          show ((x, L + 1) :: closL env.cells scope.names []).lookup y = _
          rw [List.lookup_cons]
          split
          · rename_i q
            exfalso
            have q' := eq_of_beq q
            subst q'
            have a1 : (scope.names.map (·.1))[i]? = some y := by rw [List.getElem?_map, hi]; rfl
            have a2 : (scope.names.map (·.1))[j]? = some y := by rw [List.getElem?_map, h]; rfl
            have : i = j := (List.getElem?_inj (List.getElem?_eq_some_iff.mp a1).1 hnd).mp (a1.trans a2.symm)
            subst this
            rw [hi] at h; cases h
          · exact q2
        · exact (mkNone j y _ v h3 h hv).elim

structure CompOk (sc scope sc' : Scope) (cap : List (Option Nat)) (x : Str) (i : Nat) : Prop where
  rel : ∀ env : Env, env.scope = sc → relabel scope env = sc'
  kind : scope.kind = .function
  kind' : sc'.kind = .function
  nd : (scope.names.map (·.1)).Nodup
  names : sc'.names = scope.names.map fun p => if p.2 == NameKind.free then (p.1, NameKind.cell) else p
  cap : capOk sc.names scope.names cap = true
  own : (ownCells scope.names = [] ∧ scope.names[i]? = some (x, .local)) ∨ (ownCells scope.names = [x] ∧ scope.names[i]? = some (x, .cell))

theorem CompOk.free {scope sc' : Scope} {cap : List (Option Nat)} {x : Str} {i : Nat} (ok : CompOk sc scope sc' cap x i) (he : env.scope = sc) (R : EnvR c Fs K φ env ρ) : ∀ y, (y, NameKind.free) ∈ scope.names → (env.cells.lookup y).isSome = true := fun y hy => by
  obtain ⟨j, hj⟩ := List.getElem?_of_mem hy
  rcases capOk_get ok.cap j y _ hj with ⟨_, j', _, h2⟩ | ⟨h, _⟩
  · refine R.has y ?_
    unfold Env.kindOf
    rw [he]
    exact lookup_of_slot (by rw [← he]; exact R.nd) h2
  · exact absurd rfl h
theorem CompOk.locals {scope sc' : Scope} {cap : List (Option Nat)} {x : Str} {i : Nat} (ok : CompOk sc scope sc' cap x i) : ∀ y ∈ scope.names, y.2 = .local → scope.names.lookup y.1 = some .local := fun y hy hl => by
  obtain ⟨a, b⟩ := y
  simp at hl; subst hl
  exact lookup_of_mem ok.nd hy

theorem comp_post {elt iter : Expr} {x : Str} {px pos : Pos} {ifs : List Expr} {scope sc' : Scope} {cap : List (Option Nat)} {t : Option TF} {e fi : EF} {i : Nat}
    (ok : CompOk sc scope sc' cap x i) (hI : SE c n sc iter fi) (hT : TestS c n sc' ifs t) (hE : SE c n sc' elt e) (hs : ∀ env x, foldedSetIterable iter env x = pure x) :
    ∀ (A : Around) (env : Env) Fs K φ hp ρ s v hp', AOk n A → env.scope = sc → Inv c Fs K φ hp s → EnvR c Fs K φ env ρ → eComp fi cap t e i ρ hp = some (v, hp') →
      wpAny c.M A (PySem.eval (.ListComp elt [⟨.Name x px, iter, ifs, 0⟩] scope pos) env) (fun val s' => ∃ K' φ', Inv c Fs K' φ' hp' s' ∧ View.le K K' ∧ φ <+: φ' ∧ VR c K' φ' v val ∧ PlainRef K' val) NoE s := by
  intro A env Fs K φ hp ρ s v hp' hA he I R hf
  obtain ⟨⟨a, hp1⟩, e1, hf⟩ := Option.bind_eq_some_iff.mp hf
  obtain ⟨xs, e2, hf⟩ := Option.bind_eq_some_iff.mp hf
  obtain ⟨⟨vs, hp2⟩, e3, hf⟩ := Option.bind_eq_some_iff.mp hf
  split at hf
  · rename_i hlen
    cases hf
    show wpAny c.M A (comprehension _ scope env (firstIterPos _ pos) (newList []) false (PySem.eval iter env)) _ NoE s
    refine wpAny_comprehension_free (g := ⟨.Name x px, iter, ifs, 0⟩) (gs := []) rfl (hs env) (closureFor_is (ok.free he R)) ok.kind ok.locals ?_
    refine wpAny_mono (hI A env Fs K φ hp ρ s a hp1 hA he I R e1) ?_ fun _ _ x => x
    rintro val s1 ⟨K1, φ1, I1, k1, p1, v1⟩
    refine wpAny_mono (pyIter_of hA I1 v1 e2) ?_ fun _ _ x => x
    rintro r s2 ⟨it, o, rfl, I2, st2⟩
    refine wpAny_mono (comp_core (px := px) (pos := pos) (iter := iter) hA (ok.rel env he) ok.kind' ok.nd ok.names (by rw [he]; exact ok.cap) ok.own hT hE I2 st2 (R.mono (fun _ h => h) k1 p1) e3 hlen) ?_ fun _ _ x => x
    intro acc s3 h3
    refine wpAny_mono h3 ?_ fun _ _ x => x
    intro cenv s4 h4
    refine codeAny_mono h4 ?_
    rintro r s5 ⟨rfl, K', φ', oL, es, ep, I5, k5, p5, v5, g1, g2, g3⟩
    refine ⟨nsFind es, ⟨oL, es, ep, (I5.fs _ (.head _)).1, g1, g2, fun _ => rfl⟩, fun h' hs' => ?_⟩
    exact ⟨K', φ', I5.drop s5.toks hs'.extBut, k1.trans k5, p1.trans p5, v5, g3⟩
  · cases hf

theorem SE.comp {elt iter : Expr} {x : Str} {px pos : Pos} {ifs : List Expr} {scope sc' : Scope} {cap : List (Option Nat)} {t : Option TF} {e fi : EF} {i : Nat}
    (ok : CompOk sc scope sc' cap x i) (hI : SE c n sc iter fi) (hT : TestS c n sc' ifs t) (hE : SE c n sc' elt e) (hs : ∀ env x, foldedSetIterable iter env x = pure x) :
    SE c n sc (.ListComp elt [⟨.Name x px, iter, ifs, 0⟩] scope pos) (eComp fi cap t e i) := by
  intro A env Fs K φ hp ρ s v hp' hA he I R hf
  refine wpAny_mono (comp_post ok hI hT hE hs A env Fs K φ hp ρ s v hp' hA he I R hf) ?_ fun _ _ x => x
  rintro val s' ⟨K', φ', h1, h2, h3, h4, _⟩
  exact ⟨K', φ', h1, h2, h3, h4⟩

/-- name = comprehension, the stores exchanged -/
theorem S1.asgComp {elt iter : Expr} {x y : Str} {px py pos cpos : Pos} {ifs : List Expr} {scope sc' : Scope} {cap : List (Option Nat)} {t : Option TF} {e fi : EF} {i : Nat} (j : Nat) (k : NameKind)
    (hy : sc.names[j]? = some (y, k)) (hk : k = .local ∨ k = .cell)
    (ok : CompOk sc scope sc' cap x i) (hI : SE c n sc iter fi) (hT : TestS c n sc' ifs t) (hE : SE c n sc' elt e) (hs : ∀ env x, foldedSetIterable iter env x = pure x)
    (hw : ∀ env : Env, env.scope = sc → swapsWithSole [.Name y py] (.ListComp elt [⟨.Name x px, iter, ifs, 0⟩] scope cpos) pos.line env = pure true) :
    S1 c n sc (.Assign [.Name y py] (.ListComp elt [⟨.Name x px, iter, ifs, 0⟩] scope cpos) pos) (sAsg (aVar j) (eComp fi cap t e i)) := by
  intro A env Fs K φ hp ρ s fl ρ' hp' hA he I hf
  obtain ⟨⟨v, hpv⟩, ev, hf⟩ := Option.bind_eq_some_iff.mp hf
  obtain ⟨⟨a, hp1⟩, e1, ev⟩ := Option.bind_eq_some_iff.mp ev
  obtain ⟨xs, e2, ev⟩ := Option.bind_eq_some_iff.mp ev
  obtain ⟨⟨vs, hp2⟩, e3, ev⟩ := Option.bind_eq_some_iff.mp ev
  cases hf
  split at ev
  · rename_i hlen
    cases ev
    obtain ⟨Fr, I, F, R⟩ := I
    have R' : EnvR c (Fr ++ Fs) K φ env ρ := R.mono (fun p hp => List.mem_append_left _ hp) (.refl K) (List.prefix_refl φ)
    rw [exec_Assign]
    refine wpAny_bind (wpAny_standAt ?_)
    rw [hw env he]
    refine wpAny_bind (wpAny_pure ?_)
    rw [if_pos rfl]
    refine wpAny_bind ?_
    show wpAny c.M A (do let _ ← comprehension (.ListComp elt [⟨.Name x px, iter, ifs, 0⟩] scope cpos) scope env (firstIterPos [⟨.Name x px, iter, ifs, 0⟩] cpos) (newList []) false (PySem.eval iter env) (some fun v => assign (.Name y py) env v)) _ NoE s
    refine wpAny_bind ?_
    refine wpAny_comprehension_free (g := ⟨.Name x px, iter, ifs, 0⟩) (gs := []) rfl (hs env) (closureFor_is (ok.free he R)) ok.kind ok.locals ?_
    refine wpAny_mono (hI A env (Fr ++ Fs) K φ hp ρ s a hp1 hA he I R' e1) ?_ fun _ _ x => x
    rintro val s1 ⟨K1, φ1, I1, k1, p1, v1⟩
    refine wpAny_mono (pyIter_of hA I1 v1 e2) ?_ fun _ _ x => x
    rintro r s2 ⟨it, o, rfl, I2, st2⟩
    refine wpAny_mono (comp_core (px := px) (pos := cpos) (iter := iter) hA (ok.rel env he) ok.kind' ok.nd ok.names (by rw [he]; exact ok.cap) ok.own hT hE I2 st2 (R'.mono (fun _ h => h) k1 p1) e3 hlen) ?_ fun _ _ x => x
    intro acc s3 h3
    refine wpAny_mono h3 ?_ fun _ _ x => x
    intro cenv s4 h4
    refine codeAny_mono h4 ?_
    rintro r s5 ⟨rfl, K', φ', oL, es, ep, I5, k5, p5, v5, g1, g2, g3⟩
    have M5 : StM c ((cenv.locals, oL) :: Fs) K' φ' _ env ρ s5 := ⟨Fr, I5.perm List.perm_middle.symm, F, R.mono (fun _ h => h) (k1.trans k5) (p1.trans p5)⟩
    subst he
    refine wpAny_assign_Name (wpAny_mono (M5.store hy hk v5) ?_ fun _ _ x => x)
    rintro _ s6 M6
    obtain ⟨Fr6, J6, F6, R6⟩ := M6.own
    refine ⟨nsFind es, ⟨oL, es, ep, (J6.fs _ (.head _)).1, g1, g2, fun _ => rfl⟩, fun h' hs' => ?_⟩
    exact wpAny_pure (wpAny_pure ⟨K', φ', ⟨Fr6, J6.drop s6.toks hs'.extBut, F6, R6⟩, k1.trans k5, p1.trans p5, .next⟩)
  · cases ev
end
end Mine
end
section
open PySem PySem.W PyProof.Rows
set_option Elab.async false
set_option linter.unusedVariables false
namespace Mine

noncomputable def asInts : List V → Option (List Int)
  | [] => some []
  | .int i :: r => (asInts r).map (i :: ·)
  | _ :: _ => none
theorem asInts_eq : ∀ {xs : List V} {ns : List Int}, asInts xs = some ns → xs = ns.map .int
  | [], ns, h => by cases h; rfl
  | x :: r, ns, h => by
    cases x <;> simp only [asInts] at h <;> try cases h
    obtain ⟨ms, h1, h2⟩ := Option.map_eq_some_iff.mp h
    subst h2
    rw [List.map_cons, asInts_eq h1]
section
variable {c : Cx} {n : Nat} {sc : Scope} {Fs : List (Addr × Obj)} {K K' : View} {φ φ' : List Addr} {hp : Hp} {env : Env} {ρ : Loc} {s : Shared} {A : Around}

/-- the items of a list, one that may change or not -/
noncomputable def lstOf (hp : Hp) : V → Option (List V)
  | .lst xs => some xs
  | .ref m => match hp[m]? with
    | some (.list xs) => some xs
    | some (.acc xs) => some xs
    | _ => none
  | _ => none
theorem lst_at {v : V} {x : Value} {xs : List V} (I : Inv c Fs K φ hp s) (hv : VR c K φ v x) (h : lstOf hp v = some xs) : ∃ l o items nn, x = .ref l ∧ s.heap.get? l = some o ∧ o.cls = .type "list" ∧ o.data = .seq items nn ∧ VsR c K φ xs items.toList := by
  cases v <;> simp only [lstOf] at h <;> try cases h
  · cases hv with
    | lst h1 h2 h3 h4 h5 => exact ⟨_, _, _, _, rfl, I.keep _ _ h1, h2, h3, VsR.of_arr h4 h5⟩
  · cases hv with
    | ref h1 =>
      split at h
      · rename_i ys hm
        cases h
        obtain ⟨hk, ob, items, nn, g1, g2, g3, g4⟩ := I.obj _ _ _ h1 hm
        exact ⟨_, ob, items, nn, rfl, g1, g2, g3, g4⟩
      · rename_i ys hm
        cases h
        obtain ⟨hk, items, nn, g1, g4⟩ := I.obj _ _ _ h1 hm
        exact ⟨_, _, items, nn, rfl, g1, rfl, rfl, g4⟩
      · cases h

theorem ints_list {ns : List Int} : ∀ {ys : List Value}, VsR c K φ (ns.map .int) ys → ∃ l : List (Int × Tok), ys = l.map (fun p => .int p.1 p.2) ∧ l.map (·.1) = ns := by
  induction ns with
  | nil => intro ys h; exact ⟨[], by rw [h.nil_inv]; rfl, rfl⟩
  | cons n r ih =>
    intro ys h
    obtain ⟨y, ys', rfl, h1, h2⟩ := VsR.cons_inv (x := .int n) (xs := r.map .int) h
    obtain ⟨l, rfl, h3⟩ := ih h2
    cases h1 with
    | int _ t => exact ⟨(n, t) :: l, rfl, by rw [List.map_cons, h3]⟩
theorem ints_arr {ns : List Int} {items : Array Value} (h : VsR c K φ (ns.map .int) items.toList) : ∃ xs : Array (Int × Tok), items = intItems xs ∧ xs.toList.map (·.1) = ns := by
  obtain ⟨l, h1, h2⟩ := ints_list h
  refine ⟨l.toArray, ?_, by simpa using h2⟩
  apply Array.toList_inj.mp
  rw [h1]; simp [intItems]
theorem ints_are {ns : List Int} {ys : List Value} (h : VsR c K φ (ns.map .int) ys) : IntsAre ys ns := by
  obtain ⟨l, rfl, rfl⟩ := ints_list h
  clear h
  induction l with
  | nil => exact .nil
  | cons p r ih => exact .cons _ _ ih
theorem are_ints {ns : List Int} {ys : List Value} (h : IntsAre ys ns) : VsR c K φ (ns.map .int) ys := by
  induction h with
  | nil => exact .nil
  | cons n t _ ih => exact VsR.cons (.int n t) ih

/-! built-ins -/
noncomputable def one (f : V → Hp → Option (V × Hp)) : BF := fun vs hp => match vs with
  | [v] => f v hp
  | _ => none
noncomputable def two (f : V → V → Hp → Option (V × Hp)) : BF := fun vs hp => match vs with
  | [v, w] => f v w hp
  | _ => none
theorem BS.one {fv : Value} {f : V → Hp → Option (V × Hp)} (h : ∀ (A : Around) Fs K φ hp s a x v hp', AOk n A → Inv c Fs K φ hp s → VR c K φ a x → f a hp = some (v, hp') → wpAny c.M A (call fv [x]) (Post c Fs K φ hp' v) NoE s) : BS c n fv (one f) := by
  intro A Fs K φ hp s vs vals v hp' hA I hv hf
  unfold Mine.one at hf
  split at hf
  · obtain ⟨y, ys, rfl, h1, h2⟩ := hv.cons_inv
    rw [h2.nil_inv]
    exact h A Fs K φ hp s _ y v hp' hA I h1 hf
  · cases hf
theorem BS.two {fv : Value} {f : V → V → Hp → Option (V × Hp)} (h : ∀ (A : Around) Fs K φ hp s a b x y v hp', AOk n A → Inv c Fs K φ hp s → VR c K φ a x → VR c K φ b y → f a b hp = some (v, hp') → wpAny c.M A (call fv [x, y]) (Post c Fs K φ hp' v) NoE s) : BS c n fv (two f) := by
  intro A Fs K φ hp s vs vals v hp' hA I hv hf
  unfold Mine.two at hf
  split at hf
  · obtain ⟨y, ys, rfl, h1, h2⟩ := hv.cons_inv
    obtain ⟨z, zs, rfl, h3, h4⟩ := h2.cons_inv
    rw [h4.nil_inv]
    exact h A Fs K φ hp s _ _ y z v hp' hA I h1 h3 hf
  · cases hf

noncomputable def bLen : BF := one fun v hp => match v with
  | .tup xs => if xs.length ≤ lim then some (.int xs.length, hp) else none
  | v => (lstOf hp v).bind fun xs => if xs.length ≤ lim then some (.int xs.length, hp) else none
theorem BS.len : BS c n (.builtin "len") bLen := .one fun A Fs K φ hp s a x v hp' hA I ha hf => by
  have hlim : lim = 1000000 := rfl
  have listCase : (lstOf hp a).bind (fun xs => if xs.length ≤ lim then some (V.int xs.length, hp) else none) = some (v, hp') → wpAny c.M A (call (.builtin "len") [x]) (Post c Fs K φ hp' v) NoE s := fun hf => by
    obtain ⟨xs, h1, h2⟩ := Option.bind_eq_some_iff.mp hf
    obtain ⟨l, o, items, nn, rfl, g1, g2, g3, g4⟩ := lst_at I ha h1
    split at h2
    · rename_i hl
      cases h2
      have hsz : items.size = xs.length := by have := g4.1; simpa using this
      refine Calls.call_len_list ⟨o, g1, g2, nn, g3⟩ (by omega) ?_
      rw [hsz]
      exact Post.of (I.toks _) (.int _ _)
    · cases h2
  cases a <;> try exact listCase hf
  dsimp only at hf
  split at hf
  · rename_i hl
    cases hf
    cases ha with
    | tup h1 h2 h3 h4 h5 =>
      refine PyProof.Rows.len_tuple ⟨_, I.keep _ _ h1, h2, _, h3⟩ (by omega) ?_
      rw [h4]
      exact Post.of (I.toks _) (.int _ _)
  · cases hf

noncomputable def bAbs : BF := one fun v hp => match v with
  | .int i => some (.int i.natAbs, hp)
  | _ => none
theorem BS.abs : BS c n (.builtin "abs") bAbs := .one fun A Fs K φ hp s a x v hp' hA I ha hf => by
  obtain ⟨i, rfl⟩ : ∃ z, a = .int z := by cases a <;> first | exact ⟨_, rfl⟩ | exact (no hf rfl).elim
  cases hf
  cases ha
  refine call_abs_int fun u tk => ?_
  have : (if i < 0 then -i else i) = (i.natAbs : Int) := by split <;> omega
  rw [this]
  exact Post.of (I.toks _) (.int _ _)
noncomputable def bInt : BF := one fun v hp => match v with
  | .int i => some (.int i, hp)
  | _ => none
theorem BS.int : BS c n (.type "int") bInt := .one fun A Fs K φ hp s a x v hp' hA I ha hf => by
  obtain ⟨i, rfl⟩ : ∃ z, a = .int z := by cases a <;> first | exact ⟨_, rfl⟩ | exact (no hf rfl).elim
  cases hf
  cases ha
  exact call_int_int (Post.of I (.int _ _))

noncomputable def bRange : BF := fun vs hp => match vs with
  | [.int b] => some (.rng 0 b 1, hp)
  | [.int a, .int b] => some (.rng a b 1, hp)
  | [.int a, .int b, .int d] => if d ≠ 0 ∧ d.natAbs < 1073741824 then some (.rng a b d, hp) else none
  | _ => none
theorem BS.range : BS c n (.type "range") bRange := by
  intro A Fs K φ hp s vs vals v hp' hA I hv hf
  unfold bRange at hf
  split at hf
  · cases hf
    obtain ⟨y, ys, rfl, h1, h2⟩ := hv.cons_inv
    rw [h2.nil_inv]
    cases h1
    refine call_range_1 ⟨_, φ, I.imm _ _, I.imm_le _, List.prefix_refl _, .rng (View.add_self ..)⟩
  · cases hf
    obtain ⟨y, ys, rfl, h1, h2⟩ := hv.cons_inv
    obtain ⟨z, zs, rfl, h3, h4⟩ := h2.cons_inv
    rw [h4.nil_inv]
    cases h1; cases h3
    refine call_range_2 ⟨_, φ, I.imm _ _, I.imm_le _, List.prefix_refl _, .rng (View.add_self ..)⟩
  · split at hf
    · rename_i hq
      cases hf
      obtain ⟨y, ys, rfl, h1, h2⟩ := hv.cons_inv
      obtain ⟨z, zs, rfl, h3, h4⟩ := h2.cons_inv
      obtain ⟨u, us, rfl, h5, h6⟩ := h4.cons_inv
      rw [h6.nil_inv]
      cases h1; cases h3; cases h5
      refine call_range_3 hq.1 ⟨_, φ, I.imm _ _, I.imm_le _, List.prefix_refl _, .rng (View.add_self ..)⟩ (.inl (PyProof.noPylong_small hq.2))
    · cases hf
  · cases hf

noncomputable def bList : BF := one fun v hp => (lstOf hp v).bind fun xs => if xs.length ≤ lim then some (.lst xs, hp) else none
theorem BS.list : BS c n (.type "list") bList := .one fun A Fs K φ hp s a x v hp' hA I ha hf => by
  obtain ⟨xs, h1, h2⟩ := Option.bind_eq_some_iff.mp hf
  obtain ⟨l, o, items, nn, rfl, g1, g2, g3, g4⟩ := lst_at I ha h1
  split at h2
  · rename_i hl
    cases h2
    have hsz : items.size = xs.length := by have := g4.1; simpa using this
    refine call_list_seq l (.inl rfl) g1 g2 g3 (fun h' c' hk hn => ?_) (lim_le (by rw [hsz]; exact hl))
    have I1 := I.grow (h' := h') (t := s.toks) hk
    have hK := I.K_size
    -- the new list is kept
    have I2 : Inv c ((s.heap.objs.size, { cls := .type "list", dict := none, data := .seq items c', slots := #[] }) :: Fs) K φ hp { s with heap := h', toks := s.toks } := by
      refine I1.add (Fr := [(s.heap.objs.size, _)]) (fun p hp => ?_) (by simp)
      rw [List.mem_singleton.mp hp]
      refine ⟨hn, hK, I.size_phi, fun hm => ?_⟩
      obtain ⟨q, hq, e⟩ := List.mem_map.mp hm
      exact Nat.lt_irrefl _ (e ▸ Heap.lt_size (I.fs q hq).1)
    obtain ⟨I3, k3⟩ := I2.own_imm
    exact ⟨_, φ, I3, k3, List.prefix_refl _, .mk_lst (View.add_self ..) rfl rfl (g4.mono k3 (List.prefix_refl _))⟩
  · cases h2
noncomputable def bTuple : BF := one fun v hp => match v with
  | .tup xs => some (.tup xs, hp)
  | _ => none
theorem BS.tuple : BS c n (.type "tuple") bTuple := .one fun A Fs K φ hp s a x v hp' hA I ha hf => by
  obtain ⟨xs, rfl⟩ : ∃ z, a = .tup z := by cases a <;> first | exact ⟨_, rfl⟩ | exact (no hf rfl).elim
  cases hf
  cases ha with
  | tup h1 h2 h3 h4 h5 => exact call_tuple_same ⟨_, I.keep _ _ h1, h2, _, h3⟩ (Post.of I (.tup h1 h2 h3 h4 h5))

noncomputable def bMax : BF := one fun v hp => (lstOf hp v).bind fun xs => (asInts xs).bind fun ns => ns.max?.map fun m => (.int m, hp)
theorem BS.max : BS c n (.builtin "max") bMax := .one fun A Fs K φ hp s a x v hp' hA I ha hf => by
  obtain ⟨xs, h1, hf⟩ := Option.bind_eq_some_iff.mp hf
  obtain ⟨ns, h2, hf⟩ := Option.bind_eq_some_iff.mp hf
  obtain ⟨m, h3, hf⟩ := Option.map_eq_some_iff.mp hf
  cases hf
  obtain ⟨l, o, items, nn, rfl, g1, g2, g3, g4⟩ := lst_at I ha h1
  rw [asInts_eq h2] at g4
  obtain ⟨ys, rfl, hy⟩ := ints_arr g4
  have hne : 0 < ys.size := by
    have hl : ns ≠ [] := fun e => by rw [e] at h3; cases h3
    have := congrArg List.length hy
    simp at this
    have h0 := List.length_pos_iff.mpr hl
    omega
  refine max_intList hA.1 ⟨o, g1, g2, nn, g3⟩ hne fun v h' tk hv hk => ?_
  obtain ⟨t, rfl⟩ := intItems_at hv
  obtain ⟨b1, b2⟩ := argBest_gt (numAt ys) (ys.size - 1)
  generalize argBest (fun i j => decide (numAt ys i > numAt ys j)) (ys.size - 1) = j at hv b1 b2 ⊢
  have num : ∀ i, i < ys.size → ns[i]? = some (numAt ys i) := fun i hi => by
    rw [← hy, List.getElem?_map]
    simp [numAt, hi]
  have hm : numAt ys j = m := by
    obtain ⟨m1, m2⟩ := List.max?_eq_some_iff.mp h3
    have a1 := m2 _ (List.mem_of_getElem? (num j (by omega)))
    obtain ⟨i, hi⟩ := List.getElem?_of_mem m1
    have hil : i < ys.size := by
      have := (List.getElem?_eq_some_iff.mp hi).1
      have e := congrArg List.length hy
      simp at e; omega
    rw [num i hil] at hi
    cases hi
    have := b2 i (by omega)
    omega
  rw [hm]
  exact Post.of (I.grow hk) (.int _ _)
noncomputable def bMax2 : BF := two fun a b hp => match a, b with
  | .int i, .int j => some (.int (if j > i then j else i), hp)
  | _, _ => none
theorem BS.max2 : BS c n (.builtin "max") bMax2 := .two fun A Fs K φ hp s a b x y v hp' hA I ha hb hf => by
  obtain ⟨i, rfl⟩ : ∃ z, a = .int z := by cases a <;> first | exact ⟨_, rfl⟩ | exact (no hf rfl).elim
  obtain ⟨j, rfl⟩ : ∃ z, b = .int z := by cases b <;> first | exact ⟨_, rfl⟩ | exact (no hf rfl).elim
  cases hf
  cases ha; cases hb
  refine max_two_ints hA.1 fun h' tk hk => ?_
  split <;> exact Post.of (I.grow hk) (.int _ _)
noncomputable def bMin2 : BF := two fun a b hp => match a, b with
  | .int i, .int j => some (.int (if j < i then j else i), hp)
  | _, _ => none
theorem BS.min2 : BS c n (.builtin "min") bMin2 := .two fun A Fs K φ hp s a b x y v hp' hA I ha hb hf => by
  obtain ⟨i, rfl⟩ : ∃ z, a = .int z := by cases a <;> first | exact ⟨_, rfl⟩ | exact (no hf rfl).elim
  obtain ⟨j, rfl⟩ : ∃ z, b = .int z := by cases b <;> first | exact ⟨_, rfl⟩ | exact (no hf rfl).elim
  cases hf
  cases ha; cases hb
  refine min_two_ints hA.1 fun h' tk hk => ?_
  split <;> exact Post.of (I.grow hk) (.int _ _)

theorem preSum_take (ys : Array (Int × Tok)) : ∀ j, j ≤ ys.size → preSum (numAt ys) j = ((ys.toList.map (·.1)).take j).sum
  | 0, _ => rfl
  | j + 1, h => by
    rw [preSum, preSum_take ys j (by omega), List.take_add_one, List.sum_append]
    congr 1
    have hj : j < ys.size := by omega
    simp [numAt, hj]
noncomputable def bSum : BF := one fun v hp => (lstOf hp v).bind fun xs => (asInts xs).bind fun ns => if (∀ i ∈ ns, i.natAbs ≤ 2 ^ 40) ∧ ns.length ≤ 4096 then some (.int ns.sum, hp) else none
theorem sum_bound : ∀ (l : List Int), (∀ i ∈ l, i.natAbs ≤ 2 ^ 40) → l.sum.natAbs ≤ 2 ^ 40 * l.length
  | [], _ => by simp
  | x :: r, h => by
    have h1 := sum_bound r fun i hi => h i (.tail _ hi)
    have h2 := h x (.head _)
    rw [List.sum_cons, List.length_cons]
    omega
theorem BS.sum : BS c n (.builtin "sum") bSum := .one fun A Fs K φ hp s a x v hp' hA I ha hf => by
  obtain ⟨xs, h1, hf⟩ := Option.bind_eq_some_iff.mp hf
  obtain ⟨ns, h2, hf⟩ := Option.bind_eq_some_iff.mp hf
  split at hf
  · rename_i hq
    cases hf
    obtain ⟨l, o, items, nn, rfl, g1, g2, g3, g4⟩ := lst_at I ha h1
    rw [asInts_eq h2] at g4
    obtain ⟨ys, rfl, hy⟩ := ints_arr g4
    have hlen : ys.size = ns.length := by have := congrArg List.length hy; simpa using this
    refine sum_intList hA.1 ⟨o, g1, g2, nn, g3⟩ (fun j hj => ?_) fun h' tk t' hk => ?_
    · have hn : numAt ys j ∈ ns := by
        rw [← hy]
        have : (ys.toList.map (·.1))[j]? = some (numAt ys j) := by rw [List.getElem?_map]; simp [numAt, hj]
        exact List.mem_of_getElem? this
      have b1 := hq.1 _ hn
      have b2 : (preSum (numAt ys) (j + 1)).natAbs ≤ 2 ^ 40 * 4096 := by
        rw [preSum_take ys (j + 1) hj, hy]
        have := sum_bound (ns.take (j + 1)) fun i hi => hq.1 i (List.mem_of_mem_take hi)
        have hl : (ns.take (j + 1)).length ≤ 4096 := by rw [List.length_take]; omega
        have : 2 ^ 40 * (ns.take (j + 1)).length ≤ 2 ^ 40 * 4096 := Nat.mul_le_mul_left _ hl
        omega
      unfold InLong
      refine ⟨⟨?_, ?_⟩, ⟨?_, ?_⟩⟩ <;> omega
    · rw [preSum_take ys ys.size (Nat.le_refl _), hy, hlen, List.take_length]
      exact Post.of (I.grow hk) (.int _ _)
  · cases hf
end
end Mine
end
section
open PySem PySem.W PyProof.Rows PyProof.V PySem.Spec PySem.SeqAt
set_option Elab.async false
set_option linter.unusedVariables false
namespace Mine

section
variable {c : Cx} {n : Nat} {sc : Scope} {Fs : List (Addr × Obj)} {K K' : View} {φ φ' : List Addr} {hp : Hp} {env : Env} {ρ : Loc} {s : Shared} {A : Around}

noncomputable def oAdd : V → V → Hp → Option (V × Hp)
  | .int a, .int b, hp => some (.int (a + b), hp)
  | a, b, hp => (lstOf hp a).bind fun xs => (lstOf hp b).bind fun ys => if xs.length + ys.length ≤ lim then some (.lst (xs ++ ys), hp) else none
theorem OpS.add : OpS c n (binaryOp .Add) oAdd := by
  intro A Fs K φ hp s a b x y v hp' hA I ha hb hf
  have lists : ((lstOf hp a).bind fun xs => (lstOf hp b).bind fun ys => if xs.length + ys.length ≤ lim then some (V.lst (xs ++ ys), hp) else none) = some (v, hp') → wpAny c.M A (binaryOp .Add x y) (Post c Fs K φ hp' v) NoE s := fun hf => by
    obtain ⟨xs, h1, hf⟩ := Option.bind_eq_some_iff.mp hf
    obtain ⟨ys, h2, hf⟩ := Option.bind_eq_some_iff.mp hf
    split at hf
    · rename_i hl
      cases hf
      obtain ⟨l, o, items, nn, rfl, g1, g2, g3, g4⟩ := lst_at I ha h1
      obtain ⟨l', o', items', nn', rfl, g1', g2', g3', g4'⟩ := lst_at I hb h2
      obtain ⟨cls, dd, data, sl⟩ := o
      obtain ⟨cls', dd', data', sl'⟩ := o'
      simp only at g2 g3 g2' g3'
      subst g2 g3 g2' g3'
      have hz1 : items.size = xs.length := by have := g4.1; simpa using this
      have hz2 : items'.size = ys.length := by have := g4'.1; simpa using this
      refine concat_meets ⟨_, g1, rfl⟩ ⟨_, g1', rfl⟩ noFill_list_add seq_list_add PySem.F.slot_list_add PySem.F.entry_list_add (PySem.F.args_list_add_2 _ _)
        (list_addW l l' items items' nn nn' dd dd' sl sl' (lim_le (by rw [hz1, hz2]; exact hl))) ⟨g1, g1', ?_⟩
      refine ⟨_, φ, I.imm _ s.toks, I.imm_le _, List.prefix_refl _, .mk_lst (View.add_self ..) rfl rfl ?_⟩
      rw [Array.toList_append]
      exact (g4.append g4').mono (I.imm_le _) (List.prefix_refl _)
    · cases hf
  cases a <;> try exact lists hf
  cases b <;> try exact lists hf
  cases ha; cases hb
  cases hf
  exact P.add_int (Post.of (I.toks _) (.int _ _))

theorem repFold (y : Value) (k : Nat) : List.foldl (fun x1 x2 => x1 ++ x2) (#[] : Array Value) (List.replicate (if (#[y] : Array Value).isEmpty = true then 0 else k) #[y]) = (List.replicate k y).toArray := by
  rw [if_neg (by simp)]
  have gen : ∀ (k : Nat) (a : Array Value), List.foldl (fun x1 x2 => x1 ++ x2) a (List.replicate k #[y]) = a ++ (List.replicate k y).toArray := by
    intro k
    induction k with
    | zero => intro a; simp
    | succ k ih =>
      intro a
      rw [List.replicate_succ, List.foldl_cons, ih, List.replicate_succ]
      apply Array.toList_inj.mp
      simp
  rw [gen]; simp
/-- [e] * r, a list made whole -/
noncomputable def repL (f g : EF) : Loc → Hp → Option (List V × Hp) := fun ρ hp => (f ρ hp).bind fun r => (g ρ r.2).bind fun q => match q.1 with
  | .int k => if 0 ≤ k ∧ k ≤ lim then some (List.replicate k.toNat r.1, q.2) else none
  | _ => none
theorem rep_w {e r : Expr} {p pos : Pos} {f g : EF} {hp' : Hp} {vs : List V} (he0 : ∀ rest env, starEach (e :: rest) env = (false, PySem.eval e env) :: starEach rest env) (he : SE c n sc e f) (hr : SE c n sc r g)
    (hA : AOk n A) (hse : env.scope = sc) (I : Inv c Fs K φ hp s) (R : EnvR c Fs K φ env ρ) (hf : repL f g ρ hp = some (vs, hp')) :
    wpAny c.M A (PySem.eval (.BinOp (.List [e] p) .Mult r pos) env) (fun val s' => ∃ K' φ' vals s1, Inv c Fs K' φ' hp' s1 ∧ View.le K K' ∧ φ <+: φ' ∧ VsR c K' φ' vs vals ∧ val = .ref s1.heap.objs.size ∧ s' = { s1 with heap := s1.heap.push { cls := .type "list", data := .seq vals.toArray } }) NoE s := by
  obtain ⟨⟨a, hp1⟩, e1, hf⟩ := Option.bind_eq_some_iff.mp hf
  obtain ⟨⟨b, hp2⟩, e2, hf⟩ := Option.bind_eq_some_iff.mp hf
  dsimp only at hf
  split at hf
  · rename_i k
    split at hf
    · rename_i hk
      cases hf
      have hes := SEs.cons he0 he (SEs.nil (c := c) (n := n) (sc := sc))
      have hev : evL [f] ρ hp = some ([a], hp1) := by simp [evL, e1]
      refine wpAny_BinOp (List_w (wpAny_mono (hes.2 A env Fs K φ hp ρ s _ _ p hA hse I R hev) ?_ fun _ _ x => x))
      rintro vals s1 ⟨K1, φ1, I1, k1, p1, v1⟩
      obtain ⟨y, ys, rfl, h1, h2⟩ := v1.cons_inv
      rw [h2.nil_inv]
      refine wpAny_newList ?_ (by simp [sizeLine])
      have I2 := I1.own { cls := .type "list", data := .seq #[y] } s1.toks
      have R2 := R.mono (Fs' := (s1.heap.objs.size, ({ cls := .type "list", data := .seq #[y] } : Obj)) :: Fs) (fun _ h => .tail _ h) k1 p1
      refine wpAny_mono (hr A env _ K1 φ1 hp1 ρ _ _ _ hA hse I2 R2 e2) ?_ fun _ _ x => x
      rintro z s2 ⟨K2, φ2, I3, k3, p3, v3⟩
      cases v3
      have hl := (I3.fs _ (.head _)).1
      have hlim : lim = 1000000 := rfl
      refine wpAny_binaryOp_repeat_ref (T := "list") (U := "int") (by decide) ⟨_, hl, rfl⟩ (fun s' => typeIs_int s' k _) noFill_list_mul F.fills_int_mul F.slot_int_rmul repeat_list F.slot_int_index.lookup
        (call_meets F.slot_int_rmul (typeIs_int s2 k _) F.entry_int_rmul (F.args_int_rmul_2 _ _) (int___rmul___int_list k _ _ #[y] 0)
          ⟨hl, rfl, ⟨_, hl, rfl⟩, call_meets F.slot_list_mul ⟨_, hl, rfl⟩ F.entry_list_mul (F.args_list_mul_2 _ _)
            (AutoListH.list___mul___list_int_3 _ #[y] 0 k _ (by simp [Builtin.List.listFitsIndex]; omega) (by simp; omega) (by simp [Builtin.List.listTooLong, sizeLine]; omega))
            ⟨hl, ?_⟩⟩)
      refine ⟨K2, φ2, List.replicate k.toNat y, s2, I3.pop, k1.trans k3, p1.trans p3, VsR.replicate (h1.mono k3 p3) _, rfl, ?_⟩
      rw [repFold]
    · cases hf
  · cases hf
noncomputable def eRep (f g : EF) : EF := fun ρ hp => (repL f g ρ hp).map fun r => (.lst r.1, r.2)
noncomputable def eRepM (f g : EF) : EF := fun ρ hp => (repL f g ρ hp).map fun r => (.ref r.2.length, r.2 ++ [.list r.1])
theorem SE.rep {e r : Expr} {p pos : Pos} {f g : EF} (he0 : ∀ rest env, starEach (e :: rest) env = (false, PySem.eval e env) :: starEach rest env) (he : SE c n sc e f) (hr : SE c n sc r g) : SE c n sc (.BinOp (.List [e] p) .Mult r pos) (eRep f g) := by
  intro A env Fs K φ hp ρ s v hp' hA hse I R hf
  obtain ⟨⟨vs, hp1⟩, h1, h2⟩ := Option.map_eq_some_iff.mp hf
  cases h2
  refine wpAny_mono (rep_w he0 he hr hA hse I R h1) ?_ fun _ _ x => x
  rintro val s' ⟨K1, φ1, vals, s1, I1, k1, p1, v1, rfl, rfl⟩
  exact ⟨_, φ1, I1.imm _ s1.toks, k1.trans (I1.imm_le _), p1, .mk_lst (View.add_self ..) rfl rfl (v1.mono (I1.imm_le _) (List.prefix_refl _))⟩
theorem SE.repM {e r : Expr} {p pos : Pos} {f g : EF} (he0 : ∀ rest env, starEach (e :: rest) env = (false, PySem.eval e env) :: starEach rest env) (he : SE c n sc e f) (hr : SE c n sc r g) : SE c n sc (.BinOp (.List [e] p) .Mult r pos) (eRepM f g) := by
  intro A env Fs K φ hp ρ s v hp' hA hse I R hf
  obtain ⟨⟨vs, hp1⟩, h1, h2⟩ := Option.map_eq_some_iff.mp hf
  cases h2
  refine wpAny_mono (rep_w he0 he hr hA hse I R h1) ?_ fun _ _ x => x
  rintro val s' ⟨K1, φ1, vals, s1, I1, k1, p1, v1, rfl, rfl⟩
  exact ⟨K1, _, I1.newList v1 s1.toks, k1, p1.trans (List.prefix_append _ _), ref_new (vs := vs) I1.len _⟩

/-! comparisons of sequences of ints -/
noncomputable def seqInts (hp : Hp) : V → Option (Bool × List Int)
  | .tup xs => (asInts xs).map fun ns => (true, ns)
  | v => (lstOf hp v).bind fun xs => (asInts xs).map fun ns => (false, ns)
noncomputable def oNeSeq (a b : V) (hp : Hp) : Option Bool := (seqInts hp a).bind fun p => (seqInts hp b).bind fun q => if p.1 = q.1 then some (!decide (p.2 = q.2)) else none
theorem reads_of_tup {h : Heap} {a : Addr} {o : Obj} {items : Array Value} {nn : Nat} {ns : List Int} (h1 : h.get? a = some o) (h2 : o.cls = .type "tuple") (h3 : o.data = .seq items nn) (hi : IntsAre items.toList ns) : Reads h (.ref a) (.tuple (ns.map PyData.int)) [] :=
  Reads.tuple h1 h2 h3 (W.readsAll_of_ints hi)
theorem shaped_tup (ns : List Int) : shaped (.tuple (ns.map PyData.int)) = true := by
  have h1 := W.depthAll_ints ns
  have h2 : PyData.depth (.tuple (ns.map PyData.int)) ≤ 64 := by simp only [PyData.depth]; omega
  show (PyData.canLay0 (.tuple (ns.map PyData.int)) && decide (PyData.depth (.tuple (ns.map PyData.int)) ≤ 64)) = true
  rw [Bool.and_eq_true]
  exact ⟨by simp only [PyData.canLay0]; exact W.canLayAll0_ints ns, decide_eq_true h2⟩
theorem seq_at {v : V} {x : Value} {b : Bool} {ns : List Int} (I : Inv c Fs K φ hp s) (hv : VR c K φ v x) (h : seqInts hp v = some (b, ns)) :
    ∃ as, Reads s.heap x (if b then .tuple (ns.map PyData.int) else .list (ns.map PyData.int)) as := by
  have lists : ((lstOf hp v).bind fun xs => (asInts xs).map fun ns => (false, ns)) = some (b, ns) → ∃ as, Reads s.heap x (if b then .tuple (ns.map PyData.int) else .list (ns.map PyData.int)) as := fun h => by
    obtain ⟨xs, h1, h⟩ := Option.bind_eq_some_iff.mp h
    obtain ⟨ms, h2, h3⟩ := Option.map_eq_some_iff.mp h
    cases h3
    obtain ⟨l, o, items, nn, rfl, g1, g2, g3, g4⟩ := lst_at I hv h1
    rw [asInts_eq h2] at g4
    exact ⟨_, W.reads_of_ints (vs := items.toList) ⟨o, g1, g2, nn, by rw [Array.toArray_toList]; exact g3⟩ (ints_are g4)⟩
  cases v <;> try exact lists h
  simp only [seqInts] at h
  obtain ⟨ms, h2, h3⟩ := Option.map_eq_some_iff.mp h
  cases h3
  cases hv with
  | tup g1 g2 g3 g4 g5 =>
    have := VsR.of_arr g4 g5
    rw [asInts_eq h2] at this
    exact ⟨_, reads_of_tup (I.keep _ _ g1) g2 g3 (ints_are this)⟩
theorem CmpS.neSeq : CmpS c n .NotEq oNeSeq := by
  intro A Fs K φ hp s a b x y v hA I ha hb hf
  obtain ⟨⟨t, ns⟩, h1, hf⟩ := Option.bind_eq_some_iff.mp hf
  obtain ⟨⟨u, ms⟩, h2, hf⟩ := Option.bind_eq_some_iff.mp hf
  split at hf
  · rename_i he
    cases hf
    dsimp only at he
    subst he
    obtain ⟨as, r1⟩ := seq_at I ha h1
    obtain ⟨bs, r2⟩ := seq_at I hb h2
    cases t with
    | true =>
      refine ne_dataH_same r1 r2 (shaped_tup ns) (shaped_tup ms) hA.units (by simp only [noMix, if_true]; exact W.noMix_ints ns ms) ?_
      simp only [if_true, PySem.Spec.same, W.same_ints]
      exact ⟨trivial, I⟩
    | false =>
      refine ne_dataH_same r1 r2 (W.shaped_ints ns) (W.shaped_ints ms) hA.units (by simp only [noMix, Bool.false_eq_true, if_false]; exact W.noMix_ints ns ms) ?_
      simp only [Bool.false_eq_true, if_false, PySem.Spec.same, W.same_ints]
      exact ⟨trivial, I⟩
  · cases hf

noncomputable def isNone : V → Bool
  | .none => true
  | _ => false
noncomputable def oIsNot : V → V → Hp → Option Bool
  | a, .none, _ => some (!isNone a)
  | _, _, _ => none
theorem CmpS.isNot : CmpS c n .IsNot oIsNot := by
  intro A Fs K φ hp s a b x y v hA I ha hb hf
  obtain rfl : b = .none := by cases b <;> first | rfl | exact (no hf rfl).elim
  cases hf
  cases hb
  refine isnot_none_gen ?_
  cases ha <;> exact ⟨rfl, I⟩
noncomputable def oEqByt : V → V → Hp → Option Bool
  | .byt a, .byt b, _ => some (decide (a = b))
  | _, _, _ => none

/-- xs[:k] -/
noncomputable def eTake (f : EF) (k : Nat) : EF := fun ρ hp => (f ρ hp).bind fun r => (lstOf r.2 r.1).bind fun xs => if xs.length ≤ lim then some (.lst (xs.take k), r.2) else none
theorem SE.take {value : Expr} {k : Nat} {kk : Nat} {p p2 pos : Pos} {f : EF} (hv : SE c n sc value f) : SE c n sc (.Subscript value (.Slice none (some (.Constant (.int k) kk p2)) none p) pos) (eTake f k) := by
  intro A env Fs K φ hp ρ s v hp' hA he I R hf
  obtain ⟨⟨a, hp1⟩, e1, hf⟩ := Option.bind_eq_some_iff.mp hf
  obtain ⟨xs, h1, hf⟩ := Option.bind_eq_some_iff.mp hf
  split at hf
  · rename_i hl
    cases hf
    refine Subscript_ (wpAny_mono (hv A env Fs K φ hp ρ s a hp1 hA he I R e1) ?_ fun _ _ x => x)
    rintro x s1 ⟨K1, φ1, I1, k1, p1, v1⟩
    refine wpAny_Slice (wpAny_pure (wpAny_Constant_int (k := kk) (pos := p2) (wpAny_pure ?_)))
    obtain ⟨l, o, items, nn, rfl, g1, g2, g3, g4⟩ := lst_at I1 v1 h1
    have hsz : items.size = xs.length := by have := g4.1; simpa using this
    have I2 := (I1.toks (s1.toks + 1)).own { cls := .type "slice", data := .fields #[.none, .int k s1.toks, .none] } (s1.toks + 1)
    have hold : ∀ b ob, s1.heap.get? b = some ob → (s1.heap.push { cls := .type "slice", data := .fields #[.none, .int k s1.toks, .none] }).get? b = some ob := fun b ob e => Heap.get?_push_of_some _ e
    have I3 := I1.grow (h' := s1.heap.push { cls := .type "slice", data := .fields #[.none, .int k s1.toks, .none] }) (t := s1.toks + 1) hold
    have hl2 : (s1.heap.push { cls := .type "slice", data := .fields #[.none, .int k s1.toks, .none] }).IsList l items := ⟨o, hold _ _ g1, g2, nn, g3⟩
    refine tail_any (T := "list") (id := "list.__getitem__") ⟨o, hold _ _ g1, g2⟩ slot_list_getitem.lookup ?_ (ops := [_, _]) rfl
    refine wpAny_getItem_list_slice (lo := none) (hi := some k) (st := none) hl2 ⟨_, Heap.get?_push_size _ rfl, rfl, rfl⟩ ?_ ?_ ?_ (by simp) ?_ (lim_le (by rw [hsz]; exact hl))
    · exact .none
    · exact .int _ _
    · exact .none
    · rw [slicePick_upto']
      refine ⟨_, φ1, I3.imm _ _, k1.trans (I3.imm_le _), p1, .mk_lst (View.add_self ..) rfl rfl ?_⟩
      exact (g4.take k).mono (I3.imm_le _) (List.prefix_refl _)
  · cases hf
end
end Mine
end
section
open PySem PySem.W PyProof.Rows
set_option Elab.async false
set_option linter.unusedVariables false
namespace Mine

section
variable {c : Cx} {n : Nat} {sc : Scope} {Fs : List (Addr × Obj)} {K K' : View} {φ φ' : List Addr} {hp : Hp} {env : Env} {ρ : Loc} {s : Shared} {A : Around}

/-! fields of an object -/
noncomputable def nsPut : List (Str × V) → Str → V → List (Str × V)
  | [], x, v => [(x, v)]
  | (y, u) :: r, x, v => if x == y then (y, v) :: r else (y, u) :: nsPut r x v
theorem nsPut_lookup (x : Str) (v : V) : ∀ (fs : List (Str × V)) (y : Str), (nsPut fs x v).lookup y = if y = x then some v else fs.lookup y
  | [], y => by
    rw [nsPut, List.lookup_cons]
    by_cases h : y = x
    · subst h; simp
    · have : (y == x) = false := beq_eq_false_iff_ne.mpr h
      rw [this, if_neg h]
  | (z, u) :: r, y => by
    rw [nsPut]
    by_cases hx : x = z
    · subst hx
      simp only [beq_self_eq_true, if_true]
      rw [List.lookup_cons, List.lookup_cons]
      by_cases h : y = x
      · subst h; simp
      · have : (y == x) = false := beq_eq_false_iff_ne.mpr h
        rw [this, if_neg h]
    · have hb : (x == z) = false := beq_eq_false_iff_ne.mpr hx
      simp only [hb, Bool.false_eq_true, if_false]
      rw [List.lookup_cons, List.lookup_cons, nsPut_lookup x v r y]
      by_cases hz : y = z
      · subst hz
        simp only [beq_self_eq_true]
        rw [if_neg (fun q => hx q.symm)]
      · have : (y == z) = false := beq_eq_false_iff_ne.mpr hz
        rw [this]
theorem nsPut_len (x : Str) (v : V) : ∀ (fs : List (Str × V)), (nsPut fs x v).length = if (fs.lookup x).isSome then fs.length else fs.length + 1
  | [] => by simp [nsPut]
  | (z, u) :: r => by
    rw [nsPut, List.lookup_cons]
    by_cases hx : x = z
    · subst hx; simp
    · have hb : (x == z) = false := beq_eq_false_iff_ne.mpr hx
      simp only [hb, Bool.false_eq_true, if_false, List.length_cons, nsPut_len x v r]
      split <;> rfl

theorem putL_find? (x : Str) (h : Int) (t : Tok) (v : Value) : ∀ (es : List DictEntry) (y : Str),
    ((putL x h (.str x t) v es).find? (·.key.isStr y)).map (·.val) = if y = x then some v else (es.find? (·.key.isStr y)).map (·.val)
  | [], y => by
    by_cases hy : y = x
    · subst hy; simp [putL, Value.isStr]
    · have hb : Value.isStr (.str x t) y = false := by
        show (x == y) = false
        exact beq_eq_false_iff_ne.mpr fun q => hy q.symm
      simp [putL, hy, hb]
  | e :: r, y => by
    rw [putL]
    by_cases hx : e.key.isStr x = true
    · rw [if_pos hx]
      by_cases hy : y = x
      · subst hy; simp [hx]
      · have hb : e.key.isStr y = false := by
          cases hq : e.key.isStr y with
          | false => rfl
          | true => exact absurd (Value.isStr_inj _ _ _ hq hx) hy
        simp [hb, hy]
    · rw [if_neg hx]
      have ih := putL_find? x h t v r y
      by_cases hq : e.key.isStr y = true
      · have hy : ¬ y = x := fun q => hx (q ▸ hq)
        simp [hq, hy]
      · simp only [List.find?_cons, hq]
        exact ih
theorem putL_ref (x : Str) (h : Int) (t : Tok) (v : Value) : ∀ (es : List DictEntry), (putL x h (.str x t) v es).any (·.refKey) = es.any (·.refKey)
  | [] => rfl
  | e :: r => by
    rw [putL]
    split
    · rfl
    · rw [List.any_cons, List.any_cons, putL_ref x h t v r]
theorem putL_len (x : Str) (h : Int) (t : Tok) (v : Value) : ∀ (es : List DictEntry), (putL x h (.str x t) v es).length = if (es.find? (·.key.isStr x)).isSome then es.length else es.length + 1
  | [] => rfl
  | e :: r => by
    rw [putL, List.find?_cons]
    by_cases hx : e.key.isStr x = true
    · rw [if_pos hx, hx]; rfl
    · rw [if_neg hx]
      simp only [hx, List.length_cons, putL_len x h t v r]
      split <;> rfl

theorem NsR.keys {fs : List (Str × V)} {es : List DictEntry} (h : NsR c K φ fs es) (x : Str) : (fs.lookup x).isSome = (es.find? (·.key.isStr x)).isSome := by
  have := h x
  unfold getL at this
  split at this
  · rename_i v e
    obtain ⟨val, h1, _⟩ := this
    rw [e]
    split at h1
    · rename_i q; rw [q]; rfl
    · split at h1 <;> cases h1
  · rename_i e
    rw [e]
    split at this
    · cases this
    · rename_i q; rw [q]; rfl
theorem NsR.put {fs : List (Str × V)} {es : List DictEntry} {x : Str} {v : V} {val : Value} (H : NsR c K φ fs es) (hv : VR c K φ v val) (h : Int) (t : Tok) : NsR c K φ (nsPut fs x v) (putL x h (.str x t) val es) := by
  intro y
  rw [nsPut_lookup]
  have hf := putL_find? x h t val es y
  by_cases hy : y = x
  · subst hy
    simp only [if_true] at hf ⊢
    refine ⟨val, ?_, hv⟩
    unfold getL
    cases hq : (putL y h (.str y t) val es).find? (·.key.isStr y) with
    | none => rw [hq] at hf; cases hf
    | some e => rw [hq] at hf; simp at hf; show some (some e.val) = _; rw [hf]
  · simp only [hy, if_false] at hf ⊢
    have hH := H y
    have hg : getL y (putL x h (.str x t) val es) = getL y es := by
      unfold getL
      rw [putL_ref]
      cases hq : (putL x h (.str x t) val es).find? (·.key.isStr y) <;> cases hq' : es.find? (·.key.isStr y) <;> rw [hq, hq'] at hf <;> simp at hf <;> simp [hf]
    rw [hg]
    exact hH

theorem instAt {C d x : Nat} {dx : Addr} {o : Obj} {fs : List (Str × V)} (I : Inv c Fs K φ hp s) (h1 : K x = some o) (h2 : o.cls = .ref C) (h3 : o.dict = some dx) (h4 : o.data = .plain) (h5 : φ[d]? = some dx) (hm : hp[d]? = some (.ns fs)) :
    ∃ es nn, s.heap.get? dx = some (dictOf es nn) ∧ es.length ≤ fs.length ∧ NsR c K φ fs es ∧ K dx = none ∧ InstAt s.heap x o C (some (dictOf es nn)) := by
  obtain ⟨hk, es, nn, g1, g2, g3⟩ := I.obj _ _ _ h5 hm
  refine ⟨es, nn, g1, g2, g3, hk, I.keep _ _ h1, h2, by unfold notCls; rw [h4], ?_⟩
  rw [h3]; exact g1

noncomputable def fieldOf (C : Nat) (name : Str) (hp : Hp) : V → Option V
  | .obj C' d => if C' = C then (match hp[d]? with
    | some (.ns fs) => fs.lookup name
    | _ => none) else none
  | _ => none
noncomputable def eAttr (C : Nat) (name : Str) (f : EF) : EF := fun ρ hp => (f ρ hp).bind fun r => (fieldOf C name r.2 r.1).map fun v => (v, r.2)
theorem VR.handed {v : V} {x : Value} (h : VR c K φ v x) : handedIn x = true := by cases h <;> rfl
theorem SE.attr {value : Expr} {name : Str} {pos : Pos} {f : EF} {C : Nat} (hv : SE c n sc value f) (hbase : ∀ env whole, attributeBase value name env whole = whole)
    (hg : plainGet c.frag C name = true) (hh : hasDictIn c.frag C = true) (ha : findIn c.frag (.ref C) name = some none) : SE c n sc (.Attribute value name pos) (eAttr C name f) := by
  intro A env Fs K φ hp ρ s v hp' hA he I R hf
  obtain ⟨⟨a, hp1⟩, e1, hf⟩ := Option.bind_eq_some_iff.mp hf
  obtain ⟨u, e2, hf⟩ := Option.map_eq_some_iff.mp hf
  cases hf
  refine Attribute_any_ (wpAny_mono (hv A env Fs K φ hp ρ s a _ hA he I R e1) ?_ fun _ _ x => x) (by show (do let o ← attributeBase value name env (PySem.eval value env); standAt pos.atName; let r ← holding [o] (getAttr o name true); letTemporaryGo value o r; pure r) = _; rw [hbase])
  rintro x s1 ⟨K1, φ1, I1, k1, p1, v1⟩
  dsimp only at e2
  obtain ⟨C1, C1', rfl⟩ : ∃ z z', a = .obj z z' := by cases a <;> first | exact ⟨_, _, rfl⟩ | exact (no e2 rfl).elim
  dsimp only [fieldOf] at e2
  split at e2
  · rename_i hC
    subst hC
    split at e2
    · rename_i fs hm
      cases v1 with
      | obj h1 h2 h3 h4 h5 =>
        obtain ⟨es, nn, g1, g2, g3, g4, J⟩ := instAt I1 h1 h2 h3 h4 h5 hm
        have := g3 name
        rw [e2] at this
        obtain ⟨val, q1, q2⟩ := this
        have X1 : c.frag.In s1.heap := c.X.keeps fun b o e => I1.old e
        exact get_value X1 J (plainGet_of hg).1 (findObj_own hh ha rfl (by show lookIn name (dictOf es nn) = _; rw [lookIn_dict]; exact q1)) q2.handed ⟨K1, φ1, I1.toks _, k1, p1, q2⟩
    · cases e2
  · cases e2

/-- a field is stored -/
theorem set_ns {C x : Nat} {dx : Addr} {o : Obj} {es : List DictEntry} {nn : Nat} {name : Str} {v : Value} {Q : Unit → Shared → Prop} {E : Value → Shared → Prop} (X : c.frag.In s.heap) (J : InstAt s.heap x o C (some (dictOf es nn))) (hdx : o.dict = some dx) (D : s.heap.get? dx = some (dictOf es nn))
    (hs : findIn c.frag (.ref C) "__setattr__" = some (some (.builtin "object.__setattr__"))) (hp : plainOver c.frag C = true) (ht : takerIn c.frag C name = some none) (hh : hasDictIn c.frag C = true)
    (hl : (getL name es).isSome = true) (hz : es.length ≤ 900)
    (h : ∀ h' t, Heap.SameBut dx s.heap h' → h'.get? dx = some (dictOf (putL name (PyData.keyHash c.w.params name) (.str name (s.toks + 1)) v es) (putN name es nn)) → Q () { s with heap := h', toks := t }) :
    wpAny c.M A (setAttr (.ref x) name v) Q E s := by
  refine set_plain X J hs ?_
  refine osa_open (s := { s with toks := s.toks + 1 }) X J hp ht fun b => ?_
  obtain ⟨cd, hc, hd'⟩ := any_some hh
  have D' := Heap.get?_update_self (Obj.putName name (PyData.keyHash c.w.params name) (.str name (s.toks + 1)) v) D (by rw [putName_dict]; rfl)
  obtain ⟨hx, hcl, hn, -⟩ := J
  obtain ⟨oc, odi, oda, osl⟩ := o
  dsimp only at hcl hdx
  subst hcl hdx
  refine wpAny_bind (wpAny_pure (wpAny_bind (wpAny_bind (wpAny_loadPart hx (wpAny_bind (Looks.here (s := { s with toks := s.toks + 1 }) (looks_clsIn X hc) ?_))))))
  rw [hd']
  refine wpAny_pure (a := some dx) (wpAny_bind (wpAny_pure (wpAny_bind ?_)))
  unfold nsSet
  refine wpAny_bind (wpAny_bind (wpAny_askSetting (wpAny_pure (wpAny_bind (wpAny_mkText (wpAny_bind (wpAny_loadPart D ?_)))))))
  have cc : aRefKeyMayBeTheName name es.toArray = false := by
    rw [aRefKeyMayBeTheName_at]
    unfold getL at hl
    simp only [List.any_toArray]
    split at hl
    · rename_i en he
      rw [List.any_eq_true.mpr ⟨en, List.mem_of_find?_eq_some he, List.find?_some he⟩]; rfl
    · split at hl
      · cases hl
      · rename_i z; rw [Bool.not_eq_true] at z; rw [z, Bool.and_false]
  dsimp only
  rw [cc]
  refine wpAny_updatePart D ?_
  rw [putName_dict] at D'
  have hlen : (putL name (PyData.keyHash c.w.params name) (.str name (s.toks + 1)) v es).length ≤ 1000 := by
    rw [putL_len]; split <;> omega
  refine wpAny_bind (wpAny_lookBehind D' (pastItsLine_dict (by rw [List.size_toArray, sizeLine_eq]; omega)) ?_)
  exact wpAny_pure (h _ _ (Heap.SameBut.update ..) D')
noncomputable def putField (C : Nat) (name : Str) (o v : V) (hp : Hp) : Option Hp := match o with
  | .obj C' d => if C' = C then (match hp[d]? with
    | some (.ns fs) => if fs.length ≤ 100 then some (hp.set d (.ns (nsPut fs name v))) else none
    | _ => none) else none
  | _ => none
noncomputable def sSetA (C : Nat) (name : Str) (fo fv : EF) : SF := fun ρ hp => (fv ρ hp).bind fun r => (fo ρ r.2).bind fun q => (putField C name q.1 r.1 q.2).map fun hp' => (.next, ρ, hp')
theorem S1.setA {o value : Expr} {name : Str} {p pos : Pos} {fo fv : EF} {C : Nat} (ho : SE c n sc o fo) (hv : SE c n sc value fv) (hw : ∀ env : Env, swapsWith value (some (.Attribute o name p)) pos.line env = pure false)
    (hs : findIn c.frag (.ref C) "__setattr__" = some (some (.builtin "object.__setattr__"))) (hpo : plainOver c.frag C = true) (ht : takerIn c.frag C name = some none) (hh : hasDictIn c.frag C = true) :
    S1 c n sc (.Assign [.Attribute o name p] value pos) (sSetA C name fo fv) := by
  intro A env Fs K φ hp ρ s fl ρ' hp' hA he I hf
  obtain ⟨⟨v, hp1⟩, e1, hf⟩ := Option.bind_eq_some_iff.mp hf
  obtain ⟨⟨a, hp2⟩, e2, hf⟩ := Option.bind_eq_some_iff.mp hf
  obtain ⟨hp3, e3, hf⟩ := Option.map_eq_some_iff.mp hf
  cases hf
  refine plainObj_wpAny_Assign_Attribute (wpAny_mono (I.eval hv hA he e1) ?_ fun _ _ x => x) (hw env)
  rintro z s1 ⟨K1, φ1, I1, k1, p1, v1⟩
  refine wpAny_mono (I1.eval ho hA he e2) ?_ fun _ _ x => x
  rintro x s2 ⟨K2, φ2, ⟨Fr, I2, F2, R2⟩, k2, p2, v2⟩
  dsimp only at e3
  obtain ⟨C1, C1', rfl⟩ : ∃ z z', a = .obj z z' := by cases a <;> first | exact ⟨_, _, rfl⟩ | exact (no e3 rfl).elim
  dsimp only [putField] at e3
  split at e3
  · rename_i hC
    subst hC
    split at e3
    · rename_i fs hm
      split at e3
      · rename_i hlen
        cases e3
        cases v2 with
        | obj h1 h2 h3 h4 h5 =>
          obtain ⟨es, nn, g1, g2, g3, g4, J⟩ := instAt I2 h1 h2 h3 h4 h5 hm
          have X2 : c.frag.In s2.heap := c.X.keeps fun b o e => I2.old e
          have hgl : (getL name es).isSome = true := by
            have := g3 name
            split at this
            · obtain ⟨val, q, _⟩ := this; rw [q]; rfl
            · rw [this]; rfl
          refine set_ns X2 J h3 g1 hs hpo ht hh hgl (by omega) fun h' t hs' hd' => ?_
          refine ⟨K2, φ2, ⟨Fr, I2.set_obj t h5 hm (by simp) hs' ⟨g4, _, _, hd', ?_, g3.put (v1.mono k2 p2) _ _⟩, F2, R2⟩, k1.trans k2, p1.trans p2, .next⟩
          rw [putL_len, nsPut_len, g3.keys]
          split <;> omega
      · cases e3
    · cases e3
  · cases e3

/-! calls of methods -/
theorem meth_w {o : Expr} {name : Str} {apos pos : Pos} {es : List Expr} {Q : Value → Shared → Prop} {E : Value → Shared → Prop} {M : Model} (hbase : ∀ env whole, attributeBase o name env whole = whole)
    (hl : (apos.endLine == pos.line) = true) (hlen : es.length < 30) (hplain : (backTo pos (starEach es env)).any (·.1) = false)
    (h : wpAny M A (PySem.eval o env) (fun ov s1 => ∀ pl, wpAny M A (getMethod ov name pl) (fun r s2 => wpAny M A (callWith pos r.1 r.2 (backTo pos (starEach es env)) []) Q E s2) E s1) E s) :
    wpAny M A (PySem.eval (.Call (.Attribute o name apos) es [] pos) env) Q E s := by
  show wpAny M A (do
    let ov ← attributeBase o name env (PySem.eval o env)
    standAt apos.atName
    methodCall o name apos pos env ov (es.length + 0) (backTo pos (starEach es env)) []) Q E s
  rw [hbase]
  refine wpAny_bind (wpAny_mono h (fun ov s1 h1 => wpAny_bind (wpAny_standAt ?_)) fun _ _ x => x)
  have hform : methodCallForm (es.length + 0) (backTo pos (starEach es env)) [] = true := by
    unfold methodCallForm
    have h0 : (backTo pos (starEach es env)).all (fun x => !x.1) = true := by
      rw [List.all_eq_not_any_not]
      simp only [Bool.not_not]
      rw [hplain]; rfl
    rw [h0]
    simp only [List.all_nil, Bool.and_self, Bool.true_and, List.isEmpty_nil, if_true, decide_eq_true_eq]
    omega
  unfold methodCall
  rw [hform]
  refine wpAny_bind (wpAny_holding ?_)
  show wpAny M A (getMethod ov name (do return (← importBound o env).getD true)) _ E s1
  refine wpAny_mono (h1 _) (fun r s2 h2 => ?_) fun _ _ x => x
  obtain ⟨f, first⟩ := r
  show wpAny M A (methodCallPos true o env apos pos >>= fun callPos => callWith callPos f first (backTo pos (starEach es env)) []) Q E s2
  have hp : methodCallPos true o env apos pos = pure pos := by
    unfold methodCallPos
    rw [hl]; rfl
  rw [hp]
  exact wpAny_bind (wpAny_pure h2)

noncomputable def noField (C : Nat) (name : Str) (hp : Hp) : V → Bool
  | .obj C' d => C' == C && (match hp[d]? with
    | some (.ns fs) => (fs.lookup name).isNone
    | _ => false)
  | _ => false
theorem noField_inv {C : Nat} {name : Str} {hp : Hp} {a : V} (h : noField C name hp a = true) : ∃ d fs, a = .obj C d ∧ hp[d]? = some (.ns fs) ∧ fs.lookup name = none := by
  cases a with
  | obj C' d =>
    simp only [noField, Bool.and_eq_true] at h
    obtain ⟨h1, h2⟩ := h
    split at h2
    · rename_i fs q; exact ⟨d, fs, by rw [eq_of_beq h1], q, Option.isNone_iff_eq_none.mp h2⟩
    · cases h2
  | _ => cases h
noncomputable def eMeth (C : Nat) (name : Str) (g : BF) (f : EF) (fs : List EF) : EF := fun ρ hp => (f ρ hp).bind fun r => if noField C name r.2 r.1 then (evL fs ρ r.2).bind fun q => g (r.1 :: q.1) q.2 else none
theorem SE.meth {o : Expr} {name : Str} {apos pos : Pos} {es : List Expr} {f : EF} {fs : List EF} {g : BF} {C fa : Nat} (hbase : ∀ env whole, attributeBase o name env whole = whole)
    (hl : (apos.endLine == pos.line) = true) (hlen : es.length < 30) (hg : plainGet c.frag C name = true) (hf : findIn c.frag (.ref C) name = some (some (.ref fa))) (ht : typeIn c.frag (.ref fa) = some (.type "function"))
    (hk : KeepS c (.ref fa)) (hb : BS c n (.ref fa) g) (ho : SE c n sc o f) (hs : SEs c n sc es fs) : SE c n sc (.Call (.Attribute o name apos) es [] pos) (eMeth C name g f fs) := by
  intro A env Fs K φ hp ρ s v hp' hA he I R hf'
  obtain ⟨⟨a, hp1⟩, e1, hf'⟩ := Option.bind_eq_some_iff.mp hf'
  split at hf'
  · rename_i hno
    obtain ⟨⟨vs, hp2⟩, e2, hf'⟩ := Option.bind_eq_some_iff.mp hf'
    refine meth_w hbase hl hlen (hs.1 env pos) (wpAny_mono (ho A env Fs K φ hp ρ s a _ hA he I R e1) ?_ fun _ _ x => x)
    rintro x s1 ⟨K1, φ1, I1, k1, p1, v1⟩
    intro pl
    obtain ⟨d, fs', rfl, hm, hno⟩ := noField_inv hno
    have v1' := v1
    cases v1 with
    | obj h1 h2 h3 h4 h5 =>
      obtain ⟨es', nn, g1, g2, g3, g4, J⟩ := instAt I1 h1 h2 h3 h4 h5 hm
      have X1 : c.frag.In s1.heap := c.X.keeps fun b o e => I1.old e
      refine method_fn X1 J (plainGet_of hg).1 (plainGet_of hg).2 hf ht ?_ ?_
      · have := g3 name
        rw [hno] at this
        show (lookIn name (dictOf es' nn)).map _ = _
        rw [lookIn_dict, this]; rfl
      · exact wpAny_mono (callWith_S hk hb hs hA he I1 (R.mono (fun _ h => h) k1 p1) (VsR.cons v1' .nil) e2 hf') (fun _ _ h => h.trans k1 p1) fun _ _ x => x
  · cases hf'

/-- xs.append(e) -/
noncomputable def oApp : V → V → Hp → Option (V × Hp)
  | .ref m, v, hp => match hp[m]? with
    | some (.acc xs) => if xs.length ≤ lim then some (.none, hp.set m (.acc (xs ++ [v]))) else none
    | _ => none
  | _, _, _ => none
noncomputable def isAcc (hp : Hp) : V → Bool
  | .ref m => match hp[m]? with
    | some (.acc _) => true
    | _ => false
  | _ => false
noncomputable def eApp (f g : EF) : EF := fun ρ hp => (f ρ hp).bind fun r => if isAcc r.2 r.1 then (g ρ r.2).bind fun q => oApp r.1 q.1 q.2 else none
theorem BS.append : BS c n (.builtin "list.append") (Mine.two oApp) := .two fun A Fs K φ hp s a b x y v hp' hA I ha hb hf => by
  obtain ⟨m, rfl⟩ : ∃ z, a = .ref z := by cases a <;> first | exact ⟨_, rfl⟩ | exact (no hf rfl).elim
  dsimp only [oApp] at hf
  cases ha with
  | ref h1 =>
    split at hf
    · rename_i xs hm
      split at hf
      · rename_i hl
        cases hf
        obtain ⟨hk, items, nn, g1, g4⟩ := I.obj _ _ _ h1 hm
        have hsz : items.size = xs.length := by have := g4.1; simpa using this
        refine wpAny_list_append_plain ⟨nn, g1⟩ (fun h' hp' hs' => ?_) (lim_le (by rw [hsz]; exact hl))
        obtain ⟨nn', g1'⟩ := hp'
        refine ⟨K, φ, I.set_obj s.toks h1 hm (by simp) hs' ⟨hk, _, nn', g1', ?_⟩, .refl K, List.prefix_refl φ, .none⟩
        rw [Array.toList_push]
        exact g4.append (.cons hb .nil)
      · cases hf
    · cases hf
theorem SE.append {o e : Expr} {apos pos : Pos} {f g : EF} (hbase : ∀ env whole, attributeBase o "append" env whole = whole) (hl : (apos.endLine == pos.line) = true)
    (he0 : ∀ rest env, starEach (e :: rest) env = (false, PySem.eval e env) :: starEach rest env) (ho : SE c n sc o f) (he : SE c n sc e g) : SE c n sc (.Call (.Attribute o "append" apos) [e] [] pos) (eApp f g) := by
  have hs := SEs.cons he0 he (SEs.nil (c := c) (n := n) (sc := sc))
  intro A env Fs K φ hp ρ s v hp' hA hsc I R hf
  obtain ⟨⟨a, hp1⟩, e1, hf⟩ := Option.bind_eq_some_iff.mp hf
  split at hf
  · rename_i hacc
    obtain ⟨⟨b, hp2⟩, e2, hf⟩ := Option.bind_eq_some_iff.mp hf
    refine meth_w hbase hl (by simp) (hs.1 env pos) (wpAny_mono (ho A env Fs K φ hp ρ s a _ hA hsc I R e1) ?_ fun _ _ x => x)
    rintro x s1 ⟨K1, φ1, I1, k1, p1, v1⟩
    intro pl
    dsimp only at hacc
    obtain ⟨m, rfl⟩ : ∃ z, a = .ref z := by cases a <;> first | exact ⟨_, rfl⟩ | cases hacc
    dsimp only [isAcc] at hacc
    split at hacc
    · rename_i xs hm
      have v1' := v1
      cases v1 with
      | ref h1 =>
        obtain ⟨hk, items, nn, g1, g4⟩ := I1.obj _ _ _ h1 hm
        refine Calls.getMethod_list_append g1 rfl rfl ?_
        refine wpAny_mono (callWith_S (g := Mine.two oApp) KeepS.builtin BS.append hs hA hsc I1 (R.mono (fun _ h => h) k1 p1) (VsR.cons v1' .nil) (vs := [b]) (hp1 := hp2) (by simp [evL, e2]) ?_) (fun _ _ h => h.trans k1 p1) fun _ _ x => x
        exact hf
    · cases hacc
  · cases hf
end
end Mine
end
section
open PySem PySem.W PyProof.Rows
set_option Elab.async false
set_option linter.unusedVariables false
namespace Mine

section
variable {c : Cx} {n : Nat} {sc : Scope} {Fs : List (Addr × Obj)} {K K' : View} {φ φ' : List Addr} {hp : Hp} {env : Env} {ρ : Loc} {s : Shared} {A : Around}

theorem AOk.under_new {C : Addr} {vals : List Value} (h : AOk (n + 1) A) : AOk n (A.under (.builtin "type.__call__" ⟨.ref C :: vals, []⟩)) := by
  have hw : (Code.builtin "type.__call__" ⟨.ref C :: vals, []⟩).weight = 1 := by kernel_rfl
  have hu : (Code.builtin "type.__call__" ⟨.ref C :: vals, []⟩).cUnits ≤ 3 := by
    show (Code.builtin "type.__call__" ⟨.ref C :: vals, []⟩).cUnits ≤ 3
    have : (Code.builtin "type.__call__" ⟨.ref C :: vals, []⟩).cUnits = 1 := by kernel_rfl
    omega
  refine ⟨h.1, ?_, ?_⟩
  · show A.depth + _ + 10 * n < 800
    have := h.2.1; omega
  · show A.units + _ + 40 * n < 8000
    have := h.2.2; omega

noncomputable def bNew (C : Nat) (g : BF) : BF := fun vs hp => (g (.obj C hp.length :: vs) (hp ++ [.ns []])).bind fun r => match r.1 with
  | .none => some (.obj C hp.length, r.2)
  | _ => none
theorem BS.new {C fI : Nat} {g : BF} (hm : makesIn c.frag C = true) (hi : findIn c.frag (.ref C) "__init__" = some (some (.ref fI))) (hf : typeIn c.frag (.ref fI) = some (.type "function")) (hg : CS c n (.ref fI) g) :
    BS c (n + 1) (.ref C) (bNew C g) := by
  intro A Fs K φ hp s vs vals v hp' hA I hv hf'
  obtain ⟨⟨r, hp1⟩, e1, hf'⟩ := Option.bind_eq_some_iff.mp hf'
  dsimp only at hf'
  split at hf'
  · cases hf'
    have X : c.frag.In s.heap := c.X.keeps fun b o e => I.old e
    have I1 : Inv c Fs K (φ ++ [s.heap.objs.size]) (hp ++ [.ns []]) { s with heap := s.heap.push emptyDict, toks := s.toks } :=
      I.new emptyDict s.toks (.ns []) ⟨I.K_size, [], 0, Heap.get?_push_size _ rfl, Nat.le_refl _, fun x => rfl⟩
    have I2 := I1.imm (instObj C s.heap.objs.size) s.toks
    have k2 := I1.imm_le (instObj C s.heap.objs.size)
    rw [show ({ s with heap := s.heap.push emptyDict, toks := s.toks } : Shared).heap.objs.size = s.heap.objs.size + 1 from Heap.size_push ..] at I2 k2
    have hself : VR c (K.add (s.heap.objs.size + 1) (instObj C s.heap.objs.size)) (φ ++ [s.heap.objs.size]) (.obj C hp.length) (.ref (s.heap.objs.size + 1)) :=
      .obj (View.add_self ..) rfl rfl rfl (by rw [← I.len]; simp)
    obtain ⟨hh, gg, d, t, os⟩ := s
    refine wpAny_call (make_core (makes_of X hm) (looks_findIn X hi) (fun self => bind_fn X self hf) (.inl rfl) ?_)
    refine codeAny_mono (hg _ Fs _ _ _ _ _ _ _ _ hA.under_new I2 (VsR.cons hself (hv.mono k2 (List.prefix_append _ _))) e1) ?_
    rintro r s3 ⟨val, rfl, K3, φ3, I3, k3, p3, v3⟩
    cases v3
    exact ⟨rfl, K3, φ3, I3, k2.trans k3, (List.prefix_append _ _).trans p3, hself.mono k3 p3⟩
  · cases hf'

theorem Inv.big (I : Inv c Fs K φ hp s) : (s.heap.objs.size == sysModules) = false := by
  have h : mainGlobals < s.heap.objs.size := (c.g.keeps fun b o e => I.old e).lt
  refine beq_eq_false_iff_ne.mpr fun q => ?_
  rw [q] at h
  exact absurd h (by decide)
/-- {} -/
noncomputable def eDict : EF := fun ρ hp => some (.ref hp.length, hp ++ [.dict []])
theorem dictShape_nil : DictShape c { cls := .type "dict", data := .dict #[] } [] := ⟨⟨rfl, rfl, rfl⟩, #[], 0, rfl, fun e he => by simp at he, .nil, by simp⟩
theorem SE.dictM {pos : Pos} : SE c n sc (.Dict [] [] pos) eDict := by
  intro A env Fs K φ hp ρ s v hp' hA he I R hf
  cases hf
  show wpAny c.M A (do standAt pos; dictDisplay []) _ NoE s
  refine wpAny_bind (wpAny_standAt ?_)
  show wpAny c.M A newDict _ NoE s
  refine wpAny_newObj_type ?_ (by simp [sizeOk])
  refine ⟨K, _, I.new { cls := .type "dict", data := .dict #[] } s.toks (.dict []) ⟨I.K_size, I.big, _, [], Heap.get?_push_size _ rfl, dictShape_nil, .nil⟩, .refl K, List.prefix_append _ _, .ref (by rw [← I.len]; simp)⟩

/-- the entries of a dict, one that may change or not -/
noncomputable def dctOf (hp : Hp) : V → Option (List (Int × V))
  | .dct es => some es
  | .ref m => match hp[m]? with
    | some (.dict es) => some es
    | _ => none
  | _ => none
theorem dct_at {v : V} {x : Value} {es : List (Int × V)} (I : Inv c Fs K φ hp s) (hv : VR c K φ v x) (h : dctOf hp v = some es) : ∃ d o kvs, x = .ref d ∧ s.heap.get? d = some o ∧ DictShape c o kvs ∧ PsR c K φ es kvs ∧ (d == sysModules) = false := by
  cases v <;> simp only [dctOf] at h <;> try cases h
  · cases hv with
    | dct h1 h0 h2 h3 h4 => exact ⟨_, _, _, rfl, I.keep _ _ h1, h2, ⟨h3, h4⟩, h0⟩
  · cases hv with
    | ref h1 =>
      split at h
      · rename_i ys hm
        cases h
        obtain ⟨hk, h0, ob, kvs, g1, g2, g3⟩ := I.obj _ _ _ h1 hm
        exact ⟨_, ob, kvs, rfl, g1, g2, g3, h0⟩
      · cases h

/-- d.get(k, w) -/
noncomputable def bGet (o k w : V) (hp : Hp) : Option (V × Hp) := match k with
  | .int i => (dctOf hp o).map fun es => ((dGet es i).getD w, hp)
  | _ => none
theorem bGet_inv {o k w v : V} {hp hp' : Hp} (h : bGet o k w hp = some (v, hp')) : ∃ i es, k = .int i ∧ dctOf hp o = some es ∧ v = (dGet es i).getD w ∧ hp' = hp := by
  cases k <;> simp only [bGet] at h <;> try cases h
  obtain ⟨es, h1, h2⟩ := Option.map_eq_some_iff.mp h
  cases h2
  exact ⟨_, es, rfl, h1, rfl, rfl⟩
noncomputable def eGet (f g h : EF) : EF := fun ρ hp => (f ρ hp).bind fun r => if (dctOf r.2 r.1).isSome then (g ρ r.2).bind fun q => (h ρ q.2).bind fun t => bGet r.1 q.1 t.1 t.2 else none
theorem SE.get {o e e2 : Expr} {apos pos : Pos} {f g h : EF} (hbase : ∀ env whole, attributeBase o "get" env whole = whole) (hl : (apos.endLine == pos.line) = true)
    (he0 : ∀ env, backTo pos (starEach [e, e2] env) = [(false, PySem.eval e env), (false, PySem.eval e2 env)]) (ho : SE c n sc o f) (he : SE c n sc e g) (he2 : SE c n sc e2 h) :
    SE c n sc (.Call (.Attribute o "get" apos) [e, e2] [] pos) (eGet f g h) := by
  intro A env Fs K φ hp ρ s v hp' hA hsc I R hf
  obtain ⟨⟨a, hp1⟩, e1, hf⟩ := Option.bind_eq_some_iff.mp hf
  split at hf
  · rename_i hdct
    obtain ⟨⟨b, hp2⟩, eb, hf⟩ := Option.bind_eq_some_iff.mp hf
    obtain ⟨⟨d, hp3⟩, ed, hf⟩ := Option.bind_eq_some_iff.mp hf
    refine meth_w hbase hl (by simp) (by rw [he0]; rfl) (wpAny_mono (ho A env Fs K φ hp ρ s a _ hA hsc I R e1) ?_ fun _ _ x => x)
    rintro x s1 ⟨K1, φ1, I1, k1, p1, v1⟩
    intro pl
    obtain ⟨es1, hes1⟩ := Option.isSome_iff_exists.mp hdct
    obtain ⟨dd, o1, kvs1, rfl, g1, g2, g3, g4⟩ := dct_at I1 v1 hes1
    refine getMethod_builtin (T := "dict") ⟨o1, g1, g2.1.1⟩ F.plainAttrs_dict F.slot_dict_get F.type_dict_get (fun a e => by cases e; exact ⟨o1, g1, g2.1.2.1⟩) ?_
    rw [he0]
    refine wpAny_dict_get2 (knd := intKind c.prog c.w) g4 (wpAny_mono (he A env Fs K1 φ1 hp1 ρ s1 b hp2 hA hsc I1 (R.mono (fun _ h => h) k1 p1) eb) ?_ fun _ _ x => x)
    rintro y s2 ⟨K2, φ2, I2, k2, p2, v2⟩
    refine wpAny_mono (he2 A env Fs K2 φ2 hp2 ρ s2 d hp3 hA hsc I2 (R.mono (fun _ h => h) (k1.trans k2) (p1.trans p2)) ed) ?_ fun _ _ x => x
    rintro z s3 ⟨K3, φ3, I3, k3, p3, v3⟩
    obtain ⟨i, es, rfl, h1, rfl, rfl⟩ := bGet_inv hf
    clear hf
    obtain ⟨dd', o3, kvs, e3, q1, q2, q3, q4⟩ := dct_at I3 (v1.mono (k2.trans k3) (p2.trans p3)) h1
    cases e3
    cases v2 with
    | int _ t =>
      refine ⟨i, _, intKind_is _ _ i t, (DictShape.at q1 q2).mapOf, ?_⟩
      have := q3.get (k := i)
      refine ⟨K3, φ3, I3.toks _, (k1.trans k2).trans k3, (p1.trans p2).trans p3, ?_⟩
      cases hq : dGet es i with
      | none => rw [hq] at this; rw [this]; exact v3
      | some u => rw [hq] at this; obtain ⟨val, w1, w2⟩ := this; rw [w1]; exact w2
  · cases hf
end
end Mine
end
section
open PySem PySem.W PyProof.Rows
set_option Elab.async false
set_option linter.unusedVariables false
namespace Mine

section
variable {c : Cx} {n : Nat} {sc : Scope} {Fs : List (Addr × Obj)} {K K' : View} {φ φ' : List Addr} {hp : Hp} {env : Env} {ρ : Loc} {s : Shared} {A : Around}

theorem iadd_dict {d : Addr} {kvs : List (Int × Value)} {ep : Nat} {R : Result → Shared → Prop} {prog : Program} {w : World} (lo : (d == sysModules) = false) (hh : A.handled = none) (hd : s.heap.DictAt (intKind prog w) d kvs ep) (hn : kvs.length ≤ sizeLine)
    (hR : ∀ h' tk acc' c', (∀ b o, b ≠ s.heap.objs.size → (s.heap.push (seqObj "list" #[] 0)).get? b = some o → h'.get? b = some o) → h'.get? s.heap.objs.size = some { cls := .type "list", dict := none, data := .seq acc' c', slots := #[] } →
      ItemsOf (fun i v => ∃ k x, kvs[i]? = some (k, x) ∧ (intKind prog w).is k v = true) acc' kvs.length → R (.ok (.ret (.ref s.heap.objs.size))) { s with heap := h', toks := tk }) :
    codeAny (model prog w) A (.builtin "list.__iadd__" ⟨[.ref s.heap.objs.size, .ref d], []⟩) R { s with heap := s.heap.push (seqObj "list" #[] 0) } := by
  refine codeAny_builtin entry_list_iadd' ?_
  rw [Around.under_plainId (by decide +kernel)]
  have hlt := hd.lt_size
  exact kdl_extend (s := { s with heap := s.heap.push (seqObj "list" #[] 0) }) (kdl_dict (kvs := kvs) (ep := ep) lo) hh (hd.push _) s.heap.objs.size (Nat.ne_of_gt hlt) (Nat.ne_of_gt hlt) _ 0 (Heap.get?_push_size _ rfl) hR hn
theorem collect_dict {d : Addr} {kvs : List (Int × Value)} {ep : Nat} {Q : List Value → Shared → Prop} {E : Value → Shared → Prop} {prog : Program} {w : World} (lo : (d == sysModules) = false) (hh : A.handled = none) (hd : s.heap.DictAt (intKind prog w) d kvs ep) (hn : kvs.length ≤ sizeLine)
    (h : ∀ h' tk acc, (∀ b o, s.heap.get? b = some o → h'.get? b = some o) → ItemsOf (fun i v => ∃ k x, kvs[i]? = some (k, x) ∧ (intKind prog w).is k v = true) acc kvs.length → Q acc.toList { s with heap := h', toks := tk }) :
    wpAny (model prog w) A (collect (.ref d)) Q E s := by
  unfold collect
  refine wpAny_bind (wpAny_runValue (codeAny_builtin entry_proto_collect' ?_))
  show wpAny _ _ (do again (.builtin "list.__iadd__" ⟨[← newList [], .ref d], []⟩)) _ _ s
  refine wpAny_bind (wpAny_newList (wpAny_pure ⟨Code.quiet_builtin _ (by decide +kernel), ?_⟩))
  refine iadd_dict lo hh hd hn fun h' tk acc' c' hk hS' hacc => ?_
  show wpAny (model prog w) A (do
      let o ← load s.heap.objs.size
      match o.data with
      | .seq xs _ => pure xs.toList
      | _ => unsupported "internal:collect") Q E _
  refine wpAny_bind (wpAny_load hS' ?_)
  exact wpAny_pure (h h' tk acc' (fun b o e => hk b o (Nat.ne_of_lt (Heap.lt_size e)) (Heap.get?_push_of_some _ e)) hacc)

theorem int_of_is {k : Int} {v : Value} {prog : Program} {w : World} (h : (intKind prog w).is k v = true) : ∃ t, v = .int k t := by
  cases v <;> simp [intKind, Value.isInt] at h
  subst h; exact ⟨_, rfl⟩
theorem ints_of_items {kvs : List (Int × Value)} {acc : Array Value} {prog : Program} {w : World} (h : ItemsOf (fun i v => ∃ k x, kvs[i]? = some (k, x) ∧ (intKind prog w).is k v = true) acc kvs.length) : IntsAre acc.toList (kvs.map (·.1)) := by
  obtain ⟨h1, h2⟩ := h
  have : ∀ (l : List Value) (m : List (Int × Value)), l.length = m.length → (∀ (j : Nat) v, l[j]? = some v → ∃ k x, m[j]? = some (k, x) ∧ (intKind prog w).is k v = true) → IntsAre l (m.map (·.1)) := by
    intro l
    induction l with
    | nil => intro m hl _; cases m with
      | nil => exact .nil
      | cons _ _ => simp at hl
    | cons v l ih =>
      intro m hl hp
      cases m with
      | nil => simp at hl
      | cons p m =>
        obtain ⟨k, x, e1, e2⟩ := hp 0 v rfl
        simp at e1; subst e1
        obtain ⟨t, rfl⟩ := int_of_is e2
        exact .cons k t (ih m (by simpa using hl) fun j v e => hp (j + 1) v (by simpa using e))
  exact this _ _ (by simpa using h1) fun j v e => h2 j v (by simpa using e)

noncomputable def bSorted : BF := one fun v hp => (dctOf hp v).bind fun es => if lks_asc (es.map (·.1)) = true ∧ es.length < 64 then some (.lst (es.map fun e => .int e.1), hp) else none
theorem BS.sorted : BS c n (.builtin "sorted") bSorted := .one fun A Fs K φ hp s a x v hp' hA I ha hf => by
  obtain ⟨es, h1, hf⟩ := Option.bind_eq_some_iff.mp hf
  split at hf
  · rename_i hq
    cases hf
    obtain ⟨d, o, kvs, rfl, g1, g2, g3, g4⟩ := dct_at I ha h1
    obtain ⟨ep, hd⟩ := (DictShape.at g1 g2).dictAt
    have hlen := g3.length
    refine Calls.call_function_entry kind_sorted plain_sorted entry_sorted (args_sorted1 _) ?_
    unfold Builtin.«sorted»
    refine wpAny_bind (m := checkCount "sorted" 1 1 _) (wpAny_pure ?_)
    refine wpAny_bind (collect_dict g4 hA.1 hd (by rw [sizeLine_eq]; omega) fun h1 t1 acc hk1 hacc => ?_)
    have hI := ints_of_items hacc
    have hl : acc.toList.length < 64 := by rw [hI.length, List.length_map, hlen]; exact hq.2
    refine wpAny_bind (wpAny_newList ?_ (by rw [sizeLine_eq]; omega))
    have hoL : (h1.push (seqObj "list" acc.toList.toArray 0)).get? h1.objs.size = some (seqObj "list" acc.toList.toArray 0) := Heap.get?_push_size _ rfl
    refine wpAny_bind (wpAny_holding (wpAny_call_entry slot_list_sort ⟨_, hoL, rfl⟩ entry_list_sort (list_sort_tree hoL hI hl fun out ns' a1 a2 a3 => ⟨_, rfl, ?_⟩) (args_list_sort _)))
    refine wpAny_pure ⟨_, rfl, ?_⟩
    have hkeys : ns' = es.map (·.1) := lks_uniq (g3.1 ▸ a2) a3 (lks_asc_spec hq.1)
    subst hkeys
    have I1 := I.grow (h' := h1) (t := t1) hk1
    have hA1 : ∀ b o, h1.get? b = some o → (sortedHeap (h1.push (seqObj "list" acc.toList.toArray 0)) h1.objs.size acc.toList out).get? b = some o := fun b o e => by
      have hne : b ≠ h1.objs.size := Nat.ne_of_lt (Heap.lt_size e)
      unfold sortedHeap
      rw [Heap.get?_update_other _ _ (Ne.symm hne)]
      refine Heap.get?_push_of_some _ (Heap.get?_push_of_some _ ?_)
      rw [Heap.get?_update_other _ _ (Ne.symm hne)]
      exact Heap.get?_push_of_some _ e
    obtain ⟨k, hB⟩ : ∃ k, (sortedHeap (h1.push (seqObj "list" acc.toList.toArray 0)) h1.objs.size acc.toList out).get? h1.objs.size = some (seqObj "list" out k) := by
      unfold sortedHeap
      obtain ⟨e1, ho1⟩ : ∃ e1, ((h1.push (seqObj "list" acc.toList.toArray 0)).update h1.objs.size (Obj.mapSeq fun _ => #[])).get? h1.objs.size = some (seqObj "list" #[] e1) := ⟨_, get?_update_seq hoL (fun _ => #[])⟩
      exact ⟨_, get?_update_seq (Heap.get?_push_of_some _ (Heap.get?_push_of_some _ ho1)) (fun _ => out)⟩
    have I2 := I1.grow (h' := sortedHeap (h1.push (seqObj "list" acc.toList.toArray 0)) h1.objs.size acc.toList out) (t := t1) hA1
    have I3 : Inv c ((h1.objs.size, seqObj "list" out k) :: Fs) K φ hp { s with heap := sortedHeap (h1.push (seqObj "list" acc.toList.toArray 0)) h1.objs.size acc.toList out, toks := t1 } := by
      refine I2.add (Fr := [(h1.objs.size, _)]) (fun p hp => ?_) (by simp)
      rw [List.mem_singleton.mp hp]
      refine ⟨hB, I1.K_size, I1.size_phi, fun hm => ?_⟩
      obtain ⟨q, hq, e⟩ := List.mem_map.mp hm
      exact Nat.lt_irrefl _ (e ▸ Heap.lt_size (I1.fs q hq).1)
    obtain ⟨I4, k4⟩ := I3.own_imm
    refine ⟨_, φ, I4, k4, List.prefix_refl _, .mk_lst (View.add_self ..) rfl rfl ?_⟩
    have := are_ints (c := c) (K := K.add h1.objs.size (seqObj "list" out k)) (φ := φ) a1
    rw [List.map_map] at this
    exact this
  · cases hf
end
end Mine
end
section
open PySem PySem.W PyProof.Rows
set_option Elab.async false
set_option linter.unusedVariables false
namespace Mine

section
variable {c : Cx} {n : Nat} {sc : Scope} {Fs : List (Addr × Obj)} {K K' : View} {φ φ' : List Addr} {hp : Hp} {env : Env} {ρ : Loc} {s : Shared} {A : Around}

theorem Inv.set_two {a b : Addr} {oa ob oa' ob' : Obj} {h' : Heap} (I : Inv c ((a, oa) :: (b, ob) :: Fs) K φ hp s) (t : Nat) (hk : ∀ x o, x ≠ a → x ≠ b → s.heap.get? x = some o → h'.get? x = some o)
    (ha : h'.get? a = some oa') (hb : h'.get? b = some ob') : Inv c ((a, oa') :: (b, ob') :: Fs) K φ hp { s with heap := h', toks := t } := by
  obtain ⟨a1, a2, a3⟩ := I.fs (a, oa) (.head _)
  obtain ⟨b1, b2, b3⟩ := I.fs (b, ob) (.tail _ (.head _))
  have nd := I.fnd
  simp only [List.map_cons, List.nodup_cons, List.mem_cons, not_or] at nd
  have hne : ∀ x o, K x = some o → x ≠ a ∧ x ≠ b := fun x o e => ⟨fun q => (by rw [q, a2] at e; cases e), fun q => (by rw [q, b2] at e; cases e)⟩
  refine ⟨I.base, fun x o e => hk _ _ (hne x o e).1 (hne x o e).2 (I.keep _ _ e), fun p hm => ?_, I.fnd, I.len, I.nodup, fun i x o e e' => ?_, I.gens, I.os⟩
  · rcases List.mem_cons.mp hm with rfl | hm
    · exact ⟨ha, a2, a3⟩
    · rcases List.mem_cons.mp hm with rfl | hm
      · exact ⟨hb, b2, b3⟩
      · have := I.fs p (.tail _ (.tail _ hm))
        refine ⟨hk _ _ (fun q => nd.1.2 (List.mem_map.mpr ⟨p, hm, q⟩)) (fun q => nd.2.1 (List.mem_map.mpr ⟨p, hm, q⟩)) this.1, this.2⟩
  · have hx := List.mem_of_getElem? e
    exact (I.obj i x o e e').mono (View.le.refl K) (List.prefix_refl φ) (fun _ h => h) fun _ h => hk _ _ (fun q => a3 (q ▸ hx)) (fun q => b3 (q ▸ hx)) h

noncomputable def enumV : Nat → List V → List V
  | _, [] => []
  | i, x :: xs => .tup [.int i, x] :: enumV (i + 1) xs
noncomputable def eEnum (f : EF) (ρ : Loc) (hp : Hp) : Option (List V × Hp) := (f ρ hp).bind fun r => match r.1 with
  | .lst xs => some (xs, r.2)
  | _ => none
noncomputable def sEnum (f : EF) (a : V → Loc → Option Loc) (b : SF) : SF := fun ρ hp => (eEnum f ρ hp).bind fun r => forL a b (enumV 0 r.1) ρ r.2

noncomputable abbrev enumObj (it : Addr) (i : Int) (old : Value) : Obj := { cls := .type "enumerate", dict := none, data := .fields #[.none, .bool false, .ref it, rawInt i, .none, old], slots := #[] }

/-- an enumerate and its iterator -/
noncomputable def EnSt (c : Cx) (K : View) (φ : List Addr) (it : Addr) (oe oi : Obj) (i : Nat) (xs : List V) : Prop :=
  ∃ l ol items m old, oe = enumObj it i old ∧ oi.cls = .type "list_iterator" ∧ oi.data = .fields #[.ref l, .int i 0] ∧ K l = some ol ∧ ol.cls = .type "list" ∧ ol.data = .seq items m ∧ VsR c K φ xs (items.toList.drop i)
theorem EnSt.mono {it : Addr} {oe oi : Obj} {i : Nat} {xs : List V} (h : EnSt c K φ it oe oi i xs) (hK : View.le K K') (hφ : φ <+: φ') : EnSt c K' φ' it oe oi i xs := by
  obtain ⟨l, ol, items, m, old, h1, h2, h3, h4, h5, h6, h7⟩ := h
  exact ⟨l, ol, items, m, old, h1, h2, h3, hK _ _ h4, h5, h6, h7.mono hK hφ⟩

theorem EnSt.next {e it : Addr} {oe oi : Obj} {i : Nat} {x : V} {xs : List V} {elts : List Expr} {k1 : Nat} {pt : Pos} (hA : AOk n A) (I : Inv c ((e, oe) :: (it, oi) :: Fs) K φ hp s) (h : EnSt c K φ it oe oi i (x :: xs))
    {Q : Option Value → Shared → Prop}
    (hQ : ∀ val s1 K1, VR c K1 φ (.tup [.int i, x]) val → View.le K K1 → wpAny c.M A (letOwnedTupleGo (.Tuple elts k1 pt) (.ref e) val) (fun _ s2 => ∃ oe' oi', Inv c ((e, oe') :: (it, oi') :: Fs) K1 φ hp s2 ∧ EnSt c K1 φ it oe' oi' (i + 1) xs) NoE s1 → Q (some val) s1) :
    wpAny c.M A (pyNext (.ref e)) Q NoE s := by
  obtain ⟨l, ol, items, m, old, rfl, h2, h3, h4, h5, h6, h7⟩ := h
  have he := (I.fs _ (.head _)).1
  have hit := (I.fs _ (.tail _ (.head _))).1
  have hne : e ≠ it := by
    have := I.fnd
    simp only [List.map_cons, List.nodup_cons, List.mem_cons, not_or] at this
    exact this.1.1
  obtain ⟨y, ys', e1, e2, e3⟩ := h7.cons_inv
  have hi : items[i]? = some y := by
    have := congrArg (·[0]?) e1
    simpa using this
  have hdrop : items.toList.drop (i + 1) = ys' := by rw [← List.drop_drop, e1]; rfl
  refine wpAny_pyNext_enum_item he ⟨oi, hit, h2, h3⟩ ⟨ol, I.keep _ _ h4, h5, m, h6⟩ hi hne fun h' g1 g2 g3 g4 g5 => ?_
  obtain ⟨oi', hoi, hc', hd'⟩ := g2
  have I1 := I.set_two (h' := h') (s.toks + 1) g5 g1 hoi
  have hsz : s.heap.objs.size ≠ e ∧ s.heap.objs.size ≠ it := ⟨Nat.ne_of_gt (Heap.lt_size he), Nat.ne_of_gt (Heap.lt_size hit)⟩
  have I2 : Inv c ((s.heap.objs.size, { cls := .type "tuple", data := .seq #[.int i s.toks, y] }) :: (e, { cls := .type "enumerate", dict := none, data := .fields #[rawInt s.heap.objs.size, .bool false, .ref it, rawInt (i + 1), .none, y], slots := #[] }) :: (it, oi') :: Fs) K φ hp { s with heap := h', toks := s.toks + 1 } := by
    refine I1.add (Fr := [(s.heap.objs.size, _)]) (fun p hp => ?_) (by simp)
    rw [List.mem_singleton.mp hp]
    refine ⟨g3, I.K_size, I.size_phi, fun hm => ?_⟩
    simp only [List.map_cons, List.mem_cons] at hm
    rcases hm with q | q | hm
    · exact hsz.1 q
    · exact hsz.2 q
    · obtain ⟨q, hq, e⟩ := List.mem_map.mp hm
      exact Nat.lt_irrefl _ (e ▸ Heap.lt_size (I.fs q (.tail _ (.tail _ hq))).1)
  obtain ⟨I3, k3⟩ := I2.own_imm
  refine hQ _ _ _ ?_ k3 ?_
  · refine .mk_tup (View.add_self ..) rfl rfl ?_
    exact VsR.cons (.int _ _) (VsR.cons (e2.mono k3 (List.prefix_refl _)) .nil)
  · refine wpAny_letOwnedTupleGo_enum g1 fun h2' f1 f2 => ?_
    refine ⟨_, oi', I3.set_own (s.toks + 1) f2 f1, l, ol, items, m, y, rfl, hc', hd', k3 _ _ h4, h5, h6, ?_⟩
    rw [hdrop]; exact e3.mono k3 (List.prefix_refl _)

theorem EnSt.stop {e it : Addr} {oe oi : Obj} {i : Nat} (hA : AOk n A) (I : Inv c ((e, oe) :: (it, oi) :: Fs) K φ hp s) (h : EnSt c K φ it oe oi i []) :
    wpAny c.M A (pyNext (.ref e)) (fun r s' => r = none ∧ Inv c Fs K φ hp s') NoE s := by
  obtain ⟨l, ol, items, m, old, rfl, h2, h3, h4, h5, h6, h7⟩ := h
  have he := (I.fs _ (.head _)).1
  have hit := (I.fs _ (.tail _ (.head _))).1
  have hi : items[i]? = none := by
    have := h7.nil_inv
    have := congrArg (·[0]?) this
    simpa using this
  exact wpAny_pyNext_enum_end hA.1 he ⟨oi, hit, h2, h3⟩ ⟨ol, I.keep _ _ h4, h5, m, h6⟩ hi fun h' hx => ⟨rfl, I.pop.drop s.toks hx⟩

theorem StM.own2 {a b : Addr} {oa ob : Obj} (I : StM c ((a, oa) :: (b, ob) :: Fs) K φ hp env ρ s) : ∃ Fr, Inv c ((a, oa) :: (b, ob) :: (Fr ++ Fs)) K φ hp s ∧ FrOk env Fr ∧ EnvR c Fr K φ env ρ :=
  let ⟨Fr, I, F, R⟩ := I; ⟨Fr, I.perm (List.perm_middle.trans (List.Perm.cons _ List.perm_middle)), F, R⟩
theorem StM.of_own2 {a b : Addr} {oa ob : Obj} {Fr : List (Addr × Obj)} (I : Inv c ((a, oa) :: (b, ob) :: (Fr ++ Fs)) K φ hp s) (F : FrOk env Fr) (R : EnvR c Fr K φ env ρ) : StM c ((a, oa) :: (b, ob) :: Fs) K φ hp env ρ s :=
  ⟨Fr, I.perm (List.perm_middle.trans (List.Perm.cons _ List.perm_middle)).symm, F, R⟩

inductive EnI (c : Cx) (Fs : List (Addr × Obj)) (K : View) (φ : List Addr) (env : Env) (a : V → Loc → Option Loc) (f : SF) (fl : Fl) (ρ' : Loc) (hp' : Hp) (ie it : Addr) (m : Nat) (s' : Shared) : Prop
  | mk (K3 : View) (φ3 : List Addr) (hp3 : Hp) (ρ3 : Loc) (oe3 oi3 : Obj) (i : Nat) (ys : List V) (I : StM c ((ie, oe3) :: (it, oi3) :: Fs) K3 φ3 hp3 env ρ3 s') (k : View.le K K3) (p : φ <+: φ3) (st : EnSt c K3 φ3 it oe3 oi3 i ys) (h : m = ys.length) (e : forL a f (enumV i ys) ρ3 hp3 = some (fl, ρ', hp')) : EnI c Fs K φ env a f fl ρ' hp' ie it m s'
theorem S1.forEnum {x : Str} {elts : List Expr} {k1 : Nat} {pt p cp pos : Pos} {e : Expr} {b : List Stmt} {a : V → Loc → Option Loc} {g : EF} {f : SF} (hx : sc.names.lookup x = some .globalImplicit) (hd : (x == ("__debug__" : Str)) = false) (hg : GName c x (.type "enumerate"))
    (he : SE c n sc e g) (he0 : ∀ rest env, starEach (e :: rest) env = (false, PySem.eval e env) :: starEach rest env) (ha : SA c n sc (.Tuple elts k1 pt) a) (hb : SS c n sc b f) (hs : ∀ env v, foldedSetIterable (.Call (.Name x p) [e] [] cp) env v = pure v) :
    S1 c n sc (.For (.Tuple elts k1 pt) (.Call (.Name x p) [e] [] cp) b [] pos) (sEnum g a f) := by
  have hse := SEs.cons he0 he (SEs.nil (c := c) (n := n) (sc := sc))
  intro A env Fs K φ hp ρ s fl ρ' hp' hA hsc I hf
  obtain ⟨⟨xs, hp1⟩, e1, hf⟩ := Option.bind_eq_some_iff.mp hf
  obtain ⟨⟨v, hp2⟩, e2, e1⟩ := Option.bind_eq_some_iff.mp e1
  dsimp only at e1
  split at e1
  · rename_i ys
    cases e1
    obtain ⟨Fr, I, F, R⟩ := I
    have R0 := R.mono (fun p hp => List.mem_append_left Fs hp) (.refl K) (List.prefix_refl φ)
    refine wpAny_For ?_ (hs env)
    show wpAny c.M A (do callWith cp (← PySem.eval (.Name x p) env) [] (backTo cp (starEach [e] env)) (backToKw cp (keywordEach [] env))) _ _ s
    have main : wpAny c.M A (callWith cp (.type "enumerate") [] (backTo cp (starEach [e] env)) [])
        (fun x s₁ => wpAny c.M A (pyIter x) (fun it s₂ => codeAny c.M A (.forLoop (.Tuple elts k1 pt) it b [] env) (fun r s' => match r with | .ok f => PostS c Fs K φ hp' env ρ' fl f s' | .error e => cameBackBy c.M A env NoE e s') s₂) NoE s₁) NoE s := by
      refine callWith_of (P := fun h => ∀ a o, c.S0.heap.get? a = some o → h.get? a = some o) (by rw [hse.1 env cp]; rfl) KeepS.type (evalArgs_of (hse.1 env cp) (wpAny_mono (hse.2 A env (Fr ++ Fs) K φ hp ρ s [.lst xs] hp1 cp hA hsc I R0 (by simp [evL, e2])) ?_ fun _ _ x => x))
      rintro vals s1 ⟨K1, φ1, I1, kk1, p1, v1⟩
      refine ⟨fun a o e => I1.old e, ?_⟩
      obtain ⟨y, ys', rfl, u1, u2⟩ := v1.cons_inv
      rw [u2.nil_inv]
      cases u1 with
      | @lst _ l ol items m h1 h2 h3 h4 h5 =>
        refine call_enumerate_list ⟨ol, I1.keep _ _ h1, h2, m, h3⟩ fun h' g1 g2 g3 g4 => ?_
        refine wpAny_pyIter_enum (s := { s1 with heap := h' }) g1 ?_
        obtain ⟨oi, hoi, hc, hdt⟩ := g2
        have I2 : Inv c ((s1.heap.objs.size + 1, enumObj s1.heap.objs.size 0 .none) :: (s1.heap.objs.size, oi) :: (Fr ++ Fs)) K1 φ1 hp1 { s1 with heap := h', toks := s1.toks } := by
          have up : ∀ a, s1.heap.objs.size ≤ a → K1 a = none ∧ a ∉ φ1 ∧ a ∉ (Fr ++ Fs).map (·.1) := fun a ha => by
            refine ⟨?_, fun hm => ?_, fun hm => ?_⟩
            · cases q : K1 a with
              | none => rfl
              | some o => exact absurd (Heap.lt_size (I1.keep _ _ q)) (Nat.not_lt.mpr ha)
            · obtain ⟨i, hi⟩ := List.getElem?_of_mem hm
              obtain ⟨ob, q⟩ := I1.there hi
              exact absurd (Heap.lt_size q) (Nat.not_lt.mpr ha)
            · obtain ⟨q, hq, rfl⟩ := List.mem_map.mp hm
              exact absurd (Heap.lt_size (I1.fs q hq).1) (Nat.not_lt.mpr ha)
          refine (I1.grow (h' := h') (t := s1.toks) g4).add (Fr := [(s1.heap.objs.size + 1, _), (s1.heap.objs.size, oi)]) (fun p hp => ?_) (by simp)
          simp only [List.mem_cons, List.not_mem_nil, or_false] at hp
          rcases hp with rfl | rfl
          · exact ⟨g1, up _ (Nat.le_succ _)⟩
          · exact ⟨hoi, up _ (Nat.le_refl _)⟩
        have st2 : EnSt c K1 φ1 s1.heap.objs.size (enumObj s1.heap.objs.size 0 .none) oi 0 xs := ⟨l, ol, items, m, .none, rfl, hc, hdt, h1, h2, h3, VsR.of_arr h4 h5⟩
        refine codeAny_forLoop_any (EnI c Fs K φ env a f fl ρ' hp' (s1.heap.objs.size + 1) s1.heap.objs.size) ?_ xs.length
          ⟨K1, φ1, hp1, ρ, _, oi, 0, xs, StM.of_own2 I2 F (R.mono (fun _ h => h) kk1 p1), kk1, p1, st2, rfl, hf⟩
        rintro m s3 ⟨K3, φ3, hp3, ρ3, oe3, oi3, i, ys, I3, k3, p3, st3, rfl, hf3⟩
        obtain ⟨Fr3, J3, F3, R3⟩ := I3.own2
        cases ys with
        | nil =>
          cases hf3
          refine wpAny_mono (st3.stop hA J3) ?_ fun _ _ x => x.elim
          rintro r s4 ⟨rfl, J4⟩
          exact wpAny_execs_nil ⟨K3, φ3, ⟨Fr3, J4, F3, R3⟩, k3, p3, .next⟩
        | cons y ys =>
          obtain ⟨ρ4, e4, hf3⟩ := Option.bind_eq_some_iff.mp hf3
          obtain ⟨⟨fl5, ρ5, hp5⟩, e5, hf3⟩ := Option.bind_eq_some_iff.mp hf3
          refine wpAny_mono (st3.next (elts := elts) (k1 := k1) (pt := pt) hA J3 (Q := fun r s4 => ∃ val K4, r = some val ∧ VR c K4 φ3 (.tup [.int i, y]) val ∧ View.le K3 K4 ∧ wpAny c.M A (letOwnedTupleGo (.Tuple elts k1 pt) (.ref (s1.heap.objs.size + 1)) val) (fun _ s2 => ∃ oe' oi', Inv c ((s1.heap.objs.size + 1, oe') :: (s1.heap.objs.size, oi') :: (Fr3 ++ Fs)) K4 φ3 hp3 s2 ∧ EnSt c K4 φ3 s1.heap.objs.size oe' oi' (i + 1) ys) NoE s4) fun val s4 K4 a b d => ⟨val, K4, rfl, a, b, d⟩) ?_ fun _ _ x => x.elim
          rintro r s4 ⟨val4, K4, rfl, v4, k4, hgo⟩
          refine wpAny_mono hgo ?_ fun _ _ x => x.elim
          rintro _ s4' ⟨oe4, oi4, J4, st4⟩
          refine wpAny_mono (ha A env ((s1.heap.objs.size + 1, oe4) :: (s1.heap.objs.size, oi4) :: Fs) K4 φ3 hp3 ρ3 s4' _ val4 ρ4 hA hsc (StM.of_own2 J4 F3 (R3.mono (fun _ h => h) k4 (List.prefix_refl _))) v4 e4) ?_ fun _ _ x => x.elim
          rintro _ s5 ⟨K5, φ5, I5, k5, p5⟩
          refine wpAny_mono (hb A env ((s1.heap.objs.size + 1, oe4) :: (s1.heap.objs.size, oi4) :: Fs) K5 φ5 hp3 ρ4 s5 fl5 ρ5 hp5 hA hsc I5 e5) ?_ fun _ _ x => x.elim
          rintro flow s6 ⟨K6, φ6, I6, k6, p6, v6⟩
          have kk := (((k3.trans k4).trans k5).trans k6)
          have pp := (p3.trans p5).trans p6
          have st6 := st4.mono (k5.trans k6) (p5.trans p6)
          have away : StM c Fs K6 φ6 hp5 env ρ5 s6 := by
            obtain ⟨Fr6, J6, F6, R6⟩ := I6.own2
            exact ⟨Fr6, J6.pop.pop, F6, R6⟩
          cases v6 with
          | next => exact ⟨ys.length, Nat.lt_succ_self _, K6, φ6, hp5, ρ5, oe4, oi4, i + 1, ys, I6, kk, pp, st6, rfl, hf3⟩
          | cont => exact ⟨ys.length, Nat.lt_succ_self _, K6, φ6, hp5, ρ5, oe4, oi4, i + 1, ys, I6, kk, pp, st6, rfl, hf3⟩
          | brk => cases hf3; exact ⟨K6, φ6, away, kk, pp, .next⟩
          | ret v => cases hf3; exact ⟨K6, φ6, away, kk, pp, .ret v⟩
    have hG : s.heap.Ns env.globals c.mg := R.glob ▸ c.g.keeps fun b o e => I.old e
    have hB : s.heap.Ns env.builtins c.mb := R.blt ▸ c.b.keeps fun b o e => I.old e
    refine wpAny_bind ?_
    rcases hg with hg | ⟨hg, hb'⟩
    · exact Calls.Name_function_global R.kind (by subst hsc; exact hx) (Calls.loadGlobal_global hG hg main) hd
    · exact Calls.Name_function_global R.kind (by subst hsc; exact hx) (Calls.loadGlobal_builtin hG hg hB hb' main) hd
  · cases e1
end
end Mine
end
section
open PySem PySem.W PyProof.Rows
set_option Elab.async false
set_option linter.unusedVariables false
namespace Mine

/-! Contexts in which nothing holds a bytearray. The library's judgement ranges over all contexts, also such as hold a bytearray that is still to be made; ours leaves these out. -/
noncomputable def holders : List String := ["bytearray.__contains__", "bytearray.__mod__", "bytearray.__rmod__", "_struct.pack_into.held", "bytearray.find.held"] ++ Builtin.Bytes.decodersThatHold
noncomputable def Bad : Code → Bool
  | .builtin id _ => holders.contains id
  | _ => false
noncomputable def Cl (Γ : Ctx) : Prop := Bad Γ.code = false ∧ ∀ x ∈ Γ.below, Bad x.1 = false
noncomputable def wpN {α : Type} (M : Model) (A : Around) (t : Sem α) (Q : α → Shared → Prop) (E : Value → Shared → Prop) (s : Shared) : Prop :=
  ∀ Γ p, Γ.In A → Cl Γ → Sem.wp M Γ t (fun a _ s' => Q a s') (fun e _ s' => E e s') p s
noncomputable def codeN (M : Model) (A : Around) (c : Code) (R : Result → Shared → Prop) (s : Shared) : Prop :=
  ∀ Γ p, Γ.code = c → Γ.Below A → Cl Γ → wpCode M Γ R p s

section
variable {α β : Type} {M : Model} {A : Around} {E : Value → Shared → Prop} {s : Shared}
theorem wpN.any {t : Sem α} {Q : α → Shared → Prop} (h : wpAny M A t Q E s) : wpN M A t Q E s := fun Γ p hΓ _ => h Γ p hΓ
theorem codeN.any {c : Code} {R : Result → Shared → Prop} (h : codeAny M A c R s) : codeN M A c R s := fun Γ p hc hΓ _ => h Γ p hc hΓ
theorem wpN_pure {a : α} {Q : α → Shared → Prop} (h : Q a s) : wpN M A (pure a) Q E s := fun _ _ _ _ => h
theorem wpN_mono {t : Sem α} {Q Q' : α → Shared → Prop} {E' : Value → Shared → Prop} (h : wpN M A t Q E s) (hQ : ∀ a s, Q a s → Q' a s) (hE : ∀ e s, E e s → E' e s) : wpN M A t Q' E' s :=
  fun Γ p hΓ hC => Sem.wp_mono M Γ t (fun a _ s => hQ a s) (fun e _ s => hE e s) p s (h Γ p hΓ hC)
theorem wpN_bind {m : Sem α} {f : α → Sem β} {Q : β → Shared → Prop} (h : wpN M A m (fun a s' => wpN M A (f a) Q E s') E s) : wpN M A (m >>= f) Q E s := fun Γ p hΓ hC => by
  rw [Sem.wp_bind']
  exact Sem.wp_mono M Γ m (fun a p' s' h' => h' Γ p' hΓ hC) (fun _ _ _ h' => h') p s (h Γ p hΓ hC)
theorem wpN_holding {vs : List Value} {m : Sem α} {Q : α → Shared → Prop} (h : wpN M A m Q E s) : wpN M A (holding vs m) Q E s :=
  fun Γ p hΓ hC => by rw [Sem.wp_holding]; exact h Γ p hΓ hC
theorem wpN_keep {vs : List Value} {m : Sem α} {Q : α → Shared → Prop} (h : wpN M A m Q E s) : wpN M A (m.keep vs) Q E s :=
  fun Γ p hΓ hC => by rw [Sem.wp_keep]; exact h Γ p hΓ hC
theorem wpN_onRaise {m : Sem α} {k : Value → Sem Unit} {Q : α → Shared → Prop} (h : wpN M A m Q (fun _ _ => False) s) : wpN M A (m.onRaise k) Q E s := fun Γ p hΓ hC => by
  rw [Sem.wp_onRaise]
  exact Sem.wp_mono M Γ m (fun _ _ _ h' => h') (fun e p' s' h' => h'.elim) p s (h Γ p hΓ hC)
theorem wpN_standAt {pos : Pos} {Q : Unit → Shared → Prop} (h : Q () s) : wpN M A (standAt pos) Q E s := wpN.any (wpAny_standAt h)
theorem codeN_mono {c : Code} {R R' : Result → Shared → Prop} (h : codeN M A c R s) (hR : ∀ r s, R r s → R' r s) : codeN M A c R' s :=
  fun Γ p hc hΓ hC => wpCode_mono hR (h Γ p hc hΓ hC)
theorem Cl.enter {Γ : Ctx} (h : Cl Γ) {c : Code} (hc : Bad c = false) (hd : Option Value) (p : Pos) : Cl (Γ.enter c hd p) := by
  refine ⟨hc, fun x hx => ?_⟩
  have hx' : x ∈ (Γ.code, p) :: Γ.below := hx
  rcases List.mem_cons.mp hx' with rfl | hx'
  · exact h.1
  · exact h.2 x hx'
theorem wpN_run {c : Code} {h : Option Value} {Q : Flow → Shared → Prop} (hc : codeN M (A.mark h) c (fun r s' => match r with | .ok f => Q f s' | .error e => E e s') s) (hb : Bad c = false) (hnb : h ≠ some byPass := by intro x; cases x) :
    wpN M A (run c h) Q E s :=
  fun Γ p hΓ hC => by rw [Sem.wp_run]; exact hc _ p rfl (hΓ.enter c h p hnb) (hC.enter hb h p)
theorem wpN_runValue {c : Code} {Q : Value → Shared → Prop} (hc : codeN M A c (fun r s' => match r with | .ok (.ret v) => Q v s' | .ok _ => False | .error e => E e s') s) (hb : Bad c = false) :
    wpN M A (runValue c) Q E s := fun Γ p hΓ hC => by rw [Sem.wp_runValue]; exact hc _ p rfl (hΓ.enter c none p (by intro x; cases x)) (hC.enter hb none p)
theorem wpN_call {f : Value} {pos : List Value} {kw : List (Str × Value)} {Q : Value → Shared → Prop}
    (hc : codeN M A (.call f ⟨pos, kw⟩) (fun r s' => match r with | .ok (.ret v) => Q v s' | .ok _ => False | .error e => E e s') s) : wpN M A (call f pos kw) Q E s := wpN_runValue hc rfl
theorem codeN_of_tree {c : Code} {R : Result → Shared → Prop}
    (h : wpN M (A.under c) (M.den c) (fun fin s' => match fin with | .done f => R (.ok f) s' | .again c' => c'.quiet = true ∧ Bad c' = false ∧ codeN M A c' R s') (fun e s' => R (.error e) s') s) : codeN M A c R s := fun Γ p hc hΓ hC => by
  rw [wpCode_iff_wp, hc]
  refine Sem.wp_mono M Γ _ (fun fin p' s' h' => ?_) (fun _ _ _ h' => h') p s (h Γ p (hc ▸ hΓ.in) hC)
  cases fin with
  | done f => exact h'
  | again c' => exact ⟨h'.1, h'.2.2 (Γ.goto c') p' rfl (hΓ.goto c') ⟨h'.2.1, hC.2⟩⟩
theorem codeN_loop {c : Code} {R : Result → Shared → Prop} (hq : c.quiet = true) (hb : Bad c = false) (I : Nat → Shared → Prop)
    (turn : ∀ n s, I n s → wpN M (A.under c) (M.den c) (fun fin s' => match fin with | .done f => R (.ok f) s' | .again c' => c' = c ∧ ∃ m, m < n ∧ I m s') (fun e s' => R (.error e) s') s)
    (n : Nat) (h : I n s) : codeN M A c R s := by
  induction n using Nat.strongRecOn generalizing s with
  | ind n ih =>
    refine codeN_of_tree (wpN_mono (turn n s h) (fun fin s' hf => ?_) fun _ _ h' => h')
    cases fin with
    | done f => exact hf
    | again c' => obtain ⟨rfl, m, hm, hI⟩ := hf; exact ⟨hq, hb, ih m hm hI⟩
/-- nothing holds it -/
theorem wpN_exported {v : Value} {Q : Bool → Shared → Prop} (h : Q false s) : wpN M A (Builtin.Bytes.exported v) Q E s := fun Γ p _ hC => by
  unfold Builtin.Bytes.exported
  show Q (((Γ.code, p) :: Γ.below).any _) s
  have hall : ∀ x ∈ (Γ.code, p) :: Γ.below, Bad x.1 = false := fun x hx => by
    rcases List.mem_cons.mp hx with rfl | hx
    · exact hC.1
    · exact hC.2 x hx
  generalize (Γ.code, p) :: Γ.below = l at hall ⊢
  have key : ∀ b : Bool, b = false → Q b s := fun b e => e ▸ h
  refine key _ (List.any_eq_false.mpr ?_)
  clear key h hC
  rintro ⟨c, p⟩ hx
  have hb := hall _ hx
  clear hall hx
  refine Bool.not_eq_true _ ▸ ?_
  cases c with
  | builtin id args =>
    obtain ⟨pos, kw⟩ := args
    have hn : ∀ t ∈ holders, ¬ id = t := fun t ht e => by
      subst e
      have : holders.contains id = false := hb
      rw [List.contains_eq_mem, decide_eq_false_iff_not] at this
      exact this ht
    delta Builtin.Bytes.exported.match_1 Builtin.Bytes.exported._sparseCasesOn_1
    dsimp only
    refine Eq.trans (dif_neg (hn "bytearray.__contains__" (by decide +kernel))) ?_
    refine Eq.trans (dif_neg (hn "bytearray.__mod__" (by decide +kernel))) ?_
    refine Eq.trans (dif_neg (hn "bytearray.__rmod__" (by decide +kernel))) ?_
    refine Eq.trans (dif_neg (hn "_struct.pack_into.held" (by decide +kernel))) ?_
    refine Eq.trans (dif_neg (hn "bytearray.find.held" (by decide +kernel))) ?_
    cases pos with
    | nil => rfl
    | cons u r =>
      have hid : Builtin.Bytes.decodersThatHold.contains id = false := by
        rw [List.contains_eq_mem, decide_eq_false_iff_not]
        exact fun hm => hn id (List.mem_append_right _ hm) rfl
      show (_ && Builtin.Bytes.decodersThatHold.contains id) = false
      rw [hid, Bool.and_false]
  | _ => rfl
end
end Mine
end
section
open PySem PySem.W PyProof.Rows
set_option Elab.async false
set_option linter.unusedVariables false
namespace Mine

section
variable {prog : Program} {w : World} {A : Around} {s : Shared} {env : Env} {R : Result → Shared → Prop}

theorem wpN_runOwn {c : Code} {Q : Flow → Shared → Prop} (hc : codeN (model prog w) A c (fun r s' => match r with | .ok f => Q f s' | .error e => False) s) (hb : Bad c = false) (hh : A.handled = none) : wpN (model prog w) A (runOwn c env none) Q NoE s := by
  unfold runOwn
  refine wpN_onRaise (wpN_run (h := none) ?_ hb)
  have : A.mark none = A := by obtain ⟨h, d, f, g, u⟩ := A; cases hh; rfl
  rw [this]
  exact codeN_mono hc fun r s' h => by cases r <;> exact h
theorem codeN_block {stmts : List Stmt} (h : wpN (model prog w) A (execs stmts env) (fun f s' => R (.ok f) s') NoE s) : codeN (model prog w) A (.block stmts env) R s := by
  refine codeN_of_tree ?_
  show wpN _ _ (do return Fin.done (← (execs stmts env).onRaise (fun x => do noteFrame x env; theTreesLotGoes x))) _ _ s
  exact wpN_bind (wpN_onRaise (wpN_mono h (fun f s' h' => wpN_pure h') fun _ _ h' => h'))
theorem codeN_loop' {M : Model} {c : Code} (hq : c.quiet = true) (hb : Bad c = false) (I : Nat → Shared → Prop)
    (turn : ∀ n s, I n s → wpN M (A.under c) (M.den c) (fun fin s' => match fin with | .done f => R (.ok f) s' | .again c' => (c' = c ∧ ∃ m, m < n ∧ I m s') ∨ (c'.quiet = true ∧ Bad c' = false ∧ codeN M A c' R s')) (fun e s' => R (.error e) s') s)
    (n : Nat) (h : I n s) : codeN M A c R s := by
  induction n using Nat.strongRecOn generalizing s with
  | ind n ih =>
    refine codeN_of_tree (wpN_mono (turn n s h) (fun fin s' hf => ?_) fun _ _ h' => h')
    cases fin with
    | done f => exact hf
    | again c' =>
      rcases hf with ⟨rfl, m, hm, hI⟩ | hf
      · exact ⟨hq, hb, ih m hm hI⟩
      · exact hf
theorem codeN_forLoop {target it body} (I : Nat → Shared → Prop)
    (turn : ∀ n s, I n s → wpAny (model prog w) A (pyNext it) (fun r s₁ => match r with
      | none => R (.ok .next) s₁
      | some v => wpAny (model prog w) A (letOwnedTupleGo target it v) (fun _ s₁' =>
          wpAny (model prog w) A (assign target env v) (fun _ s₂ => wpN (model prog w) A (execs body env) (fun f s₃ => match f with
            | .next | .cont => ∃ m, m < n ∧ I m s₃
            | .brk => R (.ok .next) s₃
            | .ret v => R (.ok (.ret v)) s₃) NoE s₂) NoE s₁') NoE s₁) NoE s)
    (n : Nat) (h : I n s) : codeN (model prog w) A (.forLoop target it body [] env) R s := by
  refine codeN_loop' rfl rfl I (fun n s hI => ?_) n h
  show wpN _ A ((forTurn target it body [] env).onRaise (fun x => do noteFrame x env; theTreesLotGoes x)) _ _ s
  refine wpN_onRaise ?_
  simp only [forTurn]
  refine wpN_bind (wpN_standAt (wpN_bind (wpN_onRaise (wpN_mono (wpN.any (turn n s hI)) (fun r s₁ h₁ => ?_) fun _ _ h' => h'))))
  cases r with
  | none => exact wpN_pure (.inr ⟨rfl, rfl, codeN_block (wpN_pure h₁)⟩)
  | some v =>
    refine wpN_bind (wpN_mono (wpN.any h₁) (fun _ s₁' h₁' => ?_) fun _ _ h' => h')
    refine wpN_bind (wpN_mono (wpN.any h₁') (fun _ s₂ h₂ => wpN_bind (wpN_mono h₂ (fun f s₃ h₃ => ?_) fun _ _ h' => h')) fun _ _ h' => h')
    cases f with
    | next => exact wpN_pure (.inl ⟨rfl, h₃⟩)
    | cont => exact wpN_pure (.inl ⟨rfl, h₃⟩)
    | brk => exact wpN_pure h₃
    | ret v => exact wpN_pure h₃
theorem codeN_whileLoop {test body} (I : Nat → Shared → Prop)
    (turn : ∀ n s, I n s → wpAny (model prog w) A (isTrue test env (PySem.eval test env)) (fun b s₂ =>
        if b then wpN (model prog w) A (execs body env) (fun f s₃ => match f with
            | .next | .cont => ∃ m, m < n ∧ I m s₃
            | .brk => R (.ok .next) s₃
            | .ret v => R (.ok (.ret v)) s₃) NoE s₂
        else R (.ok .next) s₂) NoE s)
    (n : Nat) (h : I n s) : codeN (model prog w) A (.whileLoop test body [] env) R s := by
  refine codeN_loop rfl rfl I (fun n s hI => ?_) n h
  show wpN _ A ((whileTurn test body [] env).onRaise (fun x => do noteFrame x env; theTreesLotGoes x)) _ _ s
  refine wpN_onRaise ?_
  simp only [whileTurn]
  refine wpN_bind (wpN_mono (wpN.any (turn n s hI)) (fun b s₂ h₂ => ?_) fun _ _ h' => h')
  cases b with
  | false =>
    simp only [Bool.false_eq_true, if_false] at h₂ ⊢
    exact wpN_bind (wpN_pure (wpN_pure h₂))
  | true =>
    simp only [if_true] at h₂ ⊢
    refine wpN_bind (wpN_mono h₂ (fun f s₃ h₃ => ?_) fun _ _ h' => h')
    cases f with
    | next => exact wpN_pure ⟨rfl, h₃⟩
    | cont => exact wpN_pure ⟨rfl, h₃⟩
    | brk => exact wpN_pure h₃
    | ret v => exact wpN_pure h₃
theorem wpN_execs_cons {st rest} {Q : Flow → Shared → Prop} (h : wpN (model prog w) A (exec st env) (fun f s' => match f with | .next => wpN (model prog w) A (execs rest env) Q NoE s' | f => Q f s') NoE s) :
    wpN (model prog w) A (execs (st :: rest) env) Q NoE s := by
  rw [execs_cons]
  refine wpN_bind (wpN_mono h (fun f s' h' => ?_) fun _ _ x => x)
  cases f <;> first | exact h' | exact wpN_pure h'
end

section
variable {c : Cx} {n : Nat} {sc : Scope} {Fs : List (Addr × Obj)} {K K' : View} {φ φ' : List Addr} {hp : Hp} {env : Env} {ρ : Loc} {s : Shared} {A : Around}

noncomputable def SEN (c : Cx) (n : Nat) (sc : Scope) (e : Expr) (f : EF) : Prop :=
  ∀ (A : Around) (env : Env) Fs K φ hp ρ s v hp', AOk n A → env.scope = sc → Inv c Fs K φ hp s → EnvR c Fs K φ env ρ → f ρ hp = some (v, hp') →
    wpN c.M A (PySem.eval e env) (Post c Fs K φ hp' v) NoE s
theorem SEN.of {e : Expr} {f : EF} (h : SE c n sc e f) : SEN c n sc e f := fun A env Fs K φ hp ρ s v hp' hA he I R hf => wpN.any (h A env Fs K φ hp ρ s v hp' hA he I R hf)
noncomputable def S1N (c : Cx) (n : Nat) (sc : Scope) (st : Stmt) (f : SF) : Prop :=
  ∀ (A : Around) (env : Env) Fs K φ hp ρ s fl ρ' hp', AOk n A → env.scope = sc → StM c Fs K φ hp env ρ s → f ρ hp = some (fl, ρ', hp') →
    wpN c.M A (exec st env) (PostS c Fs K φ hp' env ρ' fl) NoE s
noncomputable def SSN (c : Cx) (n : Nat) (sc : Scope) (st : List Stmt) (f : SF) : Prop :=
  ∀ (A : Around) (env : Env) Fs K φ hp ρ s fl ρ' hp', AOk n A → env.scope = sc → StM c Fs K φ hp env ρ s → f ρ hp = some (fl, ρ', hp') →
    wpN c.M A (execs st env) (PostS c Fs K φ hp' env ρ' fl) NoE s
theorem S1N.of {st : Stmt} {f : SF} (h : S1 c n sc st f) : S1N c n sc st f := fun A env Fs K φ hp ρ s fl ρ' hp' hA he I hf => wpN.any (h A env Fs K φ hp ρ s fl ρ' hp' hA he I hf)
theorem SSN.of {st : List Stmt} {f : SF} (h : SS c n sc st f) : SSN c n sc st f := fun A env Fs K φ hp ρ s fl ρ' hp' hA he I hf => wpN.any (h A env Fs K φ hp ρ s fl ρ' hp' hA he I hf)

theorem StM.evalN {e : Expr} {f : EF} {v : V} {hp' : Hp} (h : SEN c n sc e f) (hA : AOk n A) (he : env.scope = sc) (I : StM c Fs K φ hp env ρ s) (hf : f ρ hp = some (v, hp')) :
    wpN c.M A (PySem.eval e env) (PostE c Fs K φ hp' env ρ v) NoE s := by
  obtain ⟨Fr, I, F, R⟩ := I
  refine wpN_mono (h A env (Fr ++ Fs) K φ hp ρ s v hp' hA he I (R.mono (fun p hp => List.mem_append_left _ hp) (.refl K) (List.prefix_refl φ)) hf) ?_ fun _ _ x => x
  rintro val s1 ⟨K1, φ1, I1, k1, p1, v1⟩
  exact ⟨K1, φ1, ⟨Fr, I1, F, R.mono (fun _ h => h) k1 p1⟩, k1, p1, v1⟩

theorem SSN.nil : SSN c n sc [] sNil := .of .nil
theorem SSN.cons {st : Stmt} {rest : List Stmt} {f g : SF} (h : S1N c n sc st f) (hs : SSN c n sc rest g) : SSN c n sc (st :: rest) (sCons f g) := by
  intro A env Fs K φ hp ρ s fl ρ' hp' hA he I hf
  obtain ⟨⟨fl1, ρ1, hp1⟩, e1, hf⟩ := Option.bind_eq_some_iff.mp hf
  refine wpN_execs_cons (wpN_mono (h A env Fs K φ hp ρ s fl1 ρ1 hp1 hA he I e1) ?_ fun _ _ x => x)
  rintro flow s1 ⟨K1, φ1, I1, k1, p1, v1⟩
  cases v1 with
  | next => exact wpN_mono (hs A env Fs K1 φ1 hp1 ρ1 s1 fl ρ' hp' hA he I1 hf) (fun _ _ h => h.trans k1 p1) fun _ _ x => x
  | brk => cases hf; exact ⟨K1, φ1, I1, k1, p1, .brk⟩
  | cont => cases hf; exact ⟨K1, φ1, I1, k1, p1, .cont⟩
  | ret v => cases hf; exact ⟨K1, φ1, I1, k1, p1, .ret v⟩
theorem S1N.exp {e : Expr} {pos : Pos} {f : EF} (h : SEN c n sc e f) (hi : ∀ env : Env, env.scope = sc → interactive env = false) (hs : ∀ env : Env, swapsWith e none pos.line env = pure false) : S1N c n sc (.Expr e pos) (sExp f) := by
  intro A env Fs K φ hp ρ s fl ρ' hp' hA he I hf
  obtain ⟨⟨v, hp1⟩, e1, hf⟩ := Option.map_eq_some_iff.mp hf
  cases hf
  rw [exec_Expr env e pos (hi env he) (hs env)]
  refine wpN_bind (wpN_standAt (wpN_bind (wpN_mono (I.evalN h hA he e1) ?_ fun _ _ x => x)))
  rintro val s1 ⟨K1, φ1, I1, k1, p1, v1⟩
  exact wpN.any (wpAny_dropValue ⟨K1, φ1, I1, k1, p1, .next⟩)
theorem S1N.asg {x : Str} {p pos : Pos} {value : Expr} {f : EF} (i : Nat) (k : NameKind) (hx : sc.names[i]? = some (x, k)) (hk : k = .local ∨ k = .cell) (h : SEN c n sc value f)
    (hs : ∀ env : Env, env.scope = sc → swapsWith value (some (.Name x p)) pos.line env = pure false) : S1N c n sc (.Assign [.Name x p] value pos) (sAsg (aVar i) f) := by
  intro A env Fs K φ hp ρ s fl ρ' hp' hA he I hf
  obtain ⟨⟨v, hp1⟩, e1, hf⟩ := Option.bind_eq_some_iff.mp hf
  cases hf
  rw [exec_Assign_Name env x p value pos (hs env he)]
  refine wpN_bind (wpN_standAt (wpN_bind (wpN_mono (I.evalN h hA he e1) ?_ fun _ _ x => x)))
  rintro val s1 ⟨K1, φ1, I1, k1, p1, v1⟩
  subst he
  exact wpN.any (wpAny_bind (wpAny_standAt (wpAny_bind (wpAny_bindName (wpAny_mono (I1.store hx hk v1) (fun _ _ h => wpAny_pure ⟨K1, φ1, h, k1, p1, .next⟩) fun _ _ x => x)))))
theorem S1N.ret {e : Expr} {pos : Pos} {f : EF} (h : SEN c n sc e f) : S1N c n sc (.Return (some e) pos) (sRet f) := by
  intro A env Fs K φ hp ρ s fl ρ' hp' hA he I hf
  obtain ⟨⟨v, hp1⟩, e1, hf⟩ := Option.map_eq_some_iff.mp hf
  cases hf
  rw [exec_Return_some]
  refine wpN_bind (wpN_standAt (wpN_bind (wpN_mono (I.evalN h hA he e1) ?_ fun _ _ x => x)))
  rintro val s1 ⟨K1, φ1, I1, k1, p1, v1⟩
  exact wpN_pure ⟨K1, φ1, I1, k1, p1, .ret v1⟩
theorem S1N.ite {t : Expr} {b o : List Stmt} {pos : Pos} {ft : TF} {f g : SF} (ht : ST c n sc t ft) (hb : SSN c n sc b f) (ho : SSN c n sc o g) : S1N c n sc (.If t b o pos) (sIf ft f g) := by
  intro A env Fs K φ hp ρ s fl ρ' hp' hA he I hf
  obtain ⟨⟨v, hp1⟩, e1, hf⟩ := Option.bind_eq_some_iff.mp hf
  rw [exec_If]
  refine wpN_bind (wpN_standAt (wpN_bind (wpN_mono (wpN.any (I.test ht hA he e1)) ?_ fun _ _ x => x)))
  rintro val s1 ⟨rfl, K1, φ1, I1, k1, p1⟩
  cases val with
  | true => exact wpN_mono (hb A env Fs K1 φ1 hp1 ρ s1 fl ρ' hp' hA he I1 hf) (fun _ _ h => h.trans k1 p1) fun _ _ x => x
  | false => exact wpN_mono (ho A env Fs K1 φ1 hp1 ρ s1 fl ρ' hp' hA he I1 hf) (fun _ _ h => h.trans k1 p1) fun _ _ x => x
theorem S1N.while {t : Expr} {b : List Stmt} {pos : Pos} {ft : TF} {f : SF} (k : Nat) (ht : ST c n sc t ft) (hb : SSN c n sc b f) : S1N c n sc (.While t b [] pos) (whileL ft f k) := by
  intro A env Fs K φ hp ρ s fl ρ' hp' hA he I hf
  rw [exec_While]
  refine wpN_bind (wpN_standAt (wpN_runOwn (codeN_whileLoop (WhI c Fs K φ env ft f fl ρ' hp') ?_ k ⟨K, φ, hp, ρ, I, .refl K, List.prefix_refl φ, hf⟩) rfl hA.1))
  rintro m s1 ⟨K1, φ1, hp1, ρ1, I1, k1, p1, hf1⟩
  cases m with
  | zero => cases hf1
  | succ m =>
    obtain ⟨⟨v, hp2⟩, e1, hf1⟩ := Option.bind_eq_some_iff.mp hf1
    refine wpAny_mono (I1.test ht hA he e1) ?_ fun _ _ x => x.elim
    rintro val s2 ⟨rfl, K2, φ2, I2, k2, p2⟩
    cases val with
    | false =>
      cases hf1
      exact ⟨K2, φ2, I2, k1.trans k2, p1.trans p2, .next⟩
    | true =>
      obtain ⟨⟨fl3, ρ3, hp3⟩, e3, hf1⟩ := Option.bind_eq_some_iff.mp hf1
      refine wpN_mono (hb A env Fs K2 φ2 hp2 ρ1 s2 fl3 ρ3 hp3 hA he I2 e3) ?_ fun _ _ x => x.elim
      rintro flow s3 ⟨K3, φ3, I3, k3, p3, v3⟩
      cases v3 with
      | next => exact ⟨m, Nat.lt_succ_self m, K3, φ3, hp3, ρ3, I3, (k1.trans k2).trans k3, (p1.trans p2).trans p3, hf1⟩
      | cont => exact ⟨m, Nat.lt_succ_self m, K3, φ3, hp3, ρ3, I3, (k1.trans k2).trans k3, (p1.trans p2).trans p3, hf1⟩
      | brk => cases hf1; exact ⟨K3, φ3, I3, (k1.trans k2).trans k3, (p1.trans p2).trans p3, .next⟩
      | ret v => cases hf1; exact ⟨K3, φ3, I3, (k1.trans k2).trans k3, (p1.trans p2).trans p3, .ret v⟩
theorem S1N.for {t iter : Expr} {b : List Stmt} {pos : Pos} {a : V → Loc → Option Loc} {e : EF} {f : SF} (he : SE c n sc iter e) (ha : SA c n sc t a) (hb : SSN c n sc b f) (hs : ∀ env x, foldedSetIterable iter env x = pure x) :
    S1N c n sc (.For t iter b [] pos) (sFor e a f) := by
  intro A env Fs K φ hp ρ s fl ρ' hp' hA hsc I hf
  obtain ⟨⟨v, hp1⟩, e1, hf⟩ := Option.bind_eq_some_iff.mp hf
  obtain ⟨xs, e2, hf⟩ := Option.bind_eq_some_iff.mp hf
  rw [exec_For]
  refine wpN_bind (wpN_standAt (wpN_bind (wpN_mono (wpN.any (I.eval he hA hsc e1)) ?_ fun _ _ x => x)))
  rintro val s1 ⟨K1, φ1, ⟨Fr, I1, F1, R1⟩, k1, p1, v1⟩
  rw [hs env]
  refine wpN_bind (wpN_pure (wpN_bind (wpN_standAt (wpN_bind (wpN_holding (wpN_mono (wpN.any (pyIter_of hA I1 v1 e2)) ?_ fun _ _ x => x))))))
  rintro r s2 ⟨it, o, rfl, I2, st2⟩
  refine wpN_runOwn (codeN_forLoop (FoI c Fs K φ env a f fl ρ' hp' it) ?_ xs.length
    ⟨K1, φ1, hp1, ρ, o, xs, StM.of_own I2 F1 R1, k1, p1, st2, rfl, hf⟩) rfl hA.1
  rintro m s3 ⟨K3, φ3, hp3, ρ3, o3, ys, I3, k3, p3, st3, rfl, hf3⟩
  obtain ⟨Fr3, J3, F3, R3⟩ := I3.own
  cases ys with
  | nil =>
    cases hf3
    refine wpAny_mono (st3.stop hA J3) ?_ fun _ _ x => x.elim
    rintro r s4 ⟨rfl, J4⟩
    exact ⟨K3, φ3, ⟨Fr3, J4, F3, R3⟩, k3, p3, .next⟩
  | cons y ys =>
    obtain ⟨ρ4, e4, hf3⟩ := Option.bind_eq_some_iff.mp hf3
    obtain ⟨⟨fl5, ρ5, hp5⟩, e5, hf3⟩ := Option.bind_eq_some_iff.mp hf3
    refine wpAny_mono (st3.next hA J3) ?_ fun _ _ x => x.elim
    rintro r s4 ⟨val4, o4, rfl, v4, J4, st4⟩
    refine wpAny_mono (st4.go (A := A) (Q := fun _ s' => s' = s4) J4 rfl) ?_ fun _ _ x => x.elim
    rintro _ s4' rfl
    refine wpAny_mono (ha A env ((it, o4) :: Fs) K3 φ3 hp3 ρ3 s4' y val4 ρ4 hA hsc (StM.of_own J4 F3 R3) v4 e4) ?_ fun _ _ x => x.elim
    rintro _ s5 ⟨K5, φ5, I5, k5, p5⟩
    refine wpN_mono (hb A env ((it, o4) :: Fs) K5 φ5 hp3 ρ4 s5 fl5 ρ5 hp5 hA hsc I5 e5) ?_ fun _ _ x => x.elim
    rintro flow s6 ⟨K6, φ6, I6, k6, p6, v6⟩
    have kk := (k3.trans k5).trans k6
    have pp := (p3.trans p5).trans p6
    have st6 := st4.mono (k5.trans k6) (p5.trans p6)
    have away : StM c Fs K6 φ6 hp5 env ρ5 s6 := by
      obtain ⟨Fr6, J6, F6, R6⟩ := I6.own
      exact ⟨Fr6, J6.pop, F6, R6⟩
    cases v6 with
    | next => exact ⟨ys.length, Nat.lt_succ_self _, K6, φ6, hp5, ρ5, o4, ys, I6, kk, pp, st6, rfl, hf3⟩
    | cont => exact ⟨ys.length, Nat.lt_succ_self _, K6, φ6, hp5, ρ5, o4, ys, I6, kk, pp, st6, rfl, hf3⟩
    | brk => cases hf3; exact ⟨K6, φ6, away, kk, pp, .next⟩
    | ret v => cases hf3; exact ⟨K6, φ6, away, kk, pp, .ret v⟩
theorem S1N.setA {o value : Expr} {name : Str} {p pos : Pos} {fo fv : EF} {C : Nat} (ho : SE c n sc o fo) (hv : SEN c n sc value fv) (hw : ∀ env : Env, swapsWith value (some (.Attribute o name p)) pos.line env = pure false)
    (hs : findIn c.frag (.ref C) "__setattr__" = some (some (.builtin "object.__setattr__"))) (hpo : plainOver c.frag C = true) (ht : takerIn c.frag C name = some none) (hh : hasDictIn c.frag C = true) :
    S1N c n sc (.Assign [.Attribute o name p] value pos) (sSetA C name fo fv) := by
  intro A env Fs K φ hp ρ s fl ρ' hp' hA he I hf
  obtain ⟨⟨v, hp1⟩, e1, hf⟩ := Option.bind_eq_some_iff.mp hf
  obtain ⟨⟨a, hp2⟩, e2, hf⟩ := Option.bind_eq_some_iff.mp hf
  obtain ⟨hp3, e3, hf⟩ := Option.map_eq_some_iff.mp hf
  cases hf
  rw [plainObj_exec_Assign_Attribute o name p value pos (hw env)]
  refine wpN_bind (wpN_standAt (wpN_bind (wpN_mono (I.evalN hv hA he e1) ?_ fun _ _ x => x)))
  rintro z s1 ⟨K1, φ1, I1, k1, p1, v1⟩
  refine wpN.any (wpAny_bind ?_)
  have fin : wpAny c.M A (PySem.eval o env) (fun ov s₂ => wpAny c.M A (setAttr ov name z) (fun _ s3 => PostS c Fs K φ hp' env ρ .next .next s3) NoE s₂) NoE s1 := by
    refine wpAny_mono (I1.eval ho hA he e2) ?_ fun _ _ x => x
    rintro x s2 ⟨K2, φ2, ⟨Fr, I2, F2, R2⟩, k2, p2, v2⟩
    dsimp only at e3
    obtain ⟨C1, C1', rfl⟩ : ∃ z z', a = .obj z z' := by cases a <;> first | exact ⟨_, _, rfl⟩ | exact (no e3 rfl).elim
    dsimp only [putField] at e3
    split at e3
    · rename_i hC
      subst hC
      split at e3
      · rename_i fs hm
        split at e3
        · rename_i hlen
          cases e3
          cases v2 with
          | obj h1 h2 h3 h4 h5 =>
            obtain ⟨es, nn, g1, g2, g3, g4, J⟩ := instAt I2 h1 h2 h3 h4 h5 hm
            have X2 : c.frag.In s2.heap := c.X.keeps fun b o e => I2.old e
            have hgl : (getL name es).isSome = true := by
              have := g3 name
              split at this
              · obtain ⟨val, q, _⟩ := this; rw [q]; rfl
              · rw [this]; rfl
            refine set_ns X2 J h3 g1 hs hpo ht hh hgl (by omega) fun h' t hs' hd' => ?_
            refine ⟨K2, φ2, ⟨Fr, I2.set_obj t h5 hm (by simp) hs' ⟨g4, _, _, hd', ?_, g3.put (v1.mono k2 p2) _ _⟩, F2, R2⟩, k1.trans k2, p1.trans p2, .next⟩
            rw [putL_len, nsPut_len, g3.keys]
            split <;> omega
        · cases e3
      · cases e3
    · cases e3
  intro Γ q hΓ
  have := fin Γ q hΓ
  simp only [assign_Attribute, Sem.wp_bind', Sem.wp_holding, Sem.wp_cmd_standAt, Sem.wp_release, Sem.wp_pure']
  exact Sem.wp_mono _ Γ _ (fun ov _ s₂ h₂ => Sem.wp_mono _ Γ _ (fun _ _ s3 h3 => fun Γ' p' _ => h3) (fun _ _ _ h' => h') _ _ (h₂ Γ _ hΓ)) (fun _ _ _ h' => h') _ _ this
end
end Mine
end
section
open PySem PySem.W PyProof.Rows
set_option Elab.async false
set_option linter.unusedVariables false
namespace Mine

section
variable {c : Cx} {n : Nat} {sc : Scope} {Fs : List (Addr × Obj)} {K K' : View} {φ φ' : List Addr} {hp : Hp} {env : Env} {ρ : Loc} {s : Shared} {A : Around}

noncomputable def BSN (c : Cx) (n : Nat) (fv : Value) (g : BF) : Prop :=
  ∀ (A : Around) Fs K φ hp s vs vals v hp', AOk n A → Inv c Fs K φ hp s → VsR c K φ vs vals → g vs hp = some (v, hp') →
    wpN c.M A (call fv vals) (Post c Fs K φ hp' v) NoE s
noncomputable def CSN (c : Cx) (n : Nat) (fv : Value) (g : BF) : Prop :=
  ∀ (A : Around) Fs K φ hp s vs vals v hp', AOk n A → Inv c Fs K φ hp s → VsR c K φ vs vals → g vs hp = some (v, hp') →
    codeN c.M A (.call fv ⟨vals, []⟩) (fun r s' => ∃ val, r = .ok (.ret val) ∧ Post c Fs K φ hp' v val s') s
theorem CSN.of {fv : Value} {g : BF} (h : CS c n fv g) : CSN c n fv g := fun A Fs K φ hp s vs vals v hp' hA I hv hf => codeN.any (h A Fs K φ hp s vs vals v hp' hA I hv hf)
theorem BSN.of {fv : Value} {g : BF} (h : BS c n fv g) : BSN c n fv g := fun A Fs K φ hp s vs vals v hp' hA I hv hf => wpN.any (h A Fs K φ hp s vs vals v hp' hA I hv hf)
theorem CSN.bs {fv : Value} {g : BF} (h : CSN c n fv g) : BSN c n fv g := by
  intro A Fs K φ hp s vs vals v hp' hA I hv hf
  refine wpN_call (codeN_mono (h A Fs K φ hp s vs vals v hp' hA I hv hf) ?_)
  rintro r s' ⟨val, rfl, hP⟩
  exact hP

theorem callWith_ofN {M : Model} {f : Value} {first : List Value} {pos : Pos} {Q : Value → Shared → Prop} {P : Heap → Prop} {args : List (Bool × Sem Value)} (hplain : args.any (·.1) = false)
    (hk : ∀ h, P h → ∃ k, (k = Keeper.frame ∨ k = Keeper.machine ∨ k = Keeper.boundFrame) ∧ Looks M h (keeperOf f) k)
    (h : wpN M A (evalArgs f true args []) (fun a s₁ => P s₁.heap ∧ wpN M A (call f (first ++ a.pos) a.kw) Q NoE s₁) NoE s) : wpN M A (callWith pos f first args []) Q NoE s := by
  unfold callWith
  refine wpN_bind (wpN_holding (wpN_mono h (fun a s₁ h₁ => wpN_bind (wpN_standAt ?_)) fun _ _ x => x))
  obtain ⟨k, hk', L⟩ := hk _ h₁.1
  simp only [hplain, List.any_nil, Bool.or_false]
  refine wpN_bind (wpN.any (L.here ?_))
  have tail : ∀ {t : Sem Value}, wpN M A t Q NoE s₁ → wpN M A (t >>= fun r => holding [r] point >>= fun _ => pure r) Q NoE s₁ :=
    fun ht => wpN_bind (wpN_mono ht (fun r s₂ hr => wpN.any (wpAny_bind (wpAny_holding (wpAny_point (wpAny_pure hr))))) fun _ _ x => x)
  have marked (mk : Value) : wpN M A (callMarked mk f (first ++ a.pos) a.kw) Q NoE s₁ := by unfold callMarked; exact wpN_keep h₁.2
  rcases hk' with rfl | rfl | rfl <;> dsimp only <;> first | exact tail h₁.2 | (split <;> first | exact tail h₁.2 | exact tail (marked _))
theorem callWith_SN {fv : Value} {g : BF} {es : List Expr} {fs : List EF} {pos : Pos} {first : List V} {firstv : List Value} {vs : List V} {hp1 hp' : Hp} {v : V} (hk : KeepS c fv) (hb : BSN c n fv g) (hs : SEs c n sc es fs)
    (hA : AOk n A) (he : env.scope = sc) (I : Inv c Fs K φ hp s) (R : EnvR c Fs K φ env ρ) (h1 : VsR c K φ first firstv) (e1 : evL fs ρ hp = some (vs, hp1)) (hf : g (first ++ vs) hp1 = some (v, hp')) :
    wpN c.M A (callWith pos fv firstv (backTo pos (starEach es env)) []) (Post c Fs K φ hp' v) NoE s := by
  refine callWith_ofN (P := fun h => ∀ a o, c.S0.heap.get? a = some o → h.get? a = some o) (hs.1 env pos) hk (wpN.any (evalArgs_of (hs.1 env pos) (wpAny_mono (hs.2 A env Fs K φ hp ρ s vs hp1 pos hA he I R e1) ?_ fun _ _ x => x)))
  rintro vals s1 ⟨K1, φ1, I1, k1, p1, v1⟩
  refine ⟨fun a o e => I1.old e, ?_⟩
  exact wpN_mono (hb A Fs K1 φ1 hp1 s1 _ _ v hp' hA I1 ((h1.mono k1 p1).append v1) hf) (fun _ _ h => h.trans k1 p1) fun _ _ x => x
theorem name_then {x : Str} {p : Pos} {fv : Value} {t : Value → Sem Value} {Q : Value → Shared → Prop} (hx : sc.names.lookup x = some .globalImplicit) (hd : (x == ("__debug__" : Str)) = false) (hg : GName c x fv)
    (he : env.scope = sc) (I : Inv c Fs K φ hp s) (R : EnvR c Fs K φ env ρ) (h : wpN c.M A (t fv) Q NoE s) : wpN c.M A (PySem.eval (.Name x p) env >>= t) Q NoE s := by
  refine wpN_bind (wpN.any ?_)
  have hG : s.heap.Ns env.globals c.mg := R.glob ▸ c.g.keeps fun b o e => I.old e
  have hB : s.heap.Ns env.builtins c.mb := R.blt ▸ c.b.keeps fun b o e => I.old e
  rcases hg with hg | ⟨hg, hb'⟩
  · exact Calls.Name_function_global R.kind (by subst he; exact hx) (Calls.loadGlobal_global hG hg h) hd
  · exact Calls.Name_function_global R.kind (by subst he; exact hx) (Calls.loadGlobal_builtin hG hg hB hb' h) hd
theorem SEN.call {x : Str} {p pos : Pos} {es : List Expr} {fs : List EF} (fv : Value) {g : BF} (hx : sc.names.lookup x = some .globalImplicit) (hd : (x == ("__debug__" : Str)) = false) (hg : GName c x fv) (hk : KeepS c fv) (hb : BSN c n fv g) (hs : SEs c n sc es fs) :
    SEN c n sc (.Call (.Name x p) es [] pos) (eCall g fs) := by
  intro A env Fs K φ hp ρ s v hp' hA he I R hf
  obtain ⟨⟨vs, hp1⟩, e1, hf⟩ := Option.bind_eq_some_iff.mp hf
  show wpN c.M A (do callWith pos (← PySem.eval (.Name x p) env) [] (backTo pos (starEach es env)) (backToKw pos (keywordEach [] env))) _ NoE s
  exact name_then hx hd hg he I R (callWith_SN hk hb hs hA he I R .nil e1 (by simpa using hf))
/-- one argument, evaluated in such contexts -/
theorem SEN.call1 {x : Str} {p pos : Pos} {e : Expr} {f : EF} (fv : Value) {g : BF} (hx : sc.names.lookup x = some .globalImplicit) (hd : (x == ("__debug__" : Str)) = false) (hg : GName c x fv) (hk : KeepS c fv) (hb : BSN c n fv g)
    (he0 : ∀ env, backTo pos (starEach [e] env) = [(false, PySem.eval e env)]) (h : SEN c n sc e f) : SEN c n sc (.Call (.Name x p) [e] [] pos) (eCall g [f]) := by
  intro A env Fs K φ hp ρ s v hp' hA he I R hf
  obtain ⟨⟨vs, hp1⟩, e1, hf⟩ := Option.bind_eq_some_iff.mp hf
  obtain ⟨⟨u, hp2⟩, e2, e1⟩ := Option.bind_eq_some_iff.mp e1
  simp only [evL, Option.bind_some, Option.some.injEq, Prod.mk.injEq] at e1
  obtain ⟨rfl, rfl⟩ := e1
  show wpN c.M A (do callWith pos (← PySem.eval (.Name x p) env) [] (backTo pos (starEach [e] env)) (backToKw pos (keywordEach [] env))) _ NoE s
  refine name_then hx hd hg he I R ?_
  rw [he0]
  refine callWith_ofN (P := fun h => ∀ a o, c.S0.heap.get? a = some o → h.get? a = some o) rfl hk ?_
  unfold evalArgs
  show wpN c.M A (spliced [(false, PySem.eval e env)] >>= _) _ _ _
  rw [spliced]
  refine wpN_bind (wpN_bind (wpN_mono (h A env Fs K φ hp ρ s u _ hA he I R e2) ?_ fun _ _ x => x))
  rintro val s1 ⟨K1, φ1, I1, k1, p1, v1⟩
  simp only [Bool.false_eq_true, if_false]
  refine wpN_bind (wpN_pure (wpN_bind (wpN_holding (wpN.any (Calls.spliced_nil (wpN_pure (wpN_bind (wpN_pure ?_))))))))
  refine wpN_holding (wpN_bind (wpN.any (wpAny_pure (wpN_bind (wpN.any (wpAny_pure (wpN_pure ?_)))))))
  refine ⟨fun a o e => I1.old e, ?_⟩
  exact wpN_mono (hb A Fs K1 φ1 _ s1 _ _ v hp' hA I1 (VsR.cons v1 .nil) hf) (fun _ _ h => h.trans k1 p1) fun _ _ x => x
theorem SEN.cmp {l r : Expr} {op : CmpOp} {pos : Pos} {f g : EF} {o : V → V → Hp → Option Bool} (hl : SEN c n sc l f) (hr : SE c n sc r g) (ho : CmpS c n op o) (hm : behindInMarks op r = false) : SEN c n sc (.Compare l [op] [r] pos) (eCmp o f g) := by
  intro A env Fs K φ hp ρ s v hp' hA he I R hf
  obtain ⟨⟨t, hq⟩, h1, e⟩ := Option.map_eq_some_iff.mp hf
  clear hf
  cases e
  obtain ⟨⟨a, hp1⟩, e1, h1⟩ := Option.bind_eq_some_iff.mp h1
  obtain ⟨⟨b, hp2⟩, e2, h1⟩ := Option.bind_eq_some_iff.mp h1
  obtain ⟨t, e3, h1⟩ := Option.map_eq_some_iff.mp h1
  cases h1
  have main : wpN c.M A (PySem.eval l env) (fun a s₁ => wpAny c.M A (PySem.eval r env) (fun b s₂ => wpAny c.M A (compareOp op a b) (Post c Fs K φ hp2 (.bool t)) NoE s₂) NoE s₁) NoE s := by
    refine wpN_mono (hl A env Fs K φ hp ρ s a hp1 hA he I R e1) ?_ fun _ _ x => x
    rintro x s1 ⟨K1, φ1, I1, k1, p1, v1⟩
    refine wpAny_mono (hr A env Fs K1 φ1 hp1 ρ s1 b _ hA he I1 (R.mono (fun _ h => h) k1 p1) e2) ?_ fun _ _ x => x
    rintro y s2 ⟨K2, φ2, I2, k2, p2, v2⟩
    refine wpAny_mono (ho A Fs K2 φ2 _ s2 a b x y t hA I2 (v1.mono k2 p2) v2 e3) ?_ fun _ _ x => x
    rintro z s3 ⟨rfl, I3⟩
    exact ⟨K2, φ2, I3, k1.trans k2, p1.trans p2, .bool _⟩
  intro Γ q hΓ hC
  have h := main Γ q hΓ hC
  simp only [eval_Compare1, markedBehindIn_of_false hm, Sem.wp_bind', Sem.wp_holding, Sem.wp_cmd_standAt, Sem.wp_operate]
  exact Sem.wp_mono _ Γ _ (fun a p₁ s₁ h₁ => Sem.wp_mono _ Γ _ (fun b _ s₂ h₂ => h₂ Γ _ hΓ) (fun _ _ _ h' => h') _ _ (h₁ Γ p₁ hΓ)) (fun _ _ _ h' => h') _ _ h

theorem meth_wN {o : Expr} {name : Str} {apos pos : Pos} {es : List Expr} {Q : Value → Shared → Prop} {M : Model} (hbase : ∀ env whole, attributeBase o name env whole = whole)
    (hl : (apos.endLine == pos.line) = true) (hlen : es.length < 30) (hplain : (backTo pos (starEach es env)).any (·.1) = false)
    (h : wpAny M A (PySem.eval o env) (fun ov s1 => ∀ pl, wpAny M A (getMethod ov name pl) (fun r s2 => wpN M A (callWith pos r.1 r.2 (backTo pos (starEach es env)) []) Q NoE s2) NoE s1) NoE s) :
    wpN M A (PySem.eval (.Call (.Attribute o name apos) es [] pos) env) Q NoE s := by
  show wpN M A (do
    let ov ← attributeBase o name env (PySem.eval o env)
    standAt apos.atName
    methodCall o name apos pos env ov (es.length + 0) (backTo pos (starEach es env)) []) Q NoE s
  rw [hbase]
  refine wpN_bind (wpN_mono (wpN.any h) (fun ov s1 h1 => wpN_bind (wpN_standAt ?_)) fun _ _ x => x)
  have hform : methodCallForm (es.length + 0) (backTo pos (starEach es env)) [] = true := by
    unfold methodCallForm
    have h0 : (backTo pos (starEach es env)).all (fun x => !x.1) = true := by
      rw [List.all_eq_not_any_not]
      simp only [Bool.not_not]
      rw [hplain]; rfl
    rw [h0]
    simp only [List.all_nil, Bool.and_self, Bool.true_and, List.isEmpty_nil, if_true, decide_eq_true_eq]
    omega
  unfold methodCall
  rw [hform]
  refine wpN_bind (wpN_holding ?_)
  show wpN M A (getMethod ov name (do return (← importBound o env).getD true)) _ NoE s1
  refine wpN_mono (wpN.any (h1 _)) (fun r s2 h2 => ?_) fun _ _ x => x
  obtain ⟨f, first⟩ := r
  show wpN M A (methodCallPos true o env apos pos >>= fun callPos => callWith callPos f first (backTo pos (starEach es env)) []) Q NoE s2
  have hp : methodCallPos true o env apos pos = pure pos := by
    unfold methodCallPos
    rw [hl]; rfl
  rw [hp]
  exact wpN_bind (wpN_pure h2)
theorem SEN.meth {o : Expr} {name : Str} {apos pos : Pos} {es : List Expr} {f : EF} {fs : List EF} {g : BF} {C fa : Nat} (hbase : ∀ env whole, attributeBase o name env whole = whole)
    (hl : (apos.endLine == pos.line) = true) (hlen : es.length < 30) (hg : plainGet c.frag C name = true) (hf : findIn c.frag (.ref C) name = some (some (.ref fa))) (ht : typeIn c.frag (.ref fa) = some (.type "function"))
    (hk : KeepS c (.ref fa)) (hb : BSN c n (.ref fa) g) (ho : SE c n sc o f) (hs : SEs c n sc es fs) : SEN c n sc (.Call (.Attribute o name apos) es [] pos) (eMeth C name g f fs) := by
  intro A env Fs K φ hp ρ s v hp' hA he I R hf'
  obtain ⟨⟨a, hp1⟩, e1, hf'⟩ := Option.bind_eq_some_iff.mp hf'
  split at hf'
  · rename_i hno
    obtain ⟨⟨vs, hp2⟩, e2, hf'⟩ := Option.bind_eq_some_iff.mp hf'
    refine meth_wN hbase hl hlen (hs.1 env pos) (wpAny_mono (ho A env Fs K φ hp ρ s a _ hA he I R e1) ?_ fun _ _ x => x)
    rintro x s1 ⟨K1, φ1, I1, k1, p1, v1⟩
    intro pl
    obtain ⟨d, fs', rfl, hm, hno⟩ := noField_inv hno
    have v1' := v1
    cases v1 with
    | obj h1 h2 h3 h4 h5 =>
      obtain ⟨es', nn, g1, g2, g3, g4, J⟩ := instAt I1 h1 h2 h3 h4 h5 hm
      have X1 : c.frag.In s1.heap := c.X.keeps fun b o e => I1.old e
      refine method_fn X1 J (plainGet_of hg).1 (plainGet_of hg).2 hf ht ?_ ?_
      · have := g3 name
        rw [hno] at this
        show (lookIn name (dictOf es' nn)).map _ = _
        rw [lookIn_dict, this]; rfl
      · exact wpN_mono (callWith_SN hk hb hs hA he I1 (R.mono (fun _ h => h) k1 p1) (VsR.cons v1' .nil) e2 hf') (fun _ _ h => h.trans k1 p1) fun _ _ x => x
  · cases hf'

theorem codeN_func {prog : Program} {w : World} {body : List Stmt} {R : Result → Shared → Prop} (h : wpN (model prog w) (A.deeper env) (execs body env) (fun f s' => R (.ok (.ret (match f with | .ret v => v | _ => .none))) s') NoE s) : codeN (model prog w) A (.func body env) R s := by
  refine codeN_of_tree ?_
  show wpN _ (A.deeper env) (do point; match ← (execs body env).onRaise (leaving env) with | .ret v => ret v | _ => ret .none) _ _ s
  refine wpN_bind (wpN.any (wpAny_point (wpN_bind (wpN_onRaise (wpN_mono h (fun f s' h' => ?_) fun _ _ h' => h')))))
  cases f <;> exact wpN_pure h'
theorem codeN_call_function {prog : Program} {w : World} {a : Addr} {args : Args} {o : Obj} {fd : FuncData} {body : List Stmt} {R : Result → Shared → Prop} (hroom : A.depth < recursionLimit) (ho : s.heap.get? a = some o)
    (hd' : o.data = .func fd) (hco : fd.scope.isCoroutine = false) (hgen : fd.scope.isGenerator = false) (hbody : fd.body = .stmts body) (hcd : s.heap.CodeRec fd.code fd.qualname)
    (h : wpAny (model prog w) A.in1 (bindArgs fd args) (fun binds s₁ =>
      wpAny (model prog w) A.in1 (newFunctionEnv fd.scope fd.globals fd.closure binds (fd.qualname ++ ".<locals>.") (some a) fd.code none fd.builtins)
        (fun env s₂ => s₂.heap.NoLimit ∧ codeN (model prog w) A (.func body env) R s₂) NoE s₁) NoE s) :
    codeN (model prog w) A (.call (.ref a) args) R s := by
  refine codeN_of_tree ?_
  show wpN _ A.in1 (callAny (.ref a) args) _ _ s
  simp only [callAny]
  refine wpN_bind (wpN.any (wpAny_load ho ?_))
  obtain ⟨c, oc, vs, tq, hc, hoc, hdc, hq⟩ := hcd
  simp only [hd', callFunction, hco, hgen, hbody, hc]
  rw [hc] at h
  refine wpN_bind (m := field (.ref c) 1) (wpN.any (wpAny_field hoc hdc hq (wpN_bind (wpN_pure ?_))))
  exact wpN_bind (wpN_mono (wpN.any h) (fun binds s₁ h₁ => wpN_bind (wpN_mono (wpN.any h₁) (fun env s₂ h₂ => wpN_bind (wpN.any (wpAny_enterFrame h₂.1 hroom
    (wpN_pure ⟨rfl, rfl, h₂.2⟩)))) fun _ _ h' => h'.elim)) fun _ _ h' => h'.elim)
end
end Mine
end
section
open PySem PySem.W PyProof.Rows
set_option Elab.async false
set_option linter.unusedVariables false
namespace Mine

section
variable {c : Cx} {n : Nat} {sc : Scope} {Fs : List (Addr × Obj)} {K K' : View} {φ φ' : List Addr} {hp : Hp} {env : Env} {ρ : Loc} {s : Shared} {A : Around}

theorem CSN.fn {fa : Addr} {o : Obj} {fd : FuncData} {body : List Stmt} {ps : List Nat} {pn : List Str} {size : Nat} {f : SF}
    (ho : c.S0.heap.get? fa = some o) (hd : o.data = .func fd) (hbody : fd.body = .stmts body) (hcd : c.S0.heap.CodeRec fd.code fd.qualname)
    (hg : fd.globals = mainGlobals) (hbl : fd.builtins = builtinsNs) (hcl : fd.closure = [])
    (hk : fd.scope.kind = .function) (hco : fd.scope.isCoroutine = false) (hgen : fd.scope.isGenerator = false)
    (hnd : (fd.scope.names.map (·.1)).Nodup) (hpn : pn.Nodup) (hpar : parOk fd.scope.names pn ps = true)
    (hcells : ∀ m, ((cellsFrom m fd.scope.names []).map (·.1)).Nodup ∧ ∀ x, fd.scope.names.lookup x = some .cell → ((cellsFrom m fd.scope.names []).lookup x).isSome = true)
    (dv : List V) (dvals : List Value) (hdv : ∀ K φ, VsR c K φ dv dvals)
    (hbind : ∀ vals : List Value, vals.length + dvals.length = ps.length → ∀ h : Heap, (∀ a o, c.S0.heap.get? a = some o → h.get? a = some o) → Looks c.M h (bindArgs fd ⟨vals, []⟩) (pn.zip (vals ++ dvals)))
    (h : SSN c n fd.scope body f) : CSN c (n + 1) (.ref fa) (fnF ps size f dv) := by
  intro A Fs K φ hp s vs0 vals0 v hp' hA I hv0 hf
  unfold fnF at hf
  have hv := hv0.append (hdv K φ)
  have hbind0 : (vs0 ++ dv).length = ps.length → Looks c.M s.heap (bindArgs fd ⟨vals0, []⟩) (pn.zip (vals0 ++ dvals)) := fun hl => hbind vals0 (by rw [List.length_append, ← hv0.1, ← (hdv K φ).1] at hl; exact hl) s.heap fun a o e => I.old e
  generalize hvs : vs0 ++ dv = vs at hv hf hbind0
  generalize hvals : vals0 ++ dvals = vals at hv hbind0
  split at hf
  · rename_i hlen
    obtain ⟨⟨fl, ρ', hp1⟩, e1, e2⟩ := Option.map_eq_some_iff.mp hf
    cases e2
    obtain ⟨hpl, hpg⟩ := parOk_get hpar
    have hvl : vals.length = ps.length := hv.1.trans hlen
    have kinds : ∀ x ∈ pn.zip vals, ∃ k, fd.scope.names.lookup x.1 = some k ∧ (k = .local ∨ k = .cell) := fun x hx => by
      obtain ⟨j, hj⟩ := List.getElem?_of_mem hx
      obtain ⟨hj1, hj2⟩ := List.getElem?_zip_eq_some.mp hj
      have hjl : j < ps.length := by rw [← hpl]; exact (List.getElem?_eq_some_iff.mp hj1).1
      obtain ⟨y, k, g1, g2, g3⟩ := hpg j _ (List.getElem?_eq_getElem hjl)
      rw [hj1] at g1; cases g1
      exact ⟨k, lookup_of_slot hnd g2, g3⟩
    refine codeN_call_function hA.room (I.old ho) hd hco hgen hbody (hcd.keeps fun b o e => I.old e) ?_
    rw [hg, hbl, hcl]
    refine (hbind0 hlen).here (wpAny_newFunctionEnv_cells hk (fun x hx => ?_) fun env' he s' X => ?_)
    · obtain ⟨k, q1, q2⟩ := kinds x hx
      rcases q2 with rfl | rfl
      · exact .inl q1
      · exact .inr ⟨q1, (hcells _).2 _ q1⟩
    have hsc : env'.scope = fd.scope := by rw [he]; rfl
    have hloc : env'.locals = s.heap.objs.size := by rw [he]; rfl
    have hce : env'.cells = cellsFrom (s.heap.objs.size + 1) fd.scope.names [] := by rw [he]; rfl
    have hgl : env'.globals = mainGlobals := by rw [he]; rfl
    have hbu : env'.builtins = builtinsNs := by rw [he]; rfl
    obtain ⟨h1, tk1, hs', hk1⟩ := X.done
    subst hs'
    have ndC : (env'.cells.map (·.1)).Nodup := by rw [hce]; exact (hcells _).1
    obtain ⟨oL, es, ep, hL, hLd, hLs, hLf⟩ := X.toInCall.ns
    obtain ⟨Cl, c1, c2, c3⟩ := cells_objs (h := h1) (cm := bindC env'.kindOf (pn.zip vals) fun _ => none) (cs := env'.cells) fun m b hm => X.cell m b (lookup_of_mem ndC hm)
    have fresh : ∀ a, s.heap.objs.size ≤ a → K a = none ∧ a ∉ φ ∧ a ∉ Fs.map (·.1) := fun a ha => by
      refine ⟨?_, fun hm => ?_, fun hm => ?_⟩
      · cases q : K a with
        | none => rfl
        | some o => exact absurd (Heap.lt_size (I.keep _ _ q)) (Nat.not_lt.mpr ha)
      · obtain ⟨i, hi⟩ := List.getElem?_of_mem hm
        obtain ⟨ob, q⟩ := I.there hi
        exact absurd (Heap.lt_size q) (Nat.not_lt.mpr ha)
      · obtain ⟨p, hp, rfl⟩ := List.mem_map.mp hm
        exact absurd (Heap.lt_size (I.fs p hp).1) (Nat.not_lt.mpr ha)
    have above : ∀ a, a ∈ env'.cells.map (·.2) → env'.locals < a := fun a ha => by
      obtain ⟨⟨m, b⟩, hm, rfl⟩ := List.mem_map.mp ha
      exact X.above m b hm
    have I1 : Inv c (((env'.locals, oL) :: Cl) ++ Fs) K φ hp { s with heap := h1, toks := tk1 } := by
      refine (I.grow (t := tk1) hk1).add (fun p hm => ?_) ?_
      · rcases List.mem_cons.mp hm with rfl | hm
        · exact ⟨hL, fresh _ (Nat.le_of_eq hloc.symm)⟩
        · refine ⟨c2 p hm, fresh _ ?_⟩
          have hlt := above p.1 (c1 ▸ List.mem_map_of_mem hm)
          rw [hloc] at hlt
          exact Nat.le_of_lt hlt
      · rw [List.map_cons, List.nodup_cons, c1]
        refine ⟨fun hm => Nat.lt_irrefl _ (above _ hm), ?_⟩
        have := X.apart
        rw [List.Nodup, List.pairwise_map]
        exact this
    have F1 : FrOk env' ((env'.locals, oL) :: Cl) := by
      refine ⟨⟨oL, es, ep, Cl, rfl, hLd, hLs⟩, fun x ca hx => ?_, fun x y ca hx hy => ?_, fun x hx => ?_⟩
      · obtain ⟨o, q1, q2⟩ := c3 x ca (mem_of_lookup hx)
        exact ⟨o, _, .tail _ q1, q2⟩
      · have m1 := mem_of_lookup hx
        have m2 := mem_of_lookup hy
        obtain ⟨i, hi⟩ := List.getElem?_of_mem m1
        obtain ⟨j, hj⟩ := List.getElem?_of_mem m2
        have ap : (env'.cells.map (·.2)).Nodup := by rw [List.Nodup, List.pairwise_map]; exact X.apart
        have a1 : (env'.cells.map (·.2))[i]? = some ca := by rw [List.getElem?_map, hi]; rfl
        have a2 : (env'.cells.map (·.2))[j]? = some ca := by rw [List.getElem?_map, hj]; rfl
        have : i = j := (List.getElem?_inj (List.getElem?_eq_some_iff.mp a1).1 ap).mp (a1.trans a2.symm)
        subst this
        rw [hi] at hj; cases hj; rfl
      · rw [hce]; exact (hcells _).2 x (by have := hx; unfold Env.kindOf at this; rw [hsc] at this; exact this)
    have slot : ∀ (i : Nat) (u : V), (setAll ps vs (List.replicate size none))[i]? = some (some u) → ∃ (j : Nat) (x : Str) (k : NameKind) (y : Value), ps[j]? = some i ∧ vs[j]? = some u ∧ (pn.zip vals)[j]? = some (x, y) ∧ fd.scope.names[i]? = some (x, k) ∧ VR c K φ u y := fun i u e => by
      rcases setAll_get e with ⟨j, q1, q2⟩ | q
      · obtain ⟨x, k, g1, g2, g3⟩ := hpg j i q1
        obtain ⟨y, y1, y2⟩ := hv.get q2
        exact ⟨j, x, k, y, q1, q2, List.getElem?_zip_eq_some.mpr ⟨g1, y1⟩, g2, y2⟩
      · rw [List.getElem?_replicate] at q; split at q <;> cases q
    have ndz : ((pn.zip vals).map (·.1)).Nodup := by
      rw [List.map_fst_zip (by rw [hpl, hvl]; exact Nat.le_refl _)]; exact hpn
    have R1 : EnvR c ((env'.locals, oL) :: Cl) K φ env' (setAll ps vs (List.replicate size none)) := by
      refine ⟨by rw [hsc]; exact hk, hgl, hbu, by rw [hsc]; exact hnd, F1.has, fun x ca hx => (by rw [List.map_cons, c1]; exact List.mem_cons_of_mem _ (List.mem_map.mpr ⟨_, mem_of_lookup hx, rfl⟩)), ⟨oL, es, ep, .head _, hLd, hLs, fun i x u hx hu => ?_⟩, fun i x u hx hu => ?_⟩
      · obtain ⟨j, x', k, y, q1, q2, q3, q4, q5⟩ := slot i u hu
        rw [hsc, q4] at hx; cases hx
        refine ⟨y, ?_, q5⟩
        rw [hLf]
        exact bindL_at ndz q3 (by unfold Env.kindOf; rw [hsc]; exact lookup_of_slot hnd q4)
      · obtain ⟨j, x', k, y, q1, q2, q3, q4, q5⟩ := slot i u hu
        rw [hsc, q4] at hx; cases hx
        have hlk := lookup_of_slot hnd q4
        obtain ⟨ca, hca⟩ := Option.isSome_iff_exists.mp ((hcells (s.heap.objs.size + 1)).2 x hlk)
        rw [← hce] at hca
        obtain ⟨o, g1, g2⟩ := c3 x ca (mem_of_lookup hca)
        refine ⟨ca, o, y, hca, .tail _ g1, ?_, q5⟩
        rw [g2, bindC_at ndz q3 (by unfold Env.kindOf; rw [hsc]; exact hlk)]
    refine ⟨c.nolimit.keeps fun b o e => hk1 _ _ (I.old e), codeN_func ?_⟩
    refine wpN_mono (h (A.deeper env') env' Fs K φ hp _ _ fl ρ' hp1 hA.deeper hsc ⟨_, I1, F1, R1⟩ e1) ?_ fun _ _ x => x.elim
    rintro flow s2 ⟨K2, φ2, ⟨Fr2, I2, F2, R2⟩, k2, p2, v2⟩
    refine ⟨_, rfl, K2, φ2, I2.pops, k2, p2, ?_⟩
    cases v2 with
    | ret h => exact h
    | _ => exact .none
  · cases hf
end
section
variable {prog : Program} {w : World} {A : Around} {s : Shared} {C : Addr} {R : Result → Shared → Prop} {h : Heap} {g : Array GenState} {d : Drawn} {t : Nat} {os : OsState}
theorem callSpecialN {M : Model} {E : Value → Shared → Prop} {self f g : Value} {name : Str} {args first : List Value} {Q : Option Value → Shared → Prop} (h1 : Looks M s.heap (specialOf self name) (some f)) (h2 : Looks M s.heap (bindSpecial f self) (g, first))
    (h : wpN M A (call g (first ++ args)) (fun v s' => Q (some v) s') E s) : wpN M A (callSpecial? self name args) Q E s := by
  unfold callSpecial?
  refine wpN_bind (wpN.any (h1.here ?_))
  refine wpN_holding (wpN_bind (wpN.any (h2.here ?_)))
  exact wpN_bind (wpN_mono h (fun v s' q => wpN_pure q) fun _ _ x => x)
theorem bad_id {id : String} {args : Args} (h : holders.contains id = false) : Bad (.builtin id args) = false := h
theorem codeN_builtin {id : String} {args : Args} {b : Builtin} (hb : entryFor table id = some b)
    (h : wpN (model prog w) (A.under (.builtin id args)) (b args) (fun fin s' => match fin with | .done f => R (.ok f) s' | .again c' => c'.quiet = true ∧ Bad c' = false ∧ codeN (model prog w) A c' R s') (fun e s' => R (.error e) s') s) :
    codeN (model prog w) A (.builtin id args) R s := by
  refine codeN_of_tree ?_
  show wpN _ _ (match entryFor table id with | some b => b args | none => unsupported ((withoutEnding? id "#data").getD id)) _ _ s
  rw [hb]; exact h
theorem codeN_call_builtin_at {id : String} {args : Args} {b : Builtin} (hq : (Code.builtin id args).quiet = true) (hbad : Bad (.builtin id args) = false) (hb : entryFor table id = some b)
    (h : wpAny (model prog w) A.in1 (checkBuiltinCall id args) (fun _ s₁ => wpN (model prog w) (A.under (.builtin id args)) (b args)
      (fun fin s' => match fin with | .done f => R (.ok f) s' | .again c' => c'.quiet = true ∧ Bad c' = false ∧ codeN (model prog w) A c' R s') (fun e s' => R (.error e) s') s₁) (fun e s' => R (.error e) s') s) :
    codeN (model prog w) A (.call (.builtin id) args) R s := by
  refine codeN_of_tree ?_
  show wpN _ A.in1 (do checkBuiltinCall id args; again (.builtin id args)) _ _ s
  exact wpN_bind (wpN_mono (wpN.any h) (fun _ s₁ h₁ => wpN_pure (And.intro hq (And.intro hbad (codeN_builtin hb h₁)))) fun _ _ h' => h')
set_option maxRecDepth 100000 in
theorem make_coreN {rest : List Value} {init : Value} (Y : Makes (model prog w) h C) (hi : Looks (model prog w) h (typeLookup (.ref C) "__init__") (some init))
    (hb : ∀ self, Looks (model prog w) h (bindSpecial init self) (init, [self])) (hne : (some init != some (Value.builtin "object.__init__")) = true)
    (hq : codeN (model prog w) (A.under (.builtin "type.__call__" ⟨.ref C :: rest, []⟩)) (.call init ⟨.ref (h.objs.size + 1) :: rest, []⟩) (InitBack (h.objs.size + 1) R) ⟨(h.push emptyDict).push (instObj C h.objs.size), g, d, t, os⟩) :
    codeN (model prog w) A (.call (.ref C) ⟨rest, []⟩) R ⟨h, g, d, t, os⟩ := by
  have Y' := Y
  obtain ⟨⟨oc, od, cd, sl, hC, e1, e2, e4⟩, made, base, self, top, call, typ⟩ := Y
  refine codeN_of_tree ?_
  show wpN _ _ (callAny (.ref C) _) _ _ _
  unfold callAny
  refine wpN_bind (wpN.any (wpAny_load hC ?_))
  show wpN _ _ (callAny.viaDunder (.ref C) _) _ _ _
  unfold callAny.viaDunder
  refine wpN_bind (wpN.any (call.here ?_))
  dsimp only
  rw [tc_bind]
  refine wpN_bind (wpN.any (wpAny_pure (wpN_bind (wpN.any (wpAny_pure ?_)))))
  refine wpN.any (wpAny_pure (a := Fin.again (.call (.builtin "type.__call__") ⟨.ref C :: rest, []⟩)) ⟨rfl, rfl, ?_⟩)
  refine codeN_call_builtin_at (Code.quiet_builtin _ (by decide +kernel)) (bad_id (by decide +kernel)) entry_typeCall (check_slot tc_kind tc_split typ (tc_args _ _ _) ?_)
  unfold Builtin.«type.__call__»
  have hm : Looks (model prog w) h (mroOf (.ref C)) cd.mro := ((Looks.ld (part := none) hC).andThen .now).andThen .now
  have hcls : (Value.ref C == Value.type "type") = false := rfl
  dsimp only
  simp only [hcls, Bool.false_eq_true, if_false]
  refine wpN_bind (wpN.any (hm.here ?_))
  simp only [e4, Bool.false_eq_true, if_false]
  refine wpN_bind (wpN.any (made.here ?_))
  dsimp only
  refine wpN_bind (wpN.any (wpAny_pure ?_))
  refine wpN_bind (wpN_holding (wpN.any (wpAny_call (new_K Y' hi (.inl hne) ?_))))
  have k : ∀ b o, h.get? b = some o → ((h.push emptyDict).push (instObj C h.objs.size)).get? b = some o := fun b o e => Heap.get?_push_of_some _ (Heap.get?_push_of_some _ e)
  have hx : ((h.push emptyDict).push (instObj C h.objs.size)).get? (h.objs.size + 1) = some (instObj C h.objs.size) := by rw [← Heap.size_push h emptyDict]; exact Heap.get?_push_size _ rfl
  have t1 : Looks (model prog w) ((h.push emptyDict).push (instObj C h.objs.size)) (typeOf (.ref (h.objs.size + 1))) (.ref C) := (Looks.ld hx).andThen .now
  have s1 := self.keeps k
  have i1 := hi.keeps k
  have b1 := (hb (.ref (h.objs.size + 1))).keeps k
  show wpN _ _ _ _ _ _
  refine wpN_bind (wpN.any (Looks.here (t1.andThen s1) ?_))
  simp only [Bool.not_true, Bool.false_eq_true, if_false]
  refine wpN_bind (wpN_holding (callSpecialN (t1.andThen i1) b1 (wpN_call (codeN_mono hq fun r s' z => ?_))))
  rcases r with e | (v | _ | _ | _) <;> first | exact z | exact z.elim | skip
  obtain ⟨rfl, z⟩ := z
  exact wpN.any (wpAny_pure z)
end

section
variable {c : Cx} {n : Nat} {sc : Scope} {Fs : List (Addr × Obj)} {K K' : View} {φ φ' : List Addr} {hp : Hp} {env : Env} {ρ : Loc} {s : Shared} {A : Around}
theorem BSN.new {C fI : Nat} {g : BF} (hm : makesIn c.frag C = true) (hi : findIn c.frag (.ref C) "__init__" = some (some (.ref fI))) (hf : typeIn c.frag (.ref fI) = some (.type "function")) (hg : CSN c n (.ref fI) g) :
    BSN c (n + 1) (.ref C) (bNew C g) := by
  intro A Fs K φ hp s vs vals v hp' hA I hv hf'
  obtain ⟨⟨r, hp1⟩, e1, hf'⟩ := Option.bind_eq_some_iff.mp hf'
  dsimp only at hf'
  split at hf'
  · cases hf'
    have X : c.frag.In s.heap := c.X.keeps fun b o e => I.old e
    have I1 : Inv c Fs K (φ ++ [s.heap.objs.size]) (hp ++ [.ns []]) { s with heap := s.heap.push emptyDict, toks := s.toks } :=
      I.new emptyDict s.toks (.ns []) ⟨I.K_size, [], 0, Heap.get?_push_size _ rfl, Nat.le_refl _, fun x => rfl⟩
    have I2 := I1.imm (instObj C s.heap.objs.size) s.toks
    have k2 := I1.imm_le (instObj C s.heap.objs.size)
    rw [show ({ s with heap := s.heap.push emptyDict, toks := s.toks } : Shared).heap.objs.size = s.heap.objs.size + 1 from Heap.size_push ..] at I2 k2
    have hself : VR c (K.add (s.heap.objs.size + 1) (instObj C s.heap.objs.size)) (φ ++ [s.heap.objs.size]) (.obj C hp.length) (.ref (s.heap.objs.size + 1)) :=
      .obj (View.add_self ..) rfl rfl rfl (by rw [← I.len]; simp)
    obtain ⟨hh, gg, d, t, os⟩ := s
    refine wpN_call (make_coreN (makes_of X hm) (looks_findIn X hi) (fun self => bind_fn X self hf) rfl ?_)
    refine codeN_mono (hg _ Fs _ _ _ _ _ _ _ _ hA.under_new I2 (VsR.cons hself (hv.mono k2 (List.prefix_append _ _))) e1) ?_
    rintro r s3 ⟨val, rfl, K3, φ3, I3, k3, p3, v3⟩
    cases v3
    exact ⟨rfl, K3, φ3, I3, k2.trans k3, (List.prefix_append _ _).trans p3, hself.mono k3 p3⟩
  · cases hf'
end
end Mine
end
section
open PySem PySem.W PyProof.Rows
set_option Elab.async false
set_option linter.unusedVariables false
set_option maxRecDepth 100000
namespace Mine

/-! bytearray() -/
theorem ba_mro : mroOf (.type "bytearray") = pure [.type "bytearray", .type "object"] := by rw [mroOf_type]; kernel_rfl
theorem ba_lookup_new : typeLookup (.type "bytearray") "__new__" = pure (some (.builtin "bytearray.__new__")) := by rw [typeLookup_type, builtinLookup_eq_fast]; kernel_rfl
theorem ba_slot_init : Slot "bytearray" "__init__" "bytearray.__init__" :=
  .of (owner := "bytearray") (n := "__init__") (by rw [typeLookup_type, builtinLookup_eq_fast]; kernel_rfl) (by decide +kernel) (by decide +kernel) (by decide +kernel)
    (by first | exact .inl (by decide +kernel) | exact .inr (by decide +kernel)) (by rw [isSubtype_type]; kernel_rfl)
theorem ba_called : TypeCalled "bytearray" "bytearray.__new__" "bytearray.__init__" :=
  ⟨by decide +kernel, by decide +kernel, ⟨_, _, ba_mro⟩, madeBy_type ba_mro ba_lookup_new (by decide +kernel), by decide +kernel, by rw [isSubtype_type]; kernel_rfl, ba_slot_init⟩
theorem ba_typeCall : checkTypeCall "bytearray" ⟨[], []⟩ = pure () := by kernel_rfl
theorem ba_newCall : checkBuiltinCall "bytearray.__new__" ⟨[.type "bytearray"], []⟩ = pure () := by kernel_rfl
theorem ba_plain_new : plainId "bytearray.__new__" = true := by decide +kernel
theorem ba_plain_init : plainId "bytearray.__init__" = true := by decide +kernel
theorem ba_entry_new : entryFor table "bytearray.__new__" = some Builtin.«list.__new__» := entryFor_alias (id' := "list.__new__") (by kernel_rfl) (by decide +kernel) (by decide +kernel) (by kernel_rfl)
theorem ba_entry_init : entryFor table "bytearray.__init__" = some Builtin.«bytearray.__init__» := by first | exact entryFor_of_fast (by kernel_rfl) | exact entryFor_of_tree (by kernel_rfl)
theorem ba_sub : isSubtype (.type "bytearray") (.type "bytearray") = pure true := by rw [isSubtype_type]; kernel_rfl
set_option maxRecDepth 1000000 in
set_option maxHeartbeats 4000000 in
theorem ba_owner : ("bytearray.__new__".splitOn ".__new__").headD "" = "bytearray" := by simp +decide [String.splitOn, String.splitOnAux]
theorem ba_args_init (a : Value) : argsOk "bytearray.__init__" ⟨[a], []⟩ := by unfold argsOk; kernel_rfl

section
variable {prog : Program} {w : World} {A : Around} {E : Value → Shared → Prop} {s : Shared}
theorem ba_code_new {Q₁ : Value → Shared → Prop} (h : Q₁ (.ref s.heap.objs.size) { s with heap := s.heap.push { cls := .type "bytearray", data := .bytearray #[] } }) :
    codeAny (model prog w) A (.call (.builtin "bytearray.__new__") ⟨[.type "bytearray"], []⟩) (wants Q₁ E) s := by
  refine codeAny_of_tree ?_
  show wpAny _ A.in1 (do checkBuiltinCall "bytearray.__new__" ⟨[.type "bytearray"], []⟩; again (.builtin "bytearray.__new__" ⟨[.type "bytearray"], []⟩)) _ _ s
  refine wpAny_bind (wpAny_of_eq ba_newCall (wpAny_pure ⟨plainId_quiet ba_plain_new _, codeAny_builtin_stack ba_entry_new rfl fun p st => ?_⟩))
  rw [Around.under_plainId ba_plain_new _]
  have hsub := ba_sub
  have hown := ba_owner
  obtain ⟨hp, g, d, tk, os⟩ := s
  simp only [hown]
  wp_walk
  exact h

theorem ba_release : typeLookup (.type "bytearray") "__release_buffer__" = pure (some (.builtin "bytearray.__release_buffer__")) := by rw [typeLookup_type, builtinLookup_eq_fast]; kernel_rfl
theorem ba_release_end : ("bytearray.__release_buffer__".endsWith ("." ++ "__release_buffer__")) = true := by decide +kernel
theorem ba_release_head : ("bytearray.__release_buffer__".dropRight ("__release_buffer__".length + 1)) = "bytearray" := by decide +kernel
theorem ba_isInstance {a : Addr} {Q : Bool → Shared → Prop} (hT : s.TypeIs (.ref a) "bytearray") (h : Q true s) : wpAny (model prog w) A (isInstance (.ref a) (.type "bytearray")) Q E s := wpAny_isInstance hT ba_sub h
theorem ba_ownRelease {a : Addr} {Q : Bool → Shared → Prop} (hT : s.TypeIs (.ref a) "bytearray") (h : Q false s) : wpAny (model prog w) A (Builtin.Bytes.ownRelease (.ref a)) Q E s := by
  unfold Builtin.Bytes.ownRelease Builtin.Bytes.slotIsOwn
  refine wpAny_bind (wpAny_bind (wpAny_specialOf hT ba_release ?_))
  dsimp only
  rw [ba_release_end, ba_release_head]
  refine PySem.bm_if_false rfl ?_
  exact ba_isInstance hT (wpAny_pure h)
theorem wpN_if_false {α : Type} {M : Model} {c : Bool} {a b : Sem α} {Q : α → Shared → Prop} (hc : c = false) (h : wpN M A b Q E s) : wpN M A (if c = true then a else b) Q E s := by
  rw [hc]; exact h
theorem ba_exports {a : Addr} {o : Obj} {b : Array UInt8} {Q : Bool → Shared → Prop} (ho : s.heap.get? a = some o) (hd : o.data = .bytearray b 0) (h : Q false s) :
    wpN (model prog w) A (Builtin.Bytes.exported (.ref a) <||> do return (← Builtin.Bytes.exportsOf (.ref a)) > 0) Q E s := by
  unfold orM
  refine wpN_bind (wpN_exported ?_)
  show wpN _ _ (do return decide ((← Builtin.Bytes.exportsOf (.ref a)) > 0)) _ _ _
  refine wpN.any (wpAny_bind ?_)
  show wpAny _ _ (do match (← load a).data with | .bytearray _ n => pure n | _ => pure 0) _ _ _
  refine wpAny_bind (wpAny_load ho ?_)
  rw [hd]
  exact wpAny_pure (wpAny_pure h)
theorem ba_write {a : Addr} {o : Obj} {b : Array UInt8} {k : Nat} {f : Array UInt8 → Array UInt8} {Q : Unit → Shared → Prop} (ho : s.heap.get? a = some o) (hd : o.data = .bytearray b k) (hz : (f b).size ≤ sizeLine)
    (h : Q () { s with heap := s.heap.update a (Obj.mapBytearray f) }) : wpAny (model prog w) A (Builtin.Bytes.write (.ref a) f) Q E s := by
  show wpAny _ _ (updateBytearray a f) _ _ _
  unfold updateBytearray
  refine wpAny_bind (wpAny_load ho ?_)
  rw [hd]
  refine wpAny_bind (wpAny_update ho ?_)
  refine wpAny_lookBehind (o := Obj.mapBytearray f o) (Heap.get?_update_self _ ho ?_) ?_ h
  · obtain ⟨c, d, dt, sl⟩ := o; cases hd; rfl
  · obtain ⟨c, d, dt, sl⟩ := o
    cases hd
    show (if (f b).size > sizeLine then some "bytearray:memory" else none) = none
    rw [if_neg (by omega)]
theorem ba_bind : Builtin.Bytes.bindOptional "bytearray.__init__" "bytearray" ["source", "encoding", "errors"] [] [] = pure [none, none, none] := by kernel_rfl
theorem ba_init_tree {a : Addr} {Q : Fin → Shared → Prop} (ho : s.heap.get? a = some { cls := .type "bytearray", data := .bytearray #[] })
    (h : Q (.done (.ret .none)) { s with heap := s.heap.update a (Obj.mapBytearray fun _ => #[]) }) : wpN (model prog w) A (Builtin.«bytearray.__init__» ⟨[.ref a], []⟩) Q E s := by
  have hT : s.TypeIs (.ref a) "bytearray" := ⟨_, ho, rfl⟩
  unfold Builtin.«bytearray.__init__»
  refine wpN_bind (m := Builtin.Bytes.ownRelease (.ref a)) (wpN.any (ba_ownRelease hT ?_))
  refine wpN_if_false rfl ?_
  refine wpN_bind (wpN.any (wpAny_of_eq ba_bind ?_))
  refine wpN_bind (m := Builtin.Bytes.checkCodecArg "bytearray.__init__" "bytearray" "encoding" none) (wpN.any (wpAny_of_eq (a := ()) rfl ?_))
  refine wpN_bind (m := Builtin.Bytes.checkCodecArg "bytearray.__init__" "bytearray" "errors" none) (wpN.any (wpAny_of_eq (a := ()) rfl ?_))
  refine wpN_bind (ba_exports ho rfl ?_)
  refine wpN_if_false rfl ?_
  refine wpN_bind (wpN.any (ba_write ho rfl (Nat.zero_le _) ?_))
  exact wpN_pure h
end
end Mine
end
section
open PySem PySem.W PyProof.Rows
set_option Elab.async false
set_option linter.unusedVariables false
set_option maxRecDepth 100000
namespace Mine

section
variable {prog : Program} {w : World} {A : Around} {E : Value → Shared → Prop} {s : Shared}
theorem ba_callN {Q : Value → Shared → Prop}
    (h : Q (.ref s.heap.objs.size) { s with heap := (s.heap.push { cls := .type "bytearray", data := .bytearray #[] }).update s.heap.objs.size (Obj.mapBytearray fun _ => #[]) }) :
    wpN (model prog w) A (call (.type "bytearray") []) Q NoE s := by
  refine wpN_call (codeN_of_tree ?_)
  show wpN _ _ (callAny (.type "bytearray") _) _ _ _
  refine wpN_pure (And.intro (Code.quiet_builtin _ (by decide +kernel)) (And.intro (bad_id (by decide +kernel)) (codeN_builtin entry_typeCall ?_)))
  unfold Builtin.«type.__call__»
  refine wpN_if_false (c := Value.type "bytearray" == Value.type "type") rfl ?_
  refine wpN_if_false ba_called.canCreate ?_
  refine wpN_bind (wpN.any (wpAny_of_eq ba_typeCall ?_))
  refine wpN_bind (wpN.any (wpAny_of_eq ba_mro ?_))
  refine wpN_if_false rfl ?_
  refine wpN_bind (wpN.any (wpAny_of_eq ba_called.made ?_))
  refine wpN_bind (wpN.any (wpAny_pure ?_))
  refine wpN_bind (wpN_holding (wpN.any (wpAny_call (codeAny_mono (ba_code_new (Q₁ := fun v s' => v = .ref s.heap.objs.size ∧ s' = { s with heap := s.heap.push { cls := .type "bytearray", data := .bytearray #[] } }) (E := fun _ _ => False) ⟨rfl, rfl⟩) ?_))))
  rintro r s' hr
  rcases r with e | (v | _ | _ | _)
  case error => exact hr.elim
  all_goals first | (exact hr.elim) | skip
  obtain ⟨rfl, rfl⟩ := hr
  have hx : (s.heap.push { cls := .type "bytearray", data := .bytearray #[] }).get? s.heap.objs.size = some { cls := .type "bytearray", data := .bytearray #[] } := Heap.get?_push_size _ rfl
  have hT : ({ s with heap := s.heap.push { cls := .type "bytearray", data := .bytearray #[] } } : Shared).TypeIs (.ref s.heap.objs.size) "bytearray" := ⟨_, hx, rfl⟩
  refine wpN_bind (wpN.any (ba_isInstance hT ?_))
  refine wpN_if_false rfl ?_
  refine wpN_bind (wpN_holding ?_)
  unfold callSpecial?
  refine wpN_bind (wpN.any (wpAny_specialOf hT ba_slot_init.lookup ?_))
  refine wpN_holding (wpN_bind (wpN.any (wpAny_of_eq (ba_slot_init.bind _) ?_)))
  refine wpN_bind (wpN_call (codeN_call_builtin_at (plainId_quiet ba_plain_init _) (bad_id (by decide +kernel)) ba_entry_init (ba_slot_init.check _ _ _ _ _ _ _ _ hT (ba_args_init _) ?_)))
  refine ba_init_tree hx ?_
  exact wpN_pure (wpN_pure h)
end
end Mine
end
section
open PySem PySem.W PyProof.Rows
set_option Elab.async false
set_option linter.unusedVariables false
set_option maxRecDepth 100000
namespace Mine

theorem ba_slot_append : Slot "bytearray" "append" "bytearray.append" :=
  .of (owner := "bytearray") (n := "append") (by rw [typeLookup_type, builtinLookup_eq_fast]; kernel_rfl) (by decide +kernel) (by decide +kernel) (by decide +kernel)
    (by first | exact .inl (by decide +kernel) | exact .inr (by decide +kernel)) (by rw [isSubtype_type]; kernel_rfl)
theorem ba_entry_append : entryFor table "bytearray.append" = some Builtin.«bytearray.append» := by first | exact entryFor_of_fast (by kernel_rfl) | exact entryFor_of_tree (by kernel_rfl)
theorem ba_plain_append : plainId "bytearray.append" = true := by decide +kernel
theorem ba_args_append (a b : Value) : argsOk "bytearray.append" ⟨[a, b], []⟩ := by unfold argsOk; kernel_rfl
theorem ba_slot_len : Slot "bytearray" "__len__" "bytearray.__len__" :=
  .of (owner := "bytearray") (n := "__len__") (by rw [typeLookup_type, builtinLookup_eq_fast]; kernel_rfl) (by decide +kernel) (by decide +kernel) (by decide +kernel)
    (by first | exact .inl (by decide +kernel) | exact .inr (by decide +kernel)) (by rw [isSubtype_type]; kernel_rfl)
theorem ba_entry_len : entryFor table "bytearray.__len__" = some Builtin.«bytearray.__len__» := by first | exact entryFor_of_fast (by kernel_rfl) | exact entryFor_of_tree (by kernel_rfl)
theorem ba_args_len (a : Value) : argsOk "bytearray.__len__" ⟨[a], []⟩ := by unfold argsOk; kernel_rfl
theorem ba_plainAttrs : PlainAttrs "bytearray" :=
  ⟨⟨"bytearray.__getattribute__", by rw [typeLookup_type, builtinLookup_eq_fast]; kernel_rfl, by decide +kernel⟩, by rw [typeLookup_type, builtinLookup_eq_fast]; kernel_rfl⟩
theorem ba_type_append : typeOf (.builtin "bytearray.append") = pure (.type "method_descriptor") := by show builtinType _ = _; rw [builtinType_eq_fast]; kernel_rfl

section
variable {prog : Program} {w : World} {A : Around} {E : Value → Shared → Prop} {s : Shared}
theorem ba_append_tree {a : Addr} {o : Obj} {b : Array UInt8} {n : Int} {t : Tok} {Q : Fin → Shared → Prop} (ho : s.heap.get? a = some o) (hd : o.data = .bytearray b 0) (h0 : 0 ≤ n) (h1 : n < 256) (hz : b.size < sizeLine)
    (h : Q (.done (.ret .none)) { s with heap := s.heap.update a (Obj.mapBytearray (·.push n.toNat.toUInt8)) }) : wpN (model prog w) A (Builtin.«bytearray.append» ⟨[.ref a, .int n t], []⟩) Q E s := by
  unfold Builtin.«bytearray.append»
  refine wpN_bind (wpN.any (wpAny_of_eq (a := (.ref a, .int n t)) rfl ?_))
  refine wpN_bind (m := Builtin.Bytes.byteValue (.int n t)) (wpN.any ?_)
  · unfold Builtin.Bytes.byteValue
    refine wpAny_bind (wpAny_of_eq (rfl : asIndex (.int n t) = pure n) ?_)
    refine bm_if_false (by simp only [Bool.or_eq_false_iff, decide_eq_false_iff_not]; omega) ?_
    refine wpAny_pure ?_
    refine wpN_bind (m := Builtin.Bytes.checkResize (.ref a)) ?_
    unfold Builtin.Bytes.checkResize
    refine wpN_bind (ba_exports ho hd ?_)
    refine wpN_if_false rfl (wpN_pure ?_)
    refine wpN_bind (wpN.any (ba_write ho hd (by rw [Array.size_push]; omega) ?_))
    exact wpN_pure h
theorem ba_len {a : Addr} {o : Obj} {b : Array UInt8} {k : Nat} {Q : Value → Shared → Prop} (ho : s.heap.get? a = some o) (hc : o.cls = .type "bytearray") (hd : o.data = .bytearray b k) (hz : b.size ≤ sizeLine)
    (h : Q (.int b.size (s.toks + 1)) { s with toks := s.toks + 1 + 1 }) : wpAny (model prog w) A (call (.builtin "len") [.ref a]) Q E s := by
  have hT : s.TypeIs (.ref a) "bytearray" := ⟨_, ho, hc⟩
  have hz' : b.size ≤ 16777216 := by rw [sizeLine_eq] at hz; exact hz
  refine Calls.call_function_entry kind_len plain_len entry_len (args_len1 _) ?_
  unfold Builtin.«len»
  refine wpAny_bind (m := oneArg "len" _) (wpAny_pure ?_)
  refine wpAny_bind (m := callSpecial? (.ref a) (Str.ofString "__len__")) (wpAny_callSpecial?_slot (name := Str.ofString "__len__") hT ba_slot_len (wpAny_call_entry ba_slot_len hT ba_entry_len ?_ (ba_args_len _)))
  show wpAny _ _ (do retInt (← Builtin.Bytes.payload (.ref a)).size) _ _ s
  refine wpAny_bind ?_
  unfold Builtin.Bytes.payload Builtin.Bytes.payload?
  refine wpAny_bind (wpAny_bind (wpAny_load ho ?_))
  rw [hd]
  refine wpAny_pure (wpAny_pure ?_)
  refine wpAny_bind (wpAny_mkInt (wpAny_pure ⟨_, rfl, ?_⟩))
  refine wpAny_bind (wpAny_holding (wpAny_pure ?_))
  refine wpAny_bind (wpAny_letGo ?_)
  show wpAny _ _ (if ((b.size : Nat) : Int) < 0 then _ else _) _ _ _
  rw [if_neg (by omega)]
  show wpAny _ _ (if ((b.size : Nat) : Int) ≥ 2 ^ 63 then _ else _) _ _ _
  rw [if_neg (by omega)]
  exact wpAny_bind (wpAny_mkInt (wpAny_pure ⟨_, rfl, h⟩))
end
end Mine
end
section
open PySem PySem.W PyProof.Rows
set_option Elab.async false
set_option linter.unusedVariables false
set_option maxRecDepth 100000
namespace Mine

theorem by_no_bytes : typeLookup (.type "bytearray") "__bytes__" = pure none := by rw [typeLookup_type, builtinLookup_eq_fast]; kernel_rfl
theorem by_no_index : typeLookup (.type "bytearray") "__index__" = pure none := by rw [typeLookup_type, builtinLookup_eq_fast]; kernel_rfl
theorem by_buffer : typeLookup (.type "bytearray") "__buffer__" = pure (some (.builtin "bytearray.__buffer__")) := by rw [typeLookup_type, builtinLookup_eq_fast]; kernel_rfl
theorem by_buffer_end : ("bytearray.__buffer__".endsWith ("." ++ "__buffer__")) = true := by decide +kernel
theorem by_buffer_head : ("bytearray.__buffer__".dropRight ("__buffer__".length + 1)) = "bytearray" := by decide +kernel
theorem by_bytes : typeLookup (.type "bytes") "__bytes__" = pure (some (.builtin "bytes.__bytes__")) := by rw [typeLookup_type, builtinLookup_eq_fast]; kernel_rfl

section
variable {prog : Program} {w : World} {A : Around} {E : Value → Shared → Prop} {s : Shared}
theorem by_isStr {a : Addr} {o : Obj} {b : Array UInt8} {k : Nat} {Q : Option Str → Shared → Prop} (ho : s.heap.get? a = some o) (hd : o.data = .bytearray b k) (h : Q none s) : wpAny (model prog w) A (asStr? (.ref a)) Q E s := by
  show wpAny _ _ (load a >>= _) _ _ _
  refine wpAny_bind (wpAny_load ho ?_)
  rw [hd]
  exact wpAny_pure h
theorem by_payload {a : Addr} {o : Obj} {b : Array UInt8} {k : Nat} {Q : Array UInt8 → Shared → Prop} (ho : s.heap.get? a = some o) (hd : o.data = .bytearray b k) (h : Q b s) : wpAny (model prog w) A (Builtin.Bytes.payload (.ref a)) Q E s := by
  unfold Builtin.Bytes.payload Builtin.Bytes.payload?
  refine wpAny_bind (wpAny_bind (wpAny_load ho ?_))
  rw [hd]
  exact wpAny_pure (wpAny_pure h)
theorem by_buffer? {a : Addr} {o : Obj} {b : Array UInt8} {k : Nat} {id : String} {full : Bool} {Q : Option (Array UInt8) → Shared → Prop} (ho : s.heap.get? a = some o) (hc : o.cls = .type "bytearray") (hd : o.data = .bytearray b k) (h : Q (some b) s) :
    wpAny (model prog w) A (Builtin.Bytes.buffer? id (.ref a) full) Q E s := by
  have hT : s.TypeIs (.ref a) "bytearray" := ⟨_, ho, hc⟩
  unfold Builtin.Bytes.buffer?
  refine wpAny_bind (wpAny_specialOf hT by_buffer ?_)
  refine wpAny_bind (m := Builtin.Bytes.slotIsOwn (.ref a) "__buffer__") ?_
  · unfold Builtin.Bytes.slotIsOwn
    refine wpAny_bind (wpAny_specialOf hT by_buffer ?_)
    dsimp only
    rw [by_buffer_end, by_buffer_head]
    refine bm_if_false rfl ?_
    refine ba_isInstance hT ?_
    refine bm_if_false rfl ?_
    refine wpAny_bind (wpAny_specialOf hT by_buffer ?_)
    refine wpAny_bind (m := Builtin.Bytes.ownRelease (.ref a)) (ba_ownRelease hT ?_)
    refine bm_if_false rfl ?_
    exact wpAny_bind (by_payload ho hd (wpAny_pure h))

theorem bytes_of_ba {a : Addr} {o : Obj} {b : Array UInt8} {k : Nat} {Q : Value → Shared → Prop} (ho : s.heap.get? a = some o) (hc : o.cls = .type "bytearray") (hd : o.data = .bytearray b k) (hz : b.size ≤ sizeLine)
    (h : ∀ t k, Q (.bytes b t) { s with toks := k }) : wpAny (model prog w) A (call (.type "bytes") [.ref a]) Q E s := by
  have hT : s.TypeIs (.ref a) "bytearray" := ⟨_, ho, hc⟩
  refine callType_codes (Q₁ := fun obj s₁ => s₁.TypeIs obj "bytes" ∧ Q obj s₁) F.bm_called (F.bm_typeCall _) F.entry_object_init ?_ fun obj s₁ h₁ => ⟨h₁.1, F.args_object_init_2 obj _, object_init_meets F.bm_called.init.lookup F.bm_called.made (by decide) prog w A.in1 _ s₁ ⟨h₁.1, rfl, h₁.2⟩⟩
  refine codeAny_of_tree ?_
  show wpAny _ _ (do checkBuiltinCall "bytes.__new__" ⟨[.type "bytes", .ref a], []⟩; again (.builtin "bytes.__new__" ⟨[.type "bytes", .ref a], []⟩)) _ _ s
  refine wpAny_bind (wpAny_of_eq (F.bm_newCall _) (wpAny_pure ⟨plainId_quiet F.bm_plain _, codeAny_builtin F.bm_entry ?_⟩))
  rw [Around.under_plainId F.bm_plain _]
  unfold Builtin.«bytes.__new__»
  refine wpAny_bind (wpAny_of_eq (a := true) rfl ?_)
  refine bm_if_false rfl ?_
  refine wpAny_bind (wpAny_of_eq F.bm_sub ?_)
  refine bm_if_false rfl ?_
  refine wpAny_bind (wpAny_of_eq (F.bm_bind _) ?_)
  refine wpAny_bind (wpAny_of_eq (a := ()) rfl ?_)
  refine wpAny_bind (wpAny_of_eq (a := ()) rfl ?_)
  refine bm_if_false rfl ?_
  refine wpAny_bind (wpAny_specialOf hT by_no_bytes ?_)
  refine wpAny_bind (wpAny_bind (by_isStr ho hd (wpAny_pure ?_)))
  refine bm_if_false rfl ?_
  refine wpAny_bind (wpAny_specialOf hT by_no_index ?_)
  refine bm_if_true rfl ?_
  first
    | show wpAny _ _ (Builtin.Bytes.buffer? "bytes.__new__" (.ref a) true >>= _) _ _ _
    | (refine wpAny_bind ?_; show wpAny _ _ (Builtin.Bytes.buffer? "bytes.__new__" (.ref a) true >>= _) _ _ _)
  refine wpAny_bind (by_buffer? ho hc hd ?_)
  refine wpAny_bind (wpAny_rule (wpAny_bind (wpAny_mkBytes ?_ hz)))
  show wpAny _ _ (if (Value.type "bytes" == Value.type "bytes") = true then _ else _) _ _ _
  refine bm_if_true (by decide) ?_
  have fin := h s.toks (s.toks + 1)
  first
    | exact wpAny_pure ⟨typeIs_bytes _ _ _, fin⟩
    | exact wpAny_bind (wpAny_pure (wpAny_pure ⟨typeIs_bytes _ _ _, fin⟩))
theorem bytes_of_bytes {b : Array UInt8} {t : Tok} {Q : Value → Shared → Prop} (h : Q (.bytes b t) s) : wpAny (model prog w) A (call (.type "bytes") [.bytes b t]) Q E s := by
  have hT : s.TypeIs (.bytes b t) "bytes" := typeIs_bytes _ _ _
  refine callType_codes (Q₁ := fun obj s₁ => s₁.TypeIs obj "bytes" ∧ Q obj s₁) F.bm_called (F.bm_typeCall _) F.entry_object_init ?_ fun obj s₁ h₁ => ⟨h₁.1, F.args_object_init_2 obj _, object_init_meets F.bm_called.init.lookup F.bm_called.made (by decide) prog w A.in1 _ s₁ ⟨h₁.1, rfl, h₁.2⟩⟩
  refine codeAny_of_tree ?_
  show wpAny _ _ (do checkBuiltinCall "bytes.__new__" ⟨[.type "bytes", .bytes b t], []⟩; again (.builtin "bytes.__new__" ⟨[.type "bytes", .bytes b t], []⟩)) _ _ s
  refine wpAny_bind (wpAny_of_eq (F.bm_newCall _) (wpAny_pure ⟨plainId_quiet F.bm_plain _, codeAny_builtin F.bm_entry ?_⟩))
  rw [Around.under_plainId F.bm_plain _]
  unfold Builtin.«bytes.__new__»
  refine wpAny_bind (wpAny_of_eq (a := true) rfl ?_)
  refine bm_if_false rfl ?_
  refine wpAny_bind (wpAny_of_eq F.bm_sub ?_)
  refine bm_if_false rfl ?_
  refine wpAny_bind (wpAny_of_eq (F.bm_bind _) ?_)
  refine wpAny_bind (wpAny_of_eq (a := ()) rfl ?_)
  refine wpAny_bind (wpAny_of_eq (a := ()) rfl ?_)
  refine bm_if_false rfl ?_
  refine wpAny_bind (wpAny_specialOf hT by_bytes ?_)
  refine wpAny_bind (wpAny_rule (wpAny_bind (wpAny_typeOf hT ?_)))
  refine bm_if_true (by decide) ?_
  show wpAny _ _ (if (Value.type "bytes" == Value.type "bytes") = true then _ else _) _ _ _
  refine bm_if_true (by decide) ?_
  first
    | exact wpAny_pure ⟨typeIs_bytes _ _ _, h⟩
    | exact wpAny_bind (wpAny_pure (wpAny_pure ⟨typeIs_bytes _ _ _, h⟩))
end

section
variable {c : Cx} {n : Nat} {sc : Scope} {Fs : List (Addr × Obj)} {K K' : View} {φ φ' : List Addr} {hp : Hp} {env : Env} {ρ : Loc} {s : Shared} {A : Around}
noncomputable def bBa : BF := fun vs hp => match vs with
  | [] => some (.ref hp.length, hp ++ [.bytes []])
  | _ => none
theorem Inv.newBa (I : Inv c Fs K φ hp s) (t : Nat) :
    Inv c Fs K (φ ++ [s.heap.objs.size]) (hp ++ [.bytes []]) { s with heap := (s.heap.push { cls := .type "bytearray", data := .bytearray #[] }).update s.heap.objs.size (Obj.mapBytearray fun _ => #[]), toks := t } := by
  have hx : (s.heap.push { cls := .type "bytearray", data := .bytearray #[] }).get? s.heap.objs.size = some { cls := .type "bytearray", data := .bytearray #[] } := Heap.get?_push_size _ rfl
  have I1 : Inv c Fs K (φ ++ [s.heap.objs.size]) (hp ++ [.bytes []]) { s with heap := s.heap.push { cls := .type "bytearray", data := .bytearray #[] }, toks := t } := I.new _ t (.bytes []) ⟨I.K_size, hx⟩
  have h2 := I1.set_obj (i := hp.length) (o := .bytes []) (o' := .bytes []) (h' := (s.heap.push { cls := .type "bytearray", data := .bytearray #[] }).update s.heap.objs.size (Obj.mapBytearray fun _ => #[])) t (by rw [← I.len]; simp) (by simp) (by simp) (Heap.SameBut.update ..) ⟨I.K_size, Heap.get?_update_self _ hx rfl⟩
  have e : (hp ++ [O.bytes []]).set hp.length (.bytes []) = hp ++ [.bytes []] := by simp
  rw [e] at h2
  exact h2
theorem BSN.bytearray : BSN c n (.type "bytearray") bBa := by
  intro A Fs K φ hp s vs vals v hp' hA I hv hf
  cases vs with
  | cons _ _ => cases hf
  | nil =>
    cases hf
    rw [hv.nil_inv]
    exact ba_callN ⟨K, _, I.newBa s.toks, .refl K, List.prefix_append _ _, .ref (by rw [← I.len]; simp)⟩

noncomputable def bLenB : BF := one fun v hp => match v with
  | .ref m => match hp[m]? with
    | some (.bytes bs) => if bs.length ≤ lim then some (.int bs.length, hp) else none
    | _ => none
  | _ => none
theorem BS.lenB : BS c n (.builtin "len") bLenB := .one fun A Fs K φ hp s a x v hp' hA I ha hf => by
  obtain ⟨m, rfl⟩ : ∃ z, a = .ref z := by cases a <;> first | exact ⟨_, rfl⟩ | exact (no hf rfl).elim
  dsimp only at hf
  cases ha with
  | ref h1 =>
    split at hf
    · rename_i bs hm
      split at hf
      · rename_i hl
        cases hf
        obtain ⟨hk, g1⟩ := I.obj _ _ _ h1 hm
        refine ba_len g1 rfl rfl (lim_le (by simpa using hl)) ?_
        have e : (bs.toArray.size : Int) = bs.length := by simp
        rw [e]
        exact Post.of (I.toks _) (.int _ _)
      · cases hf
    · cases hf

noncomputable def bBytes : BF := one fun v hp => match v with
  | .byt bs => some (.byt bs, hp)
  | .ref m => match hp[m]? with
    | some (.bytes bs) => if bs.length ≤ lim then some (.byt bs, hp) else none
    | _ => none
  | .lst xs => (asInts xs).bind fun ns => if (∀ i ∈ ns, 0 ≤ i ∧ i < 256) ∧ ns.length ≤ lim then some (.byt (ns.map fun i => i.toNat.toUInt8), hp) else none
  | _ => none
theorem BS.bytes : BS c n (.type "bytes") bBytes := .one fun A Fs K φ hp s a x v hp' hA I ha hf => by
  cases a <;> simp only at hf <;> try cases hf
  · obtain ⟨ns, h2, hf⟩ := Option.bind_eq_some_iff.mp hf
    split at hf
    · rename_i hq
      cases hf
      cases ha with
      | lst h1 h3 h4 h5 h6 =>
        have hv := VsR.of_arr h5 h6
        rw [asInts_eq h2] at hv
        have hI := ints_are hv
        refine call_bytes_ints ⟨_, I.keep _ _ h1, h3, _, by rw [Array.toArray_toList]; exact h4⟩ hI hq.1 (lim_le (by rw [hI.length]; exact hq.2)) hA.1 fun h' t k hk => ?_
        exact Post.of (I.grow hk) (.byt _ _)
    · cases hf
  · cases ha
    exact bytes_of_bytes (Post.of I (.byt _ _))
  · cases ha with
    | ref h1 =>
      split at hf
      · rename_i bs hm
        split at hf
        · rename_i hl
          cases hf
          obtain ⟨hk, g1⟩ := I.obj _ _ _ h1 hm
          exact bytes_of_ba g1 rfl rfl (lim_le (by simpa using hl)) fun t k => Post.of (I.toks _) (.byt _ _)
        · cases hf
      · cases hf
theorem CmpS.eqByt : CmpS c n .Eq oEqByt := by
  intro A Fs K φ hp s a b x y v hA I ha hb hf
  obtain ⟨i, rfl⟩ : ∃ z, a = .byt z := by cases a <;> first | exact ⟨_, rfl⟩ | exact (no hf rfl).elim
  obtain ⟨j, rfl⟩ : ∃ z, b = .byt z := by cases b <;> first | exact ⟨_, rfl⟩ | exact (no hf rfl).elim
  cases hf
  cases ha; cases hb
  refine eq_bytes ⟨?_, I⟩
  congr 1
  rw [Bool.eq_iff_iff]; simp

/-- b.append(e) of a bytearray -/
noncomputable def oBap : V → V → Hp → Option (V × Hp)
  | .ref m, .int i, hp => match hp[m]? with
    | some (.bytes bs) => if 0 ≤ i ∧ i < 256 ∧ bs.length ≤ lim then some (.none, hp.set m (.bytes (bs ++ [i.toNat.toUInt8]))) else none
    | _ => none
  | _, _, _ => none
noncomputable def isBa (hp : Hp) : V → Bool
  | .ref m => match hp[m]? with
    | some (.bytes _) => true
    | _ => false
  | _ => false
noncomputable def eBap (f g : EF) : EF := fun ρ hp => (f ρ hp).bind fun r => if isBa r.2 r.1 then (g ρ r.2).bind fun q => oBap r.1 q.1 q.2 else none
theorem BSN.bappend : BSN c n (.builtin "bytearray.append") (Mine.two oBap) := by
  intro A Fs K φ hp s vs vals v hp' hA I hv hf
  unfold Mine.two at hf
  split at hf
  · rename_i a b
    obtain ⟨x, ys, rfl, ha, h2⟩ := hv.cons_inv
    obtain ⟨y, zs, rfl, hb, h4⟩ := h2.cons_inv
    rw [h4.nil_inv]
    obtain ⟨m, rfl⟩ : ∃ z, a = .ref z := by cases a <;> first | exact ⟨_, rfl⟩ | exact (no hf rfl).elim
    obtain ⟨i, rfl⟩ : ∃ z, b = .int z := by cases b <;> first | exact ⟨_, rfl⟩ | exact (no hf rfl).elim
    dsimp only [oBap] at hf
    cases hb
    cases ha with
    | ref h1 =>
      split at hf
      · rename_i bs hm
        split at hf
        · rename_i hq
          cases hf
          obtain ⟨hk, g1⟩ := I.obj _ _ _ h1 hm
          refine wpN_call (codeN_call_builtin_at (plainId_quiet ba_plain_append _) (bad_id (by decide +kernel)) ba_entry_append (ba_slot_append.check _ _ _ _ _ _ _ _ ⟨_, g1, rfl⟩ (ba_args_append _ _) ?_))
          refine ba_append_tree g1 rfl hq.1 hq.2.1 (by have := hq.2.2; have hl : lim = 1000000 := rfl; rw [sizeLine_eq]; simp; omega) ?_
          refine ⟨K, φ, I.set_obj s.toks h1 hm (by simp) (Heap.SameBut.update ..) ⟨hk, ?_⟩, .refl K, List.prefix_refl φ, .none⟩
          refine (Heap.get?_update_self _ g1 rfl).trans ?_
          simp [Obj.mapBytearray]
        · cases hf
      · cases hf
  · cases hf
theorem SEN.bappend {o e : Expr} {apos pos : Pos} {f g : EF} (hbase : ∀ env whole, attributeBase o "append" env whole = whole) (hl : (apos.endLine == pos.line) = true)
    (he0 : ∀ rest env, starEach (e :: rest) env = (false, PySem.eval e env) :: starEach rest env) (ho : SE c n sc o f) (he : SE c n sc e g) : SEN c n sc (.Call (.Attribute o "append" apos) [e] [] pos) (eBap f g) := by
  have hs := SEs.cons he0 he (SEs.nil (c := c) (n := n) (sc := sc))
  intro A env Fs K φ hp ρ s v hp' hA hsc I R hf
  obtain ⟨⟨a, hp1⟩, e1, hf⟩ := Option.bind_eq_some_iff.mp hf
  split at hf
  · rename_i hacc
    obtain ⟨⟨b, hp2⟩, e2, hf⟩ := Option.bind_eq_some_iff.mp hf
    refine meth_wN hbase hl (by simp) (hs.1 env pos) (wpAny_mono (ho A env Fs K φ hp ρ s a _ hA hsc I R e1) ?_ fun _ _ x => x)
    rintro x s1 ⟨K1, φ1, I1, k1, p1, v1⟩
    intro pl
    dsimp only at hacc
    obtain ⟨m, rfl⟩ : ∃ z, a = .ref z := by cases a <;> first | exact ⟨_, rfl⟩ | cases hacc
    dsimp only [isBa] at hacc
    split at hacc
    · rename_i bs hm
      have v1' := v1
      cases v1 with
      | ref h1 =>
        obtain ⟨hk, g1⟩ := I1.obj _ _ _ h1 hm
        refine getMethod_builtin ⟨_, g1, rfl⟩ ba_plainAttrs ba_slot_append ba_type_append (fun a e => by cases e; exact ⟨_, g1, rfl⟩) ?_
        refine wpN_mono (callWith_SN (g := Mine.two oBap) KeepS.builtin BSN.bappend hs hA hsc I1 (R.mono (fun _ h => h) k1 p1) (VsR.cons v1' .nil) (vs := [b]) (hp1 := hp2) (by simp [evL, e2]) ?_) (fun _ _ h => h.trans k1 p1) fun _ _ x => x
        exact hf
    · cases hacc
  · cases hf
end
end Mine
end
section
open PySem PySem.W PyProof.Rows
set_option Elab.async false
set_option linter.unusedVariables false
set_option maxRecDepth 100000
namespace Mine

theorem lk_miss : typeLookup (.type "list") "keys" = pure none := by rw [typeLookup_type, builtinLookup_eq_fast]; kernel_rfl
set_option maxHeartbeats 1000000 in
theorem getAttrQ_list {prog : Program} {w : World} {A : Around} {E : Value → Shared → Prop} {s : Shared} {a : Addr} {o : Obj} {xs : Array Value} {k : Nat} {Q : Option Value → Shared → Prop}
    (hx : s.heap.get? a = some o) (hc : o.cls = .type "list") (hdat : o.data = .seq xs k) (hd : o.dict = none) (hA : A.handled = none)
    (h : ∀ h' tk, (∀ b o, s.heap.get? b = some o → h'.get? b = some o) → Q none { s with heap := h', toks := tk }) :
    wpAny (model prog w) A (getAttr? (.ref a) "keys") Q E s := by
  obtain ⟨c, dct, dat, sl⟩ := o
  simp only at hc hdat hd
  subst hc hdat hd
  obtain ⟨hp, g, d, tk, os⟩ := s
  have hT : ∀ tk', (⟨hp, g, d, tk', os⟩ : Shared).TypeIs (.ref a) "list" := fun _ => ⟨_, hx, rfl⟩
  have f1 := sub_AttributeError
  have f3 := F.slot_list_getattribute.lookup
  have f4 := F.slot_list_getattribute.bind (.ref a)
  have f5 := am_list_getattr_none
  unfold getAttr? getAttrBy? getAttrBy
  repeat (any_goals (first | assumption | exact hT _ | ((with_reducible show wpAny _ _ (call (Value.builtin "list.__getattribute__") _ _) _ _ _); refine call_meets F.slot_list_getattribute (hT _) am_entry_list_getattribute (F.args_list_getattribute_2 _ _) (meets_getattribute_miss_list a xs k sl _ _ lk_miss (by decide +kernel) (by decide +kernel)) ⟨hx, hA, fun h' tk' e hx' => ?_⟩) | wp_step))
  obtain ⟨t', u', he⟩ := hx'.there
  have hxk := hx'.of
  show wpAny _ _ (getattributeRaised _ _ _ _ _ _ _) _ _ _
  unfold getattributeRaised
  repeat (any_goals (first | assumption | wp_step))
  all_goals exact h _ _ hxk.keeps

theorem ul_entry : entryFor table "dict.update.loop" = some Builtin.«dict.update.loop» := by first | exact entryFor_of_fast (by kernel_rfl) | exact entryFor_of_tree (by kernel_rfl)
theorem ul_plain : plainId "dict.update.loop" = true := by decide +kernel

section
variable {c : Cx} {n : Nat} {sc : Scope} {Fs : List (Addr × Obj)} {K K' : View} {φ φ' : List Addr} {hp : Hp} {env : Env} {ρ : Loc} {s : Shared} {A : Around}

noncomputable def putAll : List V → List (Int × V) → Option (List (Int × V))
  | [], es => some es
  | .tup [.int k, v] :: xs, es => if es.length ≤ lim then putAll xs (dPut es k v) else none
  | _ :: _, _ => none

theorem putAll_cons {x : V} {xs : List V} {es r : List (Int × V)} (h : putAll (x :: xs) es = some r) : ∃ k v, x = .tup [.int k, v] ∧ es.length ≤ lim ∧ putAll xs (dPut es k v) = some r := by
  unfold putAll at h
  split at h
  · rename_i e; cases e
  · rename_i e
    cases e
    split at h
    · rename_i hl; exact ⟨_, _, rfl, hl, h⟩
    · cases h
  · cases h
theorem update_loop {d it : Addr} {R : Result → Shared → Prop} (hA : AOk (n + 1) A) : ∀ (xs : List V) (es : List (Int × V)) (i : Int) (K : View) (s : Shared) od oi kvs r,
    Inv c ((d, od) :: (it, oi) :: Fs) K φ hp s → DictShape c od kvs → PsR c K φ es kvs → ItSt c K φ oi xs → putAll xs es = some r →
    (∀ K' od' kvs' s', Inv c ((d, od') :: Fs) K' φ hp s' → View.le K K' → DictShape c od' kvs' → PsR c K' φ r kvs' → R (.ok (.ret .none)) s') →
    codeAny c.M A (.builtin "dict.update.loop" ⟨[.ref d, .ref it, .int i 0, .none], []⟩) R s
  | [], es, i, K, s, od, oi, kvs, r, I, hD, hP, st, hf, hR => by
    refine codeAny_builtin ul_entry ?_
    rw [Around.under_plainId ul_plain _]
    have hA1 : AOk 0 A.in1 := ⟨hA.1, by have := hA.2.1; show A.depth + 10 * 0 < 800; omega, by have := hA.2.2; show A.units + 1 + 40 * 0 < 8000; omega⟩
    cases hf
    refine wpAny_bind (wpAny_mono (st.stop hA1 (I.perm (.swap ..))) ?_ fun _ _ x => x.elim)
    rintro r s1 ⟨rfl, I1⟩
    exact wpAny_bind (wpAny_pure (wpAny_pure (hR K od kvs s1 I1 (.refl K) hD hP)))
  | x :: xs, es, i, K, s, od, oi, kvs, r, I, hD, hP, st, hf, hR => by
    refine codeAny_builtin ul_entry ?_
    rw [Around.under_plainId ul_plain _]
    have hA1 : AOk 0 A.in1 := ⟨hA.1, by have := hA.2.1; show A.depth + 10 * 0 < 800; omega, by have := hA.2.2; show A.units + 1 + 40 * 0 < 8000; omega⟩
    obtain ⟨k, v, rfl, hl, hf⟩ := putAll_cons hf
    refine wpAny_bind (wpAny_mono (st.next hA1 (I.perm (.swap ..))) ?_ fun _ _ x => x.elim)
    rintro r1 s1 ⟨val, oi', rfl, hv, I1, st1⟩
    cases hv with
    | tup h1 h2 h3 h4 h5 =>
      have hvs := VsR.of_arr h4 h5
      obtain ⟨y, ys, e1, v1, hvs2⟩ := hvs.cons_inv
      obtain ⟨z, zs, rfl, v2, hvs3⟩ := hvs2.cons_inv
      rw [hvs3.nil_inv] at e1
      cases v1 with
      | int _ t =>
        refine wpAny_bind (wpAny_holding ?_)
        have hx := I1.keep _ _ h1
        refine wpAny_bind (wpAny_tryCatch ?_)
        unfold Builtin.Dict.pairItems
        refine wpAny_bind (wpAny_typeOf ⟨_, hx, h2⟩ ?_)
        refine bm_if_true (by decide) ?_
        refine wpAny_bind (wpAny_seqItems hx h3 (wpAny_pure ?_))
        dsimp only [Option.getD_some]
        rw [e1]
        dsimp only
        have I2 := I1.perm (.swap ..)
        have hd0 := (I2.fs _ (.head _)).1
        refine wpAny_holding (wpAny_dictSet_pairs (knd := intKind c.prog c.w) (intKind_is _ _ k t) (DictShape.at hd0 hD) (fun h' hd' hs' => ?_) (lim_le (by rw [hP.length]; exact hl)))
        obtain ⟨od', ho', hD'⟩ := DictShape.of hd'
        have I3 := I2.set_own (s1.toks + 1) hs' ho'
        refine wpAny_pure ⟨plainId_quiet ul_plain _, ?_⟩
        exact update_loop hA xs _ (i + 1) K _ od' oi' _ r I3 hD' (hP.put v2) st1 hf hR

theorem dict_of_list {l : Addr} {o : Obj} {items : Array Value} {nn : Nat} {xs : List V} {es : List (Int × V)} (hA : AOk (n + 2) A) (I : Inv c Fs K φ hp s) (hK : K l = some o) (hc : o.cls = .type "list") (hd : o.data = .seq items nn) (hn : o.dict = none)
    (hv : VsR c K φ xs items.toList) (hf : putAll xs [] = some es) : wpAny c.M A (call (.type "dict") [.ref l]) (Post c Fs K φ hp (.dct es)) NoE s := by
  refine callType_codes (Q₁ := fun obj s₁ => obj = .ref s.heap.objs.size ∧ s₁ = { s with heap := s.heap.push { cls := .type "dict", data := .dict #[] } }) F.kt_called_dict (F.kt_typeCall_dict_1 _) F.entry_dict_init (kt_code_dict_new _ ⟨rfl, rfl⟩) ?_
  rintro obj s₁ ⟨rfl, rfl⟩
  have hbig := I.big
  have I1 := I.own { cls := .type "dict", data := .dict #[] } s.toks
  have hd1 := (I1.fs _ (.head _)).1
  have hx := I1.keep _ _ hK
  refine ⟨⟨_, hd1, rfl⟩, F.args_dict_init_2 _ _, ?_⟩
  unfold Builtin.«dict.__init__»
  refine wpAny_bind ?_
  unfold Builtin.Dict.selfAndRest
  refine wpAny_bind (wpAny_notOrdered_dict ⟨_, hd1, rfl⟩ ?_)
  show wpAny _ _ (pure (s.heap.objs.size, [Value.ref l])) _ _ _
  refine wpAny_pure ?_
  show wpAny _ _ (Builtin.Dict.updateFrom "dict.__init__" s.heap.objs.size (.ref l) [] .none) _ _ _
  unfold Builtin.Dict.updateFrom
  refine wpAny_bind (wpAny_typeOf ⟨_, hx, hc⟩ ?_)
  refine bm_if_true (by decide) ?_
  refine wpAny_bind (getAttrQ_list hx hc hd hn hA.1 fun h2 t2 hk2 => ?_)
  refine bm_if_true rfl ?_
  have I2 := I1.grow (h' := h2) (t := t2) hk2
  refine wpAny_bind (wpAny_rule (wpAny_bind ?_))
  refine wpAny_pyIter_list ⟨o, I2.keep _ _ hK, hc, nn, hd⟩ ?_
  have I3 := (I2.own { cls := .type "list_iterator", data := .fields #[.ref l, .int 0 0] } t2).perm (.swap ..)
  refine wpAny_pure ⟨plainId_quiet ul_plain _, ?_⟩
  refine update_loop (n := 0) (A := A.in1) ?_ xs [] 0 K _ _ _ [] es I3 dictShape_nil .nil (.list (i := 0) rfl rfl hK hc hd (by simpa using hv)) hf ?_
  · have h1 := hA.2.1; have h2 := hA.2.2
    exact ⟨hA.1, by show A.depth + 10 * (0 + 1) < 800; omega, by show A.units + 1 + 40 * (0 + 1) < 8000; omega⟩
  intro K' od' kvs' s' I4 k4 hD hP
  obtain ⟨I5, k5⟩ := I4.own_imm
  exact ⟨rfl, _, φ, I5, k4.trans k5, List.prefix_refl _, .dct (View.add_self ..) hbig hD hP.1 fun i x y e e' => (hP.2 i x y e e').mono k5 (List.prefix_refl _)⟩

noncomputable def eDictC (f : EF) : EF := fun ρ hp => (f ρ hp).bind fun r => match r.1 with
  | .lst xs => (putAll xs []).map fun es => (.dct es, r.2)
  | _ => none
theorem SE.dictComp {elt iter : Expr} {x y : Str} {px p cpos pos : Pos} {ifs : List Expr} {scope sc' : Scope} {cap : List (Option Nat)} {t : Option TF} {e fi : EF} {i : Nat}
    (hy : sc.names.lookup y = some .globalImplicit) (hd : (y == ("__debug__" : Str)) = false) (hg : GName c y (.type "dict")) (he0 : ∀ env, backTo pos (starEach [.ListComp elt [⟨.Name x px, iter, ifs, 0⟩] scope cpos] env) = [(false, PySem.eval (.ListComp elt [⟨.Name x px, iter, ifs, 0⟩] scope cpos) env)])
    (ok : CompOk sc scope sc' cap x i) (hI : SE c (n + 2) sc iter fi) (hT : TestS c (n + 2) sc' ifs t) (hE : SE c (n + 2) sc' elt e) (hs : ∀ env x, foldedSetIterable iter env x = pure x) :
    SE c (n + 2) sc (.Call (.Name y p) [.ListComp elt [⟨.Name x px, iter, ifs, 0⟩] scope cpos] [] pos) (eDictC (eComp fi cap t e i)) := by
  intro A env Fs K φ hp ρ s v hp' hA he I R hf
  obtain ⟨⟨u, hp1⟩, e1, hf⟩ := Option.bind_eq_some_iff.mp hf
  dsimp only at hf
  split at hf
  · rename_i xs
    obtain ⟨es, e2, hf⟩ := Option.map_eq_some_iff.mp hf
    cases hf
    show wpAny c.M A (do callWith pos (← PySem.eval (.Name y p) env) [] (backTo pos (starEach [.ListComp elt [⟨.Name x px, iter, ifs, 0⟩] scope cpos] env)) (backToKw pos (keywordEach [] env))) _ NoE s
    rw [he0]
    have main : wpAny c.M A (callWith pos (.type "dict") [] [(false, PySem.eval (.ListComp elt [⟨.Name x px, iter, ifs, 0⟩] scope cpos) env)] []) (Post c Fs K φ hp' (.dct es)) NoE s := by
      refine callWith_of (P := fun h => ∀ a o, c.S0.heap.get? a = some o → h.get? a = some o) rfl KeepS.type (evalArgs_of rfl (Calls.spliced_cons (wpAny_mono (comp_post ok hI hT hE hs A env Fs K φ hp ρ s _ _ hA he I R e1) ?_ fun _ _ x => x)))
      rintro val s1 ⟨K1, φ1, I1, k1, p1, v1, a, o, rfl, hK, hn⟩
      refine Calls.spliced_nil ⟨fun a o e => I1.old e, ?_⟩
      cases v1 with
      | lst h1 h2 h3 h4 h5 =>
        rw [hK] at h1; cases h1
        exact wpAny_mono (dict_of_list (n := n) hA I1 hK h2 h3 hn (VsR.of_arr h4 h5) e2) (fun _ _ h => h.trans k1 p1) fun _ _ x => x
    have hG : s.heap.Ns env.globals c.mg := R.glob ▸ c.g.keeps fun b o e => I.old e
    have hB : s.heap.Ns env.builtins c.mb := R.blt ▸ c.b.keeps fun b o e => I.old e
    refine wpAny_bind ?_
    rcases hg with hg | ⟨hg, hb'⟩
    · exact Calls.Name_function_global R.kind (by subst he; exact hy) (Calls.loadGlobal_global hG hg main) hd
    · exact Calls.Name_function_global R.kind (by subst he; exact hy) (Calls.loadGlobal_builtin hG hg hB hb' main) hd
  · cases hf
end
end Mine
end
section
open PySem PySem.W PyProof.Rows
set_option Elab.async false
set_option linter.unusedVariables false
namespace Mine


/-! the head's run, by the library's quick twins -/
noncomputable def fencedQ (p : Program) (w : World) (N : Nat) : Option Shared :=
  (Fast.tw10274390034422433532 Fast.tw14364793385576792824 (opening p) w N (Fast.tw1435165496053646825 (opening p)).1 (Fast.tw1435165496053646825 (opening p)).2).bind (Fast.tw14289696077712309145 p)
theorem fencedQ_eq (p : Program) (w : World) (N : Nat) : fencedOpening treeTable p w N = fencedQ p w N := by
  unfold fencedOpening fencedQ
  rw [← Fast.te10274390034422433532, ← Fast.te14364793385576792824, ← Fast.te1435165496053646825, ← Fast.te14289696077712309145]
noncomputable def topFromQ (p : Program) (w : World) (N : Nat) (s₀ : Shared) : Option Shared :=
  match s₀.heap.isNs mainGlobals && s₀.gens.size == 0 with
  | true => (Fast.tw14082659384304107361 Fast.tw14364793385576792824 p w s₀.heap.objs.size (Fast.tw8920871248978507458 s₀.heap mainGlobals "__annotations__") N s₀ (topStub p)).bind fun s₁ => match staticsOk (importedModules p.main.body) s₀.heap s₁.heap && namesBound p s₁.heap && gensDone s₁ && laidKept s₀.heap s₁.heap with
      | true => some s₁
      | false => none
  | false => none
theorem topFromQ_eq (p : Program) (w : World) (N : Nat) : topFrom treeTable p w N = topFromQ p w N := by
  funext s₀
  unfold topFrom topFromQ
  rw [← Fast.te14082659384304107361, ← Fast.te14364793385576792824, ← Fast.te8920871248978507458]
  rfl
theorem caller_cl : Cl ⟨.builtin "claim.caller" {}, none, none, [], none⟩ := ⟨bad_id (by decide +kernel), fun _ h => nomatch h⟩
theorem ends_N {prog : Program} {w : World} {t : Sem Fin} {s : Shared} {R : Result → Shared → Prop} (hreg : s.asleep)
    (h : wpN (model prog w) callerA t (fun fin s' => ∃ f, fin = .done f ∧ (R (.ok f) s' ∧ leftWithCleanup s'.gens = false)) NoE s) :
    ∃ n r s' s'', runN (denote table) prog w n s ⟨t, .builtin "claim.caller" {}, default, []⟩ = .halted (outcomeOf r) s' ∧
      schedN (denote table) prog w n (.single s ⟨t, .builtin "claim.caller" {}, default, []⟩) = .halted (outcomeOf r) s' ∧ s'.forget = s''.forget ∧ R r s'' := by
  have h0 := h _ default caller_in caller_cl
  have h1 : Sem.wp (model prog w) ⟨.builtin "claim.caller" {}, none, none, [], none⟩ t (Sem.finPost (model prog w) ⟨.builtin "claim.caller" {}, none, none, [], none⟩ fun r s' => R r s' ∧ leftWithCleanup s'.gens = false)
      (fun e _ s' => R (.error e) s' ∧ leftWithCleanup s'.gens = false) default s :=
    Sem.wp_mono _ _ t (fun fin p' s' h' => by obtain ⟨f, rfl, hf⟩ := h'; exact hf) (fun _ _ _ h' => h'.elim) default s h0
  obtain ⟨n, r, s₁, s₂, hs, hn, hfo, hR⟩ := wp_halts_full (M := model prog w) (R := R) hreg h1
  exact ⟨n, r, s₂, s₁, hn, hs, hfo, hR⟩
/-- the walk of the head, in contexts in which nothing holds a bytearray -/
noncomputable abbrev WalkCl (q : Program) (loose : List Str) (XP : (Str → Option Value) → Heap → Prop) (YP : World → Heap → Prop) (r : RowW) (d : DefRec) (kwd : List (Str × Expr)) (run : Value → List Value → Sem Value) : Prop :=
  ∀ (w : World) (s₀ s₁ : Shared) (mg mb : Str → Option Value), Ground q loose r.records XP w s₀ mg mb s₁.heap → YP w s₁.heap → ∀ (a : Addr) (o : Obj) (pm cd doc dV kV : Value), s₁.heap.get? a = some o →
    o.data = .func { PySem.Calls.docDef d.name d.params d.body d.scope pm cd doc with defaults := dV, kwdefaults := kV } → s₁.heap.CodeRec cd d.name → Dflts mg s₁.heap d.params kwd dV kV → mg d.name = some (.ref a) → s₁.gens = #[] →
    ∀ (args : List WData) (vals : List Value) (as : List Addr), r.claim.pre args = true → WData.layableAll args = true → ReadsAllW r.records (classAt s₀.heap) s₁.heap vals args as → WellAll w.params s₁.heap vals args → (∀ a ∈ as, (a == sysModules) = false) →
      wpN (model r.prog w) callerA (run (.ref a) vals) (fun v s' => GoodWG r.claim (classAt s₀.heap) (ExcName.means s₀.heap) args s₁ (.ok (.ret v)) s') NoE s₁

theorem PySem.W.holds_open {r : OpenRow} {q : Program} {loose : List Str} {Xt : Shared → Bool} {XP : (Str → Option Value) → Heap → Prop} {α : Type} {Yf : Shared → α} {Ya : World → α} {YP : World → Heap → Prop} {d : DefRec} {kwd : List (Str × Expr)} {N : Nat}
    (left0 : ∀ w, ((fencedQ r.prog w N).bind (topFromQ r.prog w N)).map (fun s => (Fast.tw4187177175401517315 q loose (importedModules r.prog.main.body) Xt true s, Yf s)) = some (openGood q loose, Ya w)) (hY : ∀ w s, Yf s = Ya w → YP w s.heap) (hYk : ∀ w h h', YP w h → (∀ b o, h.get? b = some o → h'.get? b = some o) → YP w h')
    (hX : ∀ s, Xt s = true → XP (s.heap.nsMap mainGlobals) s.heap) (hXk : ∀ mg h h', XP mg h → (∀ b o, h.get? b = some o → h'.get? b = some o) → XP mg h')
    (hdef : defOf q r.name = some (d, kwd)) (hp : r.prog.theDef r.name = some (d.params, d.body, d.scope)) (hk : kwWritten? d.params.kwonlyargs d.params.kw_defaults = some kwd) (hRf : ∀ s, Xt s = true → RecFacts r.records s.heap) (hwr : (!r.writes || r.records.isEmpty) = true)
    (k0 : true = true) (ok : (chainsOk q && opensWell r.prog && (frees r.toRowW && r.within.isEmpty)) = true) (hb : r.prog.bare) (hw : r.toRowW.promised)
    (both : r.wellSaid = true ∧ WalkCl q loose XP YP r.toRowW d kwd fun f vs => PySem.call f vs) : r.Holds := by
  obtain ⟨k1, walk⟩ := both
  have left : LeftO r.prog q loose Xt Yf Ya N := fun w => by
    have h := left0 w
    rw [← fencedQ_eq, ← topFromQ_eq, ← Fast.te4187177175401517315] at h
    exact h
  refine ⟨k1, hw, ?_⟩
  obtain ⟨ok12, ok3⟩ := Bool.and_eq_true_iff.mp ok
  obtain ⟨hch, o1⟩ := Bool.and_eq_true_iff.mp ok12
  obtain ⟨k5, k6⟩ := Bool.and_eq_true_iff.mp ok3
  obtain ⟨hsame, hu, ha, hap, hm⟩ := frees_parts k5
  have hi := ident_freeW hu ha hap
  have hwi : r.toRowW.claim.within = [] := List.isEmpty_iff.mp k6
  refine ⟨⟨hb, o1, by show r.toRowW.makers.map _ = []; rw [hm]; rfl⟩, hw.witness, fun w => ⟨(left.behind hX hch w).1, fun s' hs' => ?_⟩⟩
  obtain ⟨s₀, hf, hg0, s, hT, hz, hgens, hg, G00, y⟩ := (left.behind (XP := fun mg h => XP mg h ∧ RecFacts r.toRowW.records h) (fun s hs => ⟨hX s hs, hRf s hs⟩) hch w).2 s' hs'
  have G0 : Ground q loose [] XP w s (s.heap.nsMap mainGlobals) (s.heap.nsMap builtinsNs) s.heap := ⟨G00.T, G00.B, G00.D, G00.TE, G00.TD, G00.W, G00.X.1, G00.cls, G00.has, G00.apart, G00.once, G00.K⟩
  have RF := G00.X.2
  have hg2 : s.gens = #[] := Array.eq_empty_of_size_eq_zero (beq_iff_eq.mp hgens)
  have hT' := hT
  refine ⟨s₀, hf, hg0, s, hT, fun n hn => ?_, RF.1, RF.2.1, ?_⟩
  · obtain rfl : n = r.name := by split at hn <;> simp_all
    exact pinned_of_view hg G0 hdef hp hk
  have G : Ground q loose r.toRowW.records XP w s _ _ s.heap := RF.ground G0
  intro args hpre hlay ord hord
  obtain ⟨⟨vs, s₁⟩, hlaid⟩ := Option.isSome_iff_exists.mp (layAllW_isSome (P := w.params) (ord := ord) G.has args r.toRowW.args s (pre_splitW hpre).1)
  have keeps := layAllW_keeps _ _ _ hlaid
  have hal := layAllW_rest _ _ _ hlaid
  obtain ⟨as, hrd, hin, hold⟩ := reads_layAllW hord _ _ _ hlaid hlay s₁.heap (fun _ _ e => e)
  have L : Laid r.toRowW.records w s s₁ args vs as := ⟨⟨ord, hord, hlaid⟩, hrd, hin, hold, keeps, hal.1.trans hg2, hal.2.2.1⟩
  have G₁ := G.keeps hXk keeps
  obtain ⟨a, o, pm, cd, doc, dV, kV, h1, h2, h3, h4, h5⟩ := G₁.fn hdef
  have hcode := walk w s s₁ _ _ G₁ (hYk _ _ _ (hY w s y) keeps) a o pm cd doc dV kV h2 h3 h4 h5 (defOf_name hdef ▸ h1) L.gens args vs as hpre hlay L.reads L.well (L.low G.low)
  have htree : wpN (model r.prog w) callerA (do match ← nsGet mainNs r.name with
      | some f => do ret (← PySem.call f vs)
      | none => unsupported "claim.caller:no-such-global")
      (fun fin s' => ∃ f, fin = .done f ∧ ((r.toRowW.claim.Ends s args vs s₁ (.ok f) s' ∧ s'.os = s.os ∧ (∀ b o, s₁.heap.get? b = some o → asItWas s₁.heap s'.heap b o)) ∧ leftWithCleanup s'.gens = false)) NoE s₁ := by
    refine wpN_bind (wpN.any (wpAny_nsGet G₁.T.g ?_))
    rw [h1]
    refine wpN_bind (wpN_mono hcode (fun v s' g => wpN_pure ⟨_, rfl, ?_⟩) fun _ _ x => x)
    have z := g.laid (c := r.toRowW.claim) hsame hwi hi L
    exact ⟨⟨z.1, z.2.1, g.2.1.old⟩, leftWithCleanup_false_of_bare z.2.2⟩
  obtain ⟨k, res, s2, s3, hrun, hsched, hfo, hcase, hos, hkp⟩ := ends_N (prog := r.prog) (w := w) (s := s₁) (R := fun res s' => r.toRowW.claim.Ends s args vs s₁ res s' ∧ s'.os = s.os ∧ ∀ b o, s₁.heap.get? b = some o → asItWas s₁.heap s'.heap b o) (Shared.asleep_of_life hal.2.2.2 hz) htree
  obtain ⟨eh, _, _, eo, _⟩ := Shared.forget_eq hfo
  have hcase := hcase.congr eh
  rw [← eh] at hkp
  rw [← eo] at hos
  have hlife : s2.heap.life = s.heap.life := (runN_life _ _ _ hrun).trans hal.2.2.2
  refine ⟨vs, s₁, hlaid, k, _, s2, hsched, ?_, (fun _ i x hx => by rw [hg2] at hx; simp at hx), ?_, by rw [hlife], Shared.rest_eq hos⟩
  · rcases hcase with ⟨v, rfl, d1, d2, d3, d4, d5⟩ | ⟨e, ob, cls, rfl, d1, d2, d3, d4, d5⟩
    · exact .inl ⟨v, rfl, d1, d2, d3, fun b o y _ => d4 b o y, d5⟩
    · exact .inr ⟨e, ob, cls, rfl, d1, d2, d3, d4, fun b o y _ => d5 b o y⟩
  · exact fun q => ⟨namesKept_of hT' hg r.keeps keeps hkp, noTable hwr q⟩
end Mine
end
section
open PySem PySem.W PyProof.Rows
set_option Elab.async false
namespace Mine
theorem hd_said0 : Fast.tw9446332074065402090 PySem.Challenge.rw_pb0103_01 = true := by kernel_rfl
theorem hd_said : (PySem.Challenge.rw_pb0103_01).wellSaid = true := by rw [Fast.te9446332074065402090]; exact hd_said0
set_option maxRecDepth 100000 in
set_option maxHeartbeats 8000000 in
open_top hd for (PySem.Challenge.rw_pb0103_01.row)
end Mine
end
section
open PySem PySem.W PyProof.Rows
set_option Elab.async false
set_option linter.unusedVariables false
set_option maxRecDepth 100000
namespace Mine

section
variable {c : Cx} {n m : Nat} {sc : Scope}
theorem OpS.mul : OpS c n (binaryOp .Mult) (oInt pMul) := .int fun A s a b r ta tb Q e h => by
  unfold pMul at e; split at e
  · rename_i q
    cases e
    refine P.mul_int (h _) (IntMulOk.of_left ?_)
    unfold Builtin.Int.intBits
    split
    · omega
    · rename_i hz
      have : a.natAbs ≠ 0 := fun e => hz (by simpa using e)
      have := (Nat.log2_lt this).mpr q
      omega
  · cases e
theorem BS.le {fv : Value} {g : BF} (h : BS c m fv g) (hm : m ≤ n) : BS c n fv g := fun A Fs K φ hp s vs vals v hp' hA => h A Fs K φ hp s vs vals v hp' (hA.le hm)
theorem BSN.le {fv : Value} {g : BF} (h : BSN c m fv g) (hm : m ≤ n) : BSN c n fv g := fun A Fs K φ hp s vs vals v hp' hA => h A Fs K φ hp s vs vals v hp' (hA.le hm)
end

theorem cells_gen : ∀ (names : List (Str × NameKind)) (acc : List (Str × Addr)) (m : Nat), (names.map (·.1)).Nodup → (acc.map (·.1)).Nodup → (∀ x, x ∈ names.map (·.1) → x ∉ acc.map (·.1)) →
    ((cellsFrom m names acc).map (·.1)).Nodup ∧ (∀ x, x ∈ acc.map (·.1) → x ∈ (cellsFrom m names acc).map (·.1)) ∧ ∀ x, names.lookup x = some .cell → x ∈ (cellsFrom m names acc).map (·.1)
  | [], acc, m, _, h2, _ => ⟨h2, fun x h => h, fun x h => by simp at h⟩
  | (y, k) :: r, acc, m, h1, h2, h3 => by
    rw [List.map_cons, List.nodup_cons] at h1
    unfold cellsFrom
    split
    · rename_i hk
      obtain ⟨a, b, d⟩ := cells_gen r ((y, m) :: acc) (m + 1) h1.2 (by
        rw [List.map_cons, List.nodup_cons]; exact ⟨h3 y (by simp), h2⟩) (fun x hx hm => by
        rw [List.map_cons] at hm
        rcases List.mem_cons.mp hm with q | q
        · subst q; exact h1.1 hx
        · exact h3 x (by rw [List.map_cons]; exact .tail _ hx) q)
      refine ⟨a, fun x hx => b x (by rw [List.map_cons]; exact .tail _ hx), fun x hx => ?_⟩
      rw [List.lookup_cons] at hx
      split at hx
      · rename_i q; rw [eq_of_beq q]; exact b y (by simp)
      · exact d x hx
    · rename_i hk
      obtain ⟨a, b, d⟩ := cells_gen r acc m h1.2 h2 fun x hx => h3 x (by rw [List.map_cons]; exact .tail _ hx)
      refine ⟨a, b, fun x hx => ?_⟩
      rw [List.lookup_cons] at hx
      split at hx
      · cases hx; exact absurd rfl hk
      · exact d x hx
theorem cells_ok {names : List (Str × NameKind)} (nd : (names.map (·.1)).Nodup) : ∀ m, ((cellsFrom m names []).map (·.1)).Nodup ∧ ∀ x, names.lookup x = some .cell → ((cellsFrom m names []).lookup x).isSome = true := fun m => by
  obtain ⟨a, _, d⟩ := cells_gen names [] m nd (by simp) (fun x _ h => by simp at h)
  refine ⟨a, fun x hx => ?_⟩
  obtain ⟨p, hp, e⟩ := List.mem_map.mp (d x hx)
  obtain ⟨y, v⟩ := p
  rw [lookup_of_mem a (show (x, v) ∈ _ from e ▸ hp)]; rfl
/-- the heap of this text -/
structure Base (c : Cx) : Prop where
  frag : c.frag = hd.heap_1 c.w.params
noncomputable def fragName (K : Frag) (x : Str) : Option Value := match K.lookup mainGlobals with
  | some ⟨_, _, .dict es _, _⟩ => nsFind es x
  | _ => none
noncomputable def fragFd (K : Frag) (a : Addr) : Option FuncData := match K.lookup a with
  | some ⟨_, _, .func fd, _⟩ => some fd
  | _ => none
namespace Base
variable {c : Cx} (B : Base c)
include B in
theorem X : (hd.heap_1 c.w.params).In c.S0.heap := B.frag ▸ c.X
include B in
theorem mg {x : Str} {r : Option Value} (e : fragName (hd.heap_1 c.w.params) x = r) : c.mg x = r := by
  obtain ⟨o, es, ep, h1, h2, h3, h4⟩ := c.g
  have h5 := B.X mainGlobals _ (by rfl)
  rw [h1] at h5
  cases h5
  cases h2
  rw [← h4 x, ← e]
  rfl
theorem mb {x : Str} {r : Option Value} (hx : x ≠ "__name__") (e : bootBuiltins x = r) : c.mb x = r := (c.bb x hx).trans e
include B in
theorem keep {f : Value} (h : keepIn (hd.heap_1 c.w.params) f = true) : KeepS c f := .frag (B.frag ▸ h)
end Base
end Mine
end
section
open PySem PySem.W PyProof.Rows
set_option Elab.async false
set_option linter.unusedVariables false
set_option maxRecDepth 100000
set_option maxHeartbeats 4000000
namespace Mine
noncomputable def f_28 : SF := (sCons (sAsg (aTupR [0, 1]) (eTup [(eMut []), (eC (.int 3))])) (sCons (sFor (eCall bRange [(eC (.int 28))]) (aVar 2) (sCons (sAsg (aVar 3) (eIf (tCmp (oCmp fun a b => decide (a < b)) (eV 2) (eC (.int 8))) (eC (.int 0)) (eBin (oInt pSub) (eBin (oInt pDiv) (eV 2) (eC (.int 4))) (eC (.int 1))))) (sCons (sExp (eApp (eV 0) (eTup [(eV 1), (eV 3)]))) (sCons (sAsg (aVar 1) (eBin (oAdd) (eV 1) (eBin (oInt pShl) (eC (.int 1)) (eV 3)))) sNil)))) (sCons (sExp (eApp (eV 0) (eTup [(eC (.int 258)), (eC (.int 0))]))) (sCons (sRet (eFrz (eV 0))) sNil))))
noncomputable def b_28 : BF := fnF [] 6 f_28
noncomputable def f_35 : SF := (sCons (sAsg (aTupR [0, 1]) (eTup [(eMut []), (eC (.int 1))])) (sCons (sFor (eCall bRange [(eC (.int 30))]) (aVar 2) (sCons (sAsg (aVar 3) (eIf (tCmp (oCmp fun a b => decide (a < b)) (eV 2) (eC (.int 4))) (eC (.int 0)) (eBin (oInt pSub) (eBin (oInt pDiv) (eV 2) (eC (.int 2))) (eC (.int 1))))) (sCons (sExp (eApp (eV 0) (eTup [(eV 1), (eV 3)]))) (sCons (sAsg (aVar 1) (eBin (oAdd) (eV 1) (eBin (oInt pShl) (eC (.int 1)) (eV 3)))) sNil)))) (sCons (sRet (eFrz (eV 0))) sNil)))
noncomputable def b_35 : BF := fnF [] 6 f_35
noncomputable def f_120 : SF := (sCons (sAsg (aVar 2) (eC (.int 0))) (sCons (sAsg (aVar 3) (eCall bLen [(eV 0)])) (sCons (whileL (tCmp (oCmp fun a b => decide (a > b)) (eBin (oInt pSub) (eV 3) (eV 2)) (eC (.int 1))) (sCons (sAsg (aVar 4) (eBin (oInt pDiv) (eBin (oAdd) (eV 2) (eV 3)) (eC (.int 2)))) (sCons (sIf (tCmp (oCmp fun a b => decide (a ≤ b)) (eIdx (eIdx (eV 0) (eV 4)) (eC (.int 0))) (eV 1)) (sCons (sAsg (aVar 2) (eV 4)) sNil) (sCons (sAsg (aVar 3) (eV 4)) sNil)) sNil)) 64) (sCons (sRet (eV 2)) sNil))))
noncomputable def b_120 : BF := fnF [0, 1] 6 f_120
noncomputable def f_127 : SF := (sCons (sAsg (aVar 1) (eRepM (eC (.int 0)) (eIf (tCmp (oNeSeq) (eV 0) (eLst [])) (eBin (oAdd) (eCall bMax [(eV 0)]) (eC (.int 2))) (eC (.int 2))))) (sCons (sFor (eV 0) (aVar 2) (sCons (sIf (tCmp (oCmp fun a b => decide (a > b)) (eV 2) (eC (.int 0))) (sCons (sSet (eV 1) (eV 2) (eBin (oAdd) (eIdx (eV 1) (eV 2)) (eC (.int 1)))) sNil) sNil) sNil)) (sCons (sAsg (aVar 3) (eRepM (eC (.int 0)) (eCall bLen [(eV 1)]))) (sCons (sAsg (aVar 4) (eC (.int 0))) (sCons (sFor (eCall bRange [(eC (.int 1)), (eCall bLen [(eV 1)])]) (aVar 2) (sCons (sAsg (aVar 4) (eBin (oInt pShl) (eBin (oAdd) (eV 4) (eIf (tCmp (oCmp fun a b => decide (a > b)) (eV 2) (eC (.int 1))) (eIdx (eV 1) (eBin (oInt pSub) (eV 2) (eC (.int 1)))) (eC (.int 0)))) (eC (.int 1)))) (sCons (sSet (eV 3) (eV 2) (eV 4)) sNil))) (sCons (sAsg (aVar 5) (eMut [])) (sCons (sFor (eV 0) (aVar 2) (sCons (sIf (tCmp (oCmp fun a b => a == b) (eV 2) (eC (.int 0))) (sCons (sExp (eApp (eV 5) (eC (.int 0)))) sNil) (sCons (sExp (eApp (eV 5) (eIdx (eV 3) (eV 2)))) (sCons (sSet (eV 3) (eV 2) (eBin (oAdd) (eIdx (eV 3) (eV 2)) (eC (.int 1)))) sNil))) sNil)) (sCons (sRet (eFrz (eV 5))) sNil))))))))
noncomputable def b_127 : BF := fnF [0] 9 f_127
noncomputable def f_183 : SF := (sCons (sAsg (aTupR [0, 1]) (eTup [(eMut []), (eC (.int 3))])) (sCons (sFor (eCall bRange [(eC (.int 257)), (eC (.int 285))]) (aVar 2) (sCons (sAsg (aVar 3) (eIf (tCmp (oCmp fun a b => decide (a < b)) (eV 2) (eC (.int 265))) (eC (.int 0)) (eBin (oInt pDiv) (eBin (oInt pSub) (eV 2) (eC (.int 261))) (eC (.int 4))))) (sCons (sExp (eApp (eV 0) (eTup [(eV 2), (eV 1), (eV 3)]))) (sCons (sAsg (aVar 1) (eBin (oAdd) (eV 1) (eBin (oInt pPow) (eC (.int 2)) (eV 3)))) sNil)))) (sCons (sRet (eBin (oAdd) (eV 0) (eLst [(eTup [(eC (.int 285)), (eC (.int 258)), (eC (.int 0))])]))) sNil)))
noncomputable def b_183 : BF := fnF [] 5 f_183
noncomputable def f_190 : SF := (sCons (sAsg (aTupR [0, 1]) (eTup [(eMut []), (eC (.int 1))])) (sCons (sFor (eCall bRange [(eC (.int 30))]) (aVar 2) (sCons (sAsg (aVar 3) (eIf (tCmp (oCmp fun a b => decide (a < b)) (eV 2) (eC (.int 4))) (eC (.int 0)) (eBin (oInt pSub) (eBin (oInt pDiv) (eV 2) (eC (.int 2))) (eC (.int 1))))) (sCons (sExp (eApp (eV 0) (eTup [(eV 2), (eV 1), (eV 3)]))) (sCons (sAsg (aVar 1) (eBin (oAdd) (eV 1) (eBin (oInt pPow) (eC (.int 2)) (eV 3)))) sNil)))) (sCons (sRet (eFrz (eV 0))) sNil)))
noncomputable def b_190 : BF := fnF [] 5 f_190
noncomputable def f_195 : SF := (sCons (sAsg (aTup [2, 3, 4]) (eIdx (eComp (eV 0) [none, none, some 1] (some (tCmp (oCmp fun a b => decide (a ≤ b)) (eIdx (eV 1) (eC (.int 1))) (eV 2))) (eV 1) 1) (eUn oNeg (eC (.int 1))))) (sCons (sRet (eTup [(eV 2), (eBin (oInt pSub) (eV 1) (eV 3)), (eV 4)])) sNil))
noncomputable def b_195 : BF := fnF [0, 1] 5 f_195
noncomputable def f_202 : SF := (sCons (sIf (tCmp (oCmp fun a b => decide (a < b)) (eBin (oInt pMod) (eV 0) (eC (.int 4))) (eC (.int 2))) (sCons (sRet (eTup [(eBin (oInt pMod) (eBin (oInt pDiv) (eV 0) (eC (.int 4))) (eC (.int 256)))])) sNil) sNil) (sCons (sAsg (aVar 2) (eLst [(eC (.int 3)), (eC (.int 10)), (eC (.int 11)), (eC (.int 12)), (eC (.int 257)), (eC (.int 258)), (eC (.int 130)), (eC (.int 131))])) (sCons (sAsg (aVar 3) (eLst [(eC (.int 1)), (eC (.int 4)), (eC (.int 5)), (eC (.int 6)), (eC (.int 7)), (eC (.int 24576)), (eC (.int 24577)), (eC (.int 32768))])) (sCons (sAsg (aVar 4) (eIf (tCmp (oCmp fun a b => decide (a > b)) (eBin (oInt pMod) (eV 0) (eC (.int 8))) (eC (.int 5))) (eIdx (eV 2) (eBin (oInt pMod) (eBin (oInt pDiv) (eV 0) (eC (.int 4))) (eC (.int 8)))) (eBin (oAdd) (eC (.int 3)) (eBin (oInt pMod) (eBin (oInt pDiv) (eV 0) (eC (.int 4))) (eC (.int 256)))))) (sCons (sAsg (aVar 5) (eIf (tCmp (oCmp fun a b => a == b) (eBin (oInt pMod) (eV 1) (eC (.int 2))) (eC (.int 1))) (eIdx (eV 3) (eBin (oInt pMod) (eBin (oInt pDiv) (eV 1) (eC (.int 2))) (eC (.int 8)))) (eBin (oAdd) (eC (.int 1)) (eBin (oInt pMod) (eBin (oInt pDiv) (eV 1) (eC (.int 2))) (eC (.int 32768)))))) (sCons (sRet (eTup [(eV 4), (eV 5)])) sNil))))))
noncomputable def b_202 : BF := fnF [0, 1] 6 f_202
noncomputable def f_207 : SF := (sCons (sAsg (aTup [1, 2]) (eTup [eDict, (eC (.int 0))])) (sCons (sFor (eCall bRange [(eC (.int 1)), (eC (.int 16))]) (aVar 3) (sCons (sAsg (aVar 2) (eBin (oInt pMul) (eV 2) (eC (.int 2)))) (sCons (sFor (eCall bSorted [(eV 0)]) (aVar 4) (sCons (sIf (tCmp (oCmp fun a b => a == b) (eIdx (eV 0) (eV 4)) (eV 3)) (sCons (sSet (eV 1) (eV 4) (eComp (eCall bRange [(eV 3)]) [none, none, some 3, some 2] none (eBin (oInt pMod) (eBin (oInt pDiv) (eV 3) (eBin (oInt pPow) (eC (.int 2)) (eBin (oInt pSub) (eBin (oInt pSub) (eV 2) (eC (.int 1))) (eV 1)))) (eC (.int 2))) 1)) (sCons (sAsg (aVar 2) (eBin (oAdd) (eV 2) (eC (.int 1)))) sNil)) sNil) sNil)) sNil))) (sCons (sRet (eFrz (eV 1))) sNil)))
noncomputable def b_207 : BF := fnF [0] 7 f_207
noncomputable def f_212 : SF := (sCons (sAsg (aVar 2) eDict) (sCons (sIf (tOr (tCmp (oCmp fun a b => a == b) (eV 1) (eC (.int 0))) (tCmp (oCmp fun a b => decide (a > b)) (eCall bLen [(eV 0)]) (eC (.int 12)))) (sCons (sAsg (aVar 3) (eC (.int 1))) (sCons (whileL (tCmp (oCmp fun a b => decide (a < b)) (eBin (oInt pPow) (eC (.int 2)) (eV 3)) (eCall bLen [(eV 0)])) (sCons (sAsg (aVar 3) (eBin (oAdd) (eV 3) (eC (.int 1)))) sNil) 64) (sCons (sRet (eDictC (eComp (eV 0) [none, none, some 3] none (eTup [(eV 1), (eV 2)]) 1))) sNil))) sNil) (sCons (sEnum (eV 0) (aTup [5, 4]) (sCons (sSet (eV 2) (eV 4) (eCall bMax2 [(eC (.int 1)), (eCall bMin2 [(eBin (oAdd) (eV 5) (eC (.int 1))), (eBin (oInt pSub) (eCall bLen [(eV 0)]) (eC (.int 1)))])])) sNil)) (sCons (sRet (eFrz (eV 2))) sNil))))
noncomputable def b_212 : BF := fnF [0, 1] 11 f_212
noncomputable def f_217 : SF := (sCons (sRet (eComp (eCall bRange [(eV 1)]) [none, none, some 0] none (eBin (oInt pMod) (eBin (oInt pDiv) (eV 2) (eBin (oInt pPow) (eC (.int 2)) (eV 1))) (eC (.int 2))) 1)) sNil)
noncomputable def b_217 : BF := fnF [0, 1] 3 f_217
noncomputable def f_57 : SF := (sCons (sSetA 109 "held" (eV 0) (eBin (oInt pOr) (eAttr 109 "held" (eV 0)) (eBin (oInt pShl) (eV 1) (eAttr 109 "many" (eV 0))))) (sCons (sSetA 109 "many" (eV 0) (eBin (oAdd) (eAttr 109 "many" (eV 0)) (eV 2))) (sCons (whileL (tCmp (oCmp fun a b => decide (a ≥ b)) (eAttr 109 "many" (eV 0)) (eC (.int 8))) (sCons (sExp (eBap (eAttr 109 "done" (eV 0)) (eBin (oInt pAnd) (eAttr 109 "held" (eV 0)) (eC (.int 255))))) (sCons (sSetA 109 "held" (eV 0) (eBin (oInt pShr) (eAttr 109 "held" (eV 0)) (eC (.int 8)))) (sCons (sSetA 109 "many" (eV 0) (eBin (oInt pSub) (eAttr 109 "many" (eV 0)) (eC (.int 8)))) sNil))) 64) sNil)))
noncomputable def b_57 : BF := fnF [0, 1, 2] 3 f_57
noncomputable def f_85 : SF := (sCons (sRet (eBin (oAdd) (eBin (oInt pMul) (eC (.int 8)) (eCall bLenB [(eAttr 109 "done" (eV 0))])) (eAttr 109 "many" (eV 0)))) sNil)
noncomputable def b_85 : BF := fnF [0] 2 f_85
noncomputable def f_50 : SF := (sCons (sSetA 109 "done" (eV 0) (eCall bBa [])) (sCons (sSetA 109 "held" (eV 0) (eV 1)) (sCons (sSetA 109 "many" (eV 0) (eV 2)) sNil)))
noncomputable def b_50 : BF := fnF [0, 1, 2] 4 f_50 [.int 0, .int 0]
noncomputable def f_148 : SF := (sCons (sAsg (aVar 2) (eCall b_120 [(eAttr 172 "length_ranges" (eV 0)), (eV 1)])) (sCons (sAsg (aTup [3, 4]) (eIdx (eAttr 172 "length_ranges" (eV 0)) (eV 2))) (sCons (sRet (eTup [(eBin (oAdd) (eC (.int 257)) (eV 2)), (eBin (oInt pSub) (eV 1) (eV 3)), (eV 4)])) sNil)))
noncomputable def b_148 : BF := fnF [0, 1] 7 f_148
noncomputable def f_155 : SF := (sCons (sAsg (aVar 2) (eCall b_120 [(eAttr 172 "distance_ranges" (eV 0)), (eV 1)])) (sCons (sAsg (aTup [3, 4]) (eIdx (eAttr 172 "distance_ranges" (eV 0)) (eV 2))) (sCons (sRet (eTup [(eV 2), (eBin (oInt pSub) (eV 1) (eV 3)), (eV 4)])) sNil)))
noncomputable def b_155 : BF := fnF [0, 1] 6 f_155
noncomputable def f_141 : SF := (sCons (sSetA 172 "length_ranges" (eV 0) (eCall b_28 [])) (sCons (sSetA 172 "distance_ranges" (eV 0) (eCall b_35 [])) sNil))
noncomputable def b_141 : BF := fnF [0] 3 f_141
noncomputable def f_64 : SF := (sCons (sAsg (aVar 3) (eC (.int 0))) (sCons (sFor (eCall bRange [(eV 2)]) (aVar 4) (sCons (sAsg (aVar 3) (eBin (oInt pOr) (eBin (oInt pShl) (eV 3) (eC (.int 1))) (eBin (oInt pAnd) (eBin (oInt pShr) (eV 1) (eV 4)) (eC (.int 1))))) sNil)) (sCons (sExp (eMeth 109 "put" b_57 (eV 0) [(eV 3), (eV 2)])) sNil)))
noncomputable def b_64 : BF := fnF [0, 1, 2] 6 f_64
noncomputable def f_71 : SF := (sCons (sIf (tCmp (oCmp fun a b => decide (a > b)) (eAttr 109 "many" (eV 0)) (eC (.int 0))) (sCons (sExp (eMeth 109 "put" b_57 (eV 0) [(eC (.int 0)), (eBin (oInt pSub) (eC (.int 8)) (eAttr 109 "many" (eV 0)))])) sNil) sNil) sNil)
noncomputable def b_71 : BF := fnF [0] 1 f_71
noncomputable def f_162 : SF := (sCons (sAsg (aVar 2) (eRepM (eC (.int 0)) (eC (.int 286)))) (sCons (sAsg (aVar 3) (eRepM (eC (.int 0)) (eC (.int 30)))) (sCons (sSet (eV 2) (eC (.int 256)) (eC (.int 1))) (sCons (sFor (eV 1) (aVar 4) (sCons (sIf (tCmp (oCmp fun a b => a == b) (eCall bLen [(eV 4)]) (eC (.int 1))) (sCons (sSet (eV 2) (eIdx (eV 4) (eC (.int 0))) (eBin (oAdd) (eIdx (eV 2) (eIdx (eV 4) (eC (.int 0)))) (eC (.int 1)))) sNil) (sCons (sAsg (aVar 5) (eIdx (eMeth 172 "length_sign" b_148 (eV 0) [(eIdx (eV 4) (eC (.int 0)))]) (eC (.int 0)))) (sCons (sSet (eV 2) (eV 5) (eBin (oAdd) (eIdx (eV 2) (eV 5)) (eC (.int 1)))) (sCons (sAsg (aVar 5) (eIdx (eMeth 172 "distance_sign" b_155 (eV 0) [(eIdx (eV 4) (eC (.int 1)))]) (eC (.int 0)))) (sCons (sSet (eV 3) (eV 5) (eBin (oAdd) (eIdx (eV 3) (eV 5)) (eC (.int 1)))) sNil))))) sNil)) (sCons (sRet (eTup [(eFrz (eV 2)), (eFrz (eV 3))])) sNil)))))
noncomputable def b_162 : BF := fnF [0, 1] 10 f_162
noncomputable def f_106 : SF := (sCons (sExp (eMeth 109 "align" b_71 (eV 0) [])) (sCons (sRet (eCall bBytes [(eAttr 109 "done" (eV 0))])) sNil))
noncomputable def b_106 : BF := fnF [0] 2 f_106
noncomputable def f_169 : SF := (sCons (sAsg (aVar 5) (eCall b_127 [(eV 3)])) (sCons (sAsg (aVar 6) (eCall b_127 [(eV 4)])) (sCons (sFor (eV 2) (aVar 7) (sCons (sIf (tCmp (oCmp fun a b => a == b) (eCall bLen [(eV 7)]) (eC (.int 1))) (sCons (sExp (eMeth 109 "put_code" b_64 (eV 1) [(eIdx (eV 5) (eIdx (eV 7) (eC (.int 0)))), (eIdx (eV 3) (eIdx (eV 7) (eC (.int 0))))])) sNil) (sCons (sAsg (aTup [8, 9, 10]) (eMeth 172 "length_sign" b_148 (eV 0) [(eIdx (eV 7) (eC (.int 0)))])) (sCons (sExp (eMeth 109 "put_code" b_64 (eV 1) [(eIdx (eV 5) (eV 8)), (eIdx (eV 3) (eV 8))])) (sCons (sExp (eMeth 109 "put" b_57 (eV 1) [(eV 9), (eV 10)])) (sCons (sAsg (aTup [8, 9, 10]) (eMeth 172 "distance_sign" b_155 (eV 0) [(eIdx (eV 7) (eC (.int 1)))])) (sCons (sExp (eMeth 109 "put_code" b_64 (eV 1) [(eIdx (eV 6) (eV 8)), (eIdx (eV 4) (eV 8))])) (sCons (sExp (eMeth 109 "put" b_57 (eV 1) [(eV 9), (eV 10)])) sNil))))))) sNil)) (sCons (sExp (eMeth 109 "put_code" b_64 (eV 1) [(eIdx (eV 5) (eC (.int 256))), (eIdx (eV 3) (eC (.int 256)))])) sNil))))
noncomputable def b_169 : BF := fnF [0, 1, 2, 3, 4] 14 f_169
noncomputable def f_222 : SF := (sCons (sAsg (aVar 1) (eComp (eTake (eV 0) 12) [none, none, none, none] none (eBin (oInt pMod) (eCall bAbs [(eCall bInt [(eV 1)])]) (eBin (oInt pPow) (eC (.int 10)) (eC (.int 6)))) 1)) (sCons (sAsg (aVar 2) (eComp (eCall bRange [(eC (.int 0)), (eBin (oInt pSub) (eCall bLen [(eV 1)]) (eC (.int 1))), (eC (.int 2))]) [none, none, none, some 1] none (eCall b_202 [(eIdx (eV 3) (eV 1)), (eIdx (eV 3) (eBin (oAdd) (eV 1) (eC (.int 1))))]) 1)) (sCons (sAsg (aTupR [3, 4, 5]) (eTup [(eCall (bNew 172 b_141) []), (eCall b_183 []), (eCall b_190 [])])) (sCons (sAsg (aTup [6, 7, 8]) (eTup [(eRepM (eC (.int 0)) (eC (.int 286))), (eRepM (eC (.int 0)) (eC (.int 30))), (eMut [])])) (sCons (sFor (eV 2) (aVar 9) (sCons (sIf (tCmp (oCmp fun a b => a == b) (eCall bLen [(eV 9)]) (eC (.int 1))) (sCons (sSet (eV 6) (eIdx (eV 9) (eC (.int 0))) (eBin (oAdd) (eIdx (eV 6) (eIdx (eV 9) (eC (.int 0)))) (eC (.int 1)))) (sCons (sExp (eApp (eV 8) (eTup [(eIdx (eV 9) (eC (.int 0))), (eC .none), (eC .none)]))) sNil)) (sCons (sAsg (aTupR [10, 11]) (eTup [(eCall b_195 [(eV 4), (eIdx (eV 9) (eC (.int 0)))]), (eCall b_195 [(eV 5), (eIdx (eV 9) (eC (.int 1)))])])) (sCons (sIf (tOr (tCmp (oNeSeq) (eCall bTuple [(eMeth 172 "length_sign" b_148 (eV 3) [(eIdx (eV 9) (eC (.int 0)))])]) (eV 10)) (tCmp (oNeSeq) (eCall bTuple [(eMeth 172 "distance_sign" b_155 (eV 3) [(eIdx (eV 9) (eC (.int 1)))])]) (eV 11))) (sCons (sRet (eC (.bool false))) sNil) sNil) (sCons (sSet (eV 6) (eIdx (eV 10) (eC (.int 0))) (eBin (oAdd) (eIdx (eV 6) (eIdx (eV 10) (eC (.int 0)))) (eC (.int 1)))) (sCons (sSet (eV 7) (eIdx (eV 11) (eC (.int 0))) (eBin (oAdd) (eIdx (eV 7) (eIdx (eV 11) (eC (.int 0)))) (eC (.int 1)))) (sCons (sExp (eApp (eV 8) (eTup [(eIdx (eV 10) (eC (.int 0))), (eV 10), (eV 11)]))) sNil)))))) sNil)) (sCons (sSet (eV 6) (eC (.int 256)) (eC (.int 1))) (sCons (sAsg (aVar 12) (eMeth 172 "counts" b_162 (eV 3) [(eCall bList [(eV 2)])])) (sCons (sIf (tOr (tCmp (oNeSeq) (eCall bList [(eIdx (eV 12) (eC (.int 0)))]) (eV 6)) (tCmp (oNeSeq) (eCall bList [(eIdx (eV 12) (eC (.int 1)))]) (eV 7))) (sCons (sRet (eC (.bool false))) sNil) sNil) (sCons (sAsg (aVar 13) (eBin (oInt pMod) (eCall bSum [(eV 1)]) (eC (.int 2)))) (sCons (sAsg (aVar 15) (eMut [(eCall b_212 [(eComp (eCall bRange [(eC (.int 286))]) [none, none, some 6] (some (tCmp (oCmp fun a b => decide (a > b)) (eIdx (eV 2) (eV 1)) (eC (.int 0)))) (eV 1) 1), (eV 13)])])) (sCons (sExp (eApp (eV 15) (eCall b_212 [(eComp (eCall bRange [(eC (.int 30))]) [none, none, some 7] (some (tCmp (oCmp fun a b => decide (a > b)) (eIdx (eV 2) (eV 1)) (eC (.int 0)))) (eV 1) 1), (eV 13)]))) (sCons (sAsg (aTup [16, 17]) (eTup [(eLst [(eCall b_207 [(eIdx (eV 15) (eC (.int 0)))]), (eCall b_207 [(eIdx (eV 15) (eC (.int 1)))])]), (eLst [])])) (sCons (sFor (eBin (oAdd) (eV 8) (eLst [(eTup [(eC (.int 256)), (eC .none), (eC .none)])])) (aTup [14, 10, 11]) (sCons (sAsg (aVar 17) (eBin (oAdd) (eV 17) (eIdx (eIdx (eV 16) (eC (.int 0))) (eV 14)))) (sCons (sIf (tCmp (oIsNot) (eV 10) (eC .none)) (sCons (sAsg (aVar 17) (eBin (oAdd) (eBin (oAdd) (eBin (oAdd) (eV 17) (eCall b_217 [(eIdx (eV 10) (eC (.int 1))), (eIdx (eV 10) (eC (.int 2)))])) (eIdx (eIdx (eV 16) (eC (.int 1))) (eIdx (eV 11) (eC (.int 0))))) (eCall b_217 [(eIdx (eV 11) (eC (.int 1))), (eIdx (eV 11) (eC (.int 2)))]))) sNil) sNil) sNil))) (sCons (sAsg (aVar 18) (eCall (bNew 109 b_50) [])) (sCons (sExp (eMeth 172 "put_row" b_169 (eV 3) [(eV 18), (eCall bList [(eV 2)]), (eComp (eCall bRange [(eC (.int 286))]) [none, none, some 15] none (eGet (eIdx (eV 2) (eC (.int 0))) (eV 1) (eC (.int 0))) 1), (eComp (eCall bRange [(eC (.int 30))]) [none, none, some 15] none (eGet (eIdx (eV 2) (eC (.int 1))) (eV 1) (eC (.int 0))) 1)])) (sCons (sIf (tCmp (oCmp fun a b => a != b) (eMeth 109 "size" b_85 (eV 18) []) (eCall bLen [(eV 17)])) (sCons (sRet (eC (.bool false))) sNil) sNil) (sCons (sAsg (aVar 17) (eBin (oAdd) (eV 17) (eRep (eC (.int 0)) (eBin (oInt pMod) (eUn oNeg (eCall bLen [(eV 17)])) (eC (.int 8)))))) (sCons (sRet (eCmp oEqByt (eCall bBytes [(eMeth 109 "octets" b_106 (eV 18) [])]) (eCall bBytes [(eComp (eCall bRange [(eC (.int 0)), (eCall bLen [(eV 17)]), (eC (.int 8))]) [none, none, none, none, some 17] none (eCall bSum [(eComp (eCall bRange [(eC (.int 8))]) [none, none, some 4, some 1] none (eBin (oInt pMul) (eIdx (eV 2) (eBin (oAdd) (eV 3) (eV 1))) (eBin (oInt pPow) (eC (.int 2)) (eV 1))) 1)]) 1)]))) sNil))))))))))))))))))
noncomputable def b_222 : BF := fnF [0] 33 f_222
end Mine
end
section
open PySem PySem.W PyProof.Rows
set_option Elab.async false
set_option linter.unusedVariables false
set_option maxRecDepth 100000
set_option maxHeartbeats 4000000
namespace Mine
theorem d_28 {c : Cx} (B : Base c) : CS c 3 (.ref 28) b_28 := by
  refine CS.fn (n := 2) (pn := []) (B.X 28 _ rfl) rfl rfl (codeRec_of B.X (by kernel_rfl)) rfl rfl rfl rfl rfl rfl (by decide +kernel) (by decide +kernel) (by kernel_rfl) (cells_ok (by decide +kernel)) [] [] (fun _ _ => .nil) (fun vals hl h hk => ?_) ?_
  · match vals, hl with
    | [], _ => exact Looks.of_peek (B.X.keeps hk) (by kernel_rfl)
  · exact (SS.cons (S1.asgTupR [0, 1] ["found", "least"] (SE.tuple (.cons (fun _ _ => rfl) (SE.listM .nil) (.cons (fun _ _ => rfl) SE.cint .nil))) (fun env h => by cases env; dsimp only at h; subst h; kernel_rfl) (fun env h => by cases env; dsimp only at h; subst h; kernel_rfl) rfl (fun _ h => (.cons (Binds.bind 1 .local (by rw [h]; rfl) (.inl rfl)) (.cons (Binds.bind 0 .local (by rw [h]; rfl) (.inl rfl)) .nil)))) (SS.cons (S1.for (SE.call (.type "range") rfl rfl (.inr ⟨B.mg (by kernel_rfl), Base.mb (by decide) (by kernel_rfl)⟩) .type BS.range (.cons (fun _ _ => rfl) SE.cint .nil)) (SA.name 2 .local rfl (.inl rfl)) (SS.cons (S1.asg 3 .local rfl (.inl rfl) (SE.ite (ST.cmp (SE.var 2 .local rfl (.inl rfl) rfl) SE.cint CmpS.lt rfl) SE.cint (SE.bin (SE.bin (SE.var 2 .local rfl (.inl rfl) rfl) SE.cint OpS.div) SE.cint OpS.sub)) fun _ _ => rfl) (SS.cons (S1.exp (SE.append (fun _ _ => rfl) rfl (fun _ _ => rfl) (SE.var 0 .local rfl (.inl rfl) rfl) (SE.tuple (.cons (fun _ _ => rfl) (SE.var 1 .local rfl (.inl rfl) rfl) (.cons (fun _ _ => rfl) (SE.var 3 .local rfl (.inl rfl) rfl) .nil)))) (fun _ h => by rw [interactive, h]; rfl) fun _ => rfl) (SS.cons (S1.asg 1 .local rfl (.inl rfl) (SE.bin (SE.var 1 .local rfl (.inl rfl) rfl) (SE.bin SE.cint (SE.var 3 .local rfl (.inl rfl) rfl) OpS.shl) OpS.add) fun _ _ => rfl) SS.nil))) (fun _ _ => rfl)) (SS.cons (S1.exp (SE.append (fun _ _ => rfl) rfl (fun _ _ => rfl) (SE.var 0 .local rfl (.inl rfl) rfl) (SE.tuple (.cons (fun _ _ => rfl) (SE.gint 258 200 rfl rfl (B.mg (by kernel_rfl))) (.cons (fun _ _ => rfl) SE.cint .nil)))) (fun _ h => by rw [interactive, h]; rfl) fun _ => rfl) (SS.cons (S1.ret (SE.frz (SE.var 0 .local rfl (.inl rfl) rfl))) SS.nil))))
theorem d_35 {c : Cx} (B : Base c) : CS c 3 (.ref 35) b_35 := by
  refine CS.fn (n := 2) (pn := []) (B.X 35 _ rfl) rfl rfl (codeRec_of B.X (by kernel_rfl)) rfl rfl rfl rfl rfl rfl (by decide +kernel) (by decide +kernel) (by kernel_rfl) (cells_ok (by decide +kernel)) [] [] (fun _ _ => .nil) (fun vals hl h hk => ?_) ?_
  · match vals, hl with
    | [], _ => exact Looks.of_peek (B.X.keeps hk) (by kernel_rfl)
  · exact (SS.cons (S1.asgTupR [0, 1] ["found", "least"] (SE.tuple (.cons (fun _ _ => rfl) (SE.listM .nil) (.cons (fun _ _ => rfl) SE.cint .nil))) (fun env h => by cases env; dsimp only at h; subst h; kernel_rfl) (fun env h => by cases env; dsimp only at h; subst h; kernel_rfl) rfl (fun _ h => (.cons (Binds.bind 1 .local (by rw [h]; rfl) (.inl rfl)) (.cons (Binds.bind 0 .local (by rw [h]; rfl) (.inl rfl)) .nil)))) (SS.cons (S1.for (SE.call (.type "range") rfl rfl (.inr ⟨B.mg (by kernel_rfl), Base.mb (by decide) (by kernel_rfl)⟩) .type BS.range (.cons (fun _ _ => rfl) (SE.gint 30 198 rfl rfl (B.mg (by kernel_rfl))) .nil)) (SA.name 2 .local rfl (.inl rfl)) (SS.cons (S1.asg 3 .local rfl (.inl rfl) (SE.ite (ST.cmp (SE.var 2 .local rfl (.inl rfl) rfl) SE.cint CmpS.lt rfl) SE.cint (SE.bin (SE.bin (SE.var 2 .local rfl (.inl rfl) rfl) SE.cint OpS.div) SE.cint OpS.sub)) fun _ _ => rfl) (SS.cons (S1.exp (SE.append (fun _ _ => rfl) rfl (fun _ _ => rfl) (SE.var 0 .local rfl (.inl rfl) rfl) (SE.tuple (.cons (fun _ _ => rfl) (SE.var 1 .local rfl (.inl rfl) rfl) (.cons (fun _ _ => rfl) (SE.var 3 .local rfl (.inl rfl) rfl) .nil)))) (fun _ h => by rw [interactive, h]; rfl) fun _ => rfl) (SS.cons (S1.asg 1 .local rfl (.inl rfl) (SE.bin (SE.var 1 .local rfl (.inl rfl) rfl) (SE.bin SE.cint (SE.var 3 .local rfl (.inl rfl) rfl) OpS.shl) OpS.add) fun _ _ => rfl) SS.nil))) (fun _ _ => rfl)) (SS.cons (S1.ret (SE.frz (SE.var 0 .local rfl (.inl rfl) rfl))) SS.nil)))
theorem d_120 {c : Cx} (B : Base c) : CS c 3 (.ref 120) b_120 := by
  refine CS.fn (n := 2) (pn := ["ranges", "number"]) (B.X 120 _ rfl) rfl rfl (codeRec_of B.X (by kernel_rfl)) rfl rfl rfl rfl rfl rfl (by decide +kernel) (by decide +kernel) (by kernel_rfl) (cells_ok (by decide +kernel)) [] [] (fun _ _ => .nil) (fun vals hl h hk => ?_) ?_
  · match vals, hl with
    | [a0, a1], _ => exact Looks.of_peek (B.X.keeps hk) (by kernel_rfl)
  · exact (SS.cons (S1.asg 2 .local rfl (.inl rfl) SE.cint fun _ _ => rfl) (SS.cons (S1.asg 3 .local rfl (.inl rfl) (SE.call (.builtin "len") rfl rfl (.inr ⟨B.mg (by kernel_rfl), Base.mb (by decide) (by kernel_rfl)⟩) .builtin BS.len (.cons (fun _ _ => rfl) (SE.var 0 .local rfl (.inl rfl) rfl) .nil)) fun _ _ => rfl) (SS.cons (S1.while 64 (ST.cmp (SE.bin (SE.var 3 .local rfl (.inl rfl) rfl) (SE.var 2 .local rfl (.inl rfl) rfl) OpS.sub) SE.cint CmpS.gt rfl) (SS.cons (S1.asg 4 .local rfl (.inl rfl) (SE.bin (SE.bin (SE.var 2 .local rfl (.inl rfl) rfl) (SE.var 3 .local rfl (.inl rfl) rfl) OpS.add) SE.cint OpS.div) fun _ _ => rfl) (SS.cons (S1.ite (ST.cmp (SE.idx (SE.idx (SE.var 0 .local rfl (.inl rfl) rfl) (SE.var 4 .local rfl (.inl rfl) rfl) fun _ _ => rfl) SE.cint fun _ _ => rfl) (SE.var 1 .local rfl (.inl rfl) rfl) CmpS.le rfl) (SS.cons (S1.asg 2 .local rfl (.inl rfl) (SE.var 4 .local rfl (.inl rfl) rfl) fun _ _ => rfl) SS.nil) (SS.cons (S1.asg 3 .local rfl (.inl rfl) (SE.var 4 .local rfl (.inl rfl) rfl) fun _ _ => rfl) SS.nil)) SS.nil))) (SS.cons (S1.ret (SE.var 2 .local rfl (.inl rfl) rfl)) SS.nil))))
theorem d_127 {c : Cx} (B : Base c) : CS c 3 (.ref 127) b_127 := by
  refine CS.fn (n := 2) (pn := ["lengths"]) (B.X 127 _ rfl) rfl rfl (codeRec_of B.X (by kernel_rfl)) rfl rfl rfl rfl rfl rfl (by decide +kernel) (by decide +kernel) (by kernel_rfl) (cells_ok (by decide +kernel)) [] [] (fun _ _ => .nil) (fun vals hl h hk => ?_) ?_
  · match vals, hl with
    | [a0], _ => exact Looks.of_peek (B.X.keeps hk) (by kernel_rfl)
  · exact (SS.cons (S1.asg 1 .local rfl (.inl rfl) (SE.repM (fun _ _ => rfl) SE.cint (SE.ite (ST.cmp (SE.var 0 .local rfl (.inl rfl) rfl) (SE.list .nil) CmpS.neSeq rfl) (SE.bin (SE.call (.builtin "max") rfl rfl (.inr ⟨B.mg (by kernel_rfl), Base.mb (by decide) (by kernel_rfl)⟩) .builtin BS.max (.cons (fun _ _ => rfl) (SE.var 0 .local rfl (.inl rfl) rfl) .nil)) SE.cint OpS.add) SE.cint)) fun _ _ => rfl) (SS.cons (S1.for (SE.var 0 .local rfl (.inl rfl) rfl) (SA.name 2 .local rfl (.inl rfl)) (SS.cons (S1.ite (ST.cmp (SE.var 2 .local rfl (.inl rfl) rfl) SE.cint CmpS.gt rfl) (SS.cons (S1.set (SE.var 1 .local rfl (.inl rfl) rfl) (SE.var 2 .local rfl (.inl rfl) rfl) (SE.bin (SE.idx (SE.var 1 .local rfl (.inl rfl) rfl) (SE.var 2 .local rfl (.inl rfl) rfl) fun _ _ => rfl) SE.cint OpS.add) fun _ => rfl) SS.nil) SS.nil) SS.nil) (fun _ _ => rfl)) (SS.cons (S1.asg 3 .local rfl (.inl rfl) (SE.repM (fun _ _ => rfl) SE.cint (SE.call (.builtin "len") rfl rfl (.inr ⟨B.mg (by kernel_rfl), Base.mb (by decide) (by kernel_rfl)⟩) .builtin BS.len (.cons (fun _ _ => rfl) (SE.var 1 .local rfl (.inl rfl) rfl) .nil))) fun _ _ => rfl) (SS.cons (S1.asg 4 .local rfl (.inl rfl) SE.cint fun _ _ => rfl) (SS.cons (S1.for (SE.call (.type "range") rfl rfl (.inr ⟨B.mg (by kernel_rfl), Base.mb (by decide) (by kernel_rfl)⟩) .type BS.range (.cons (fun _ _ => rfl) SE.cint (.cons (fun _ _ => rfl) (SE.call (.builtin "len") rfl rfl (.inr ⟨B.mg (by kernel_rfl), Base.mb (by decide) (by kernel_rfl)⟩) .builtin BS.len (.cons (fun _ _ => rfl) (SE.var 1 .local rfl (.inl rfl) rfl) .nil)) .nil))) (SA.name 2 .local rfl (.inl rfl)) (SS.cons (S1.asg 4 .local rfl (.inl rfl) (SE.bin (SE.bin (SE.var 4 .local rfl (.inl rfl) rfl) (SE.ite (ST.cmp (SE.var 2 .local rfl (.inl rfl) rfl) SE.cint CmpS.gt rfl) (SE.idx (SE.var 1 .local rfl (.inl rfl) rfl) (SE.bin (SE.var 2 .local rfl (.inl rfl) rfl) SE.cint OpS.sub) fun _ _ => rfl) SE.cint) OpS.add) SE.cint OpS.shl) fun _ _ => rfl) (SS.cons (S1.set (SE.var 3 .local rfl (.inl rfl) rfl) (SE.var 2 .local rfl (.inl rfl) rfl) (SE.var 4 .local rfl (.inl rfl) rfl) fun _ => rfl) SS.nil)) (fun _ _ => rfl)) (SS.cons (S1.asg 5 .local rfl (.inl rfl) (SE.listM .nil) fun _ _ => rfl) (SS.cons (S1.for (SE.var 0 .local rfl (.inl rfl) rfl) (SA.name 2 .local rfl (.inl rfl)) (SS.cons (S1.ite (ST.cmp (SE.var 2 .local rfl (.inl rfl) rfl) SE.cint CmpS.eq rfl) (SS.cons (S1.exp (SE.append (fun _ _ => rfl) rfl (fun _ _ => rfl) (SE.var 5 .local rfl (.inl rfl) rfl) SE.cint) (fun _ h => by rw [interactive, h]; rfl) fun _ => rfl) SS.nil) (SS.cons (S1.exp (SE.append (fun _ _ => rfl) rfl (fun _ _ => rfl) (SE.var 5 .local rfl (.inl rfl) rfl) (SE.idx (SE.var 3 .local rfl (.inl rfl) rfl) (SE.var 2 .local rfl (.inl rfl) rfl) fun _ _ => rfl)) (fun _ h => by rw [interactive, h]; rfl) fun _ => rfl) (SS.cons (S1.set (SE.var 3 .local rfl (.inl rfl) rfl) (SE.var 2 .local rfl (.inl rfl) rfl) (SE.bin (SE.idx (SE.var 3 .local rfl (.inl rfl) rfl) (SE.var 2 .local rfl (.inl rfl) rfl) fun _ _ => rfl) SE.cint OpS.add) fun _ => rfl) SS.nil))) SS.nil) (fun _ _ => rfl)) (SS.cons (S1.ret (SE.frz (SE.var 5 .local rfl (.inl rfl) rfl))) SS.nil))))))))
theorem d_183 {c : Cx} (B : Base c) : CS c 3 (.ref 183) b_183 := by
  refine CS.fn (n := 2) (pn := []) (B.X 183 _ rfl) rfl rfl (codeRec_of B.X (by kernel_rfl)) rfl rfl rfl rfl rfl rfl (by decide +kernel) (by decide +kernel) (by kernel_rfl) (cells_ok (by decide +kernel)) [] [] (fun _ _ => .nil) (fun vals hl h hk => ?_) ?_
  · match vals, hl with
    | [], _ => exact Looks.of_peek (B.X.keeps hk) (by kernel_rfl)
  · exact (SS.cons (S1.asgTupR [0, 1] ["found", "least"] (SE.tuple (.cons (fun _ _ => rfl) (SE.listM .nil) (.cons (fun _ _ => rfl) SE.cint .nil))) (fun env h => by cases env; dsimp only at h; subst h; kernel_rfl) (fun env h => by cases env; dsimp only at h; subst h; kernel_rfl) rfl (fun _ h => (.cons (Binds.bind 1 .local (by rw [h]; rfl) (.inl rfl)) (.cons (Binds.bind 0 .local (by rw [h]; rfl) (.inl rfl)) .nil)))) (SS.cons (S1.for (SE.call (.type "range") rfl rfl (.inr ⟨B.mg (by kernel_rfl), Base.mb (by decide) (by kernel_rfl)⟩) .type BS.range (.cons (fun _ _ => rfl) SE.cint (.cons (fun _ _ => rfl) SE.cint .nil))) (SA.name 2 .local rfl (.inl rfl)) (SS.cons (S1.asg 3 .local rfl (.inl rfl) (SE.ite (ST.cmp (SE.var 2 .local rfl (.inl rfl) rfl) SE.cint CmpS.lt rfl) SE.cint (SE.bin (SE.bin (SE.var 2 .local rfl (.inl rfl) rfl) SE.cint OpS.sub) SE.cint OpS.div)) fun _ _ => rfl) (SS.cons (S1.exp (SE.append (fun _ _ => rfl) rfl (fun _ _ => rfl) (SE.var 0 .local rfl (.inl rfl) rfl) (SE.tuple (.cons (fun _ _ => rfl) (SE.var 2 .local rfl (.inl rfl) rfl) (.cons (fun _ _ => rfl) (SE.var 1 .local rfl (.inl rfl) rfl) (.cons (fun _ _ => rfl) (SE.var 3 .local rfl (.inl rfl) rfl) .nil))))) (fun _ h => by rw [interactive, h]; rfl) fun _ => rfl) (SS.cons (S1.asg 1 .local rfl (.inl rfl) (SE.bin (SE.var 1 .local rfl (.inl rfl) rfl) (SE.bin SE.cint (SE.var 3 .local rfl (.inl rfl) rfl) OpS.pow) OpS.add) fun _ _ => rfl) SS.nil))) (fun _ _ => rfl)) (SS.cons (S1.ret (SE.bin (SE.var 0 .local rfl (.inl rfl) rfl) (SE.list (.cons (fun _ _ => rfl) (SE.tuple (.cons (fun _ _ => rfl) SE.cint (.cons (fun _ _ => rfl) SE.cint (.cons (fun _ _ => rfl) SE.cint .nil)))) .nil)) OpS.add)) SS.nil)))
theorem d_190 {c : Cx} (B : Base c) : CS c 3 (.ref 190) b_190 := by
  refine CS.fn (n := 2) (pn := []) (B.X 190 _ rfl) rfl rfl (codeRec_of B.X (by kernel_rfl)) rfl rfl rfl rfl rfl rfl (by decide +kernel) (by decide +kernel) (by kernel_rfl) (cells_ok (by decide +kernel)) [] [] (fun _ _ => .nil) (fun vals hl h hk => ?_) ?_
  · match vals, hl with
    | [], _ => exact Looks.of_peek (B.X.keeps hk) (by kernel_rfl)
  · exact (SS.cons (S1.asgTupR [0, 1] ["found", "least"] (SE.tuple (.cons (fun _ _ => rfl) (SE.listM .nil) (.cons (fun _ _ => rfl) SE.cint .nil))) (fun env h => by cases env; dsimp only at h; subst h; kernel_rfl) (fun env h => by cases env; dsimp only at h; subst h; kernel_rfl) rfl (fun _ h => (.cons (Binds.bind 1 .local (by rw [h]; rfl) (.inl rfl)) (.cons (Binds.bind 0 .local (by rw [h]; rfl) (.inl rfl)) .nil)))) (SS.cons (S1.for (SE.call (.type "range") rfl rfl (.inr ⟨B.mg (by kernel_rfl), Base.mb (by decide) (by kernel_rfl)⟩) .type BS.range (.cons (fun _ _ => rfl) SE.cint .nil)) (SA.name 2 .local rfl (.inl rfl)) (SS.cons (S1.asg 3 .local rfl (.inl rfl) (SE.ite (ST.cmp (SE.var 2 .local rfl (.inl rfl) rfl) SE.cint CmpS.lt rfl) SE.cint (SE.bin (SE.bin (SE.var 2 .local rfl (.inl rfl) rfl) SE.cint OpS.div) SE.cint OpS.sub)) fun _ _ => rfl) (SS.cons (S1.exp (SE.append (fun _ _ => rfl) rfl (fun _ _ => rfl) (SE.var 0 .local rfl (.inl rfl) rfl) (SE.tuple (.cons (fun _ _ => rfl) (SE.var 2 .local rfl (.inl rfl) rfl) (.cons (fun _ _ => rfl) (SE.var 1 .local rfl (.inl rfl) rfl) (.cons (fun _ _ => rfl) (SE.var 3 .local rfl (.inl rfl) rfl) .nil))))) (fun _ h => by rw [interactive, h]; rfl) fun _ => rfl) (SS.cons (S1.asg 1 .local rfl (.inl rfl) (SE.bin (SE.var 1 .local rfl (.inl rfl) rfl) (SE.bin SE.cint (SE.var 3 .local rfl (.inl rfl) rfl) OpS.pow) OpS.add) fun _ _ => rfl) SS.nil))) (fun _ _ => rfl)) (SS.cons (S1.ret (SE.frz (SE.var 0 .local rfl (.inl rfl) rfl))) SS.nil)))
end Mine
end
section
open PySem PySem.W PyProof.Rows
set_option Elab.async false
set_option linter.unusedVariables false
set_option maxRecDepth 100000
set_option maxHeartbeats 4000000
namespace Mine
theorem d_57 {c : Cx} (B : Base c) : CSN c 3 (.ref 57) b_57 := by
  refine CSN.fn (n := 2) (pn := ["self", "number", "many"]) (B.X 57 _ rfl) rfl rfl (codeRec_of B.X (by kernel_rfl)) rfl rfl rfl rfl rfl rfl (by decide +kernel) (by decide +kernel) (by kernel_rfl) (cells_ok (by decide +kernel)) [] [] (fun _ _ => .nil) (fun vals hl h hk => ?_) ?_
  · match vals, hl with
    | [a0, a1, a2], _ => exact Looks.of_peek (B.X.keeps hk) (by kernel_rfl)
  · exact (SSN.cons (.of (S1.setA (SE.var 0 .local rfl (.inl rfl) rfl) (SE.bin (SE.attr (SE.var 0 .local rfl (.inl rfl) rfl) (fun _ _ => rfl) (by rw [B.frag]; kernel_rfl) (by rw [B.frag]; kernel_rfl) (by rw [B.frag]; kernel_rfl)) (SE.bin (SE.var 1 .local rfl (.inl rfl) rfl) (SE.attr (SE.var 0 .local rfl (.inl rfl) rfl) (fun _ _ => rfl) (by rw [B.frag]; kernel_rfl) (by rw [B.frag]; kernel_rfl) (by rw [B.frag]; kernel_rfl)) OpS.shl) OpS.or) (fun _ => rfl) (by rw [B.frag]; kernel_rfl) (by rw [B.frag]; kernel_rfl) (by rw [B.frag]; kernel_rfl) (by rw [B.frag]; kernel_rfl))) (SSN.cons (.of (S1.setA (SE.var 0 .local rfl (.inl rfl) rfl) (SE.bin (SE.attr (SE.var 0 .local rfl (.inl rfl) rfl) (fun _ _ => rfl) (by rw [B.frag]; kernel_rfl) (by rw [B.frag]; kernel_rfl) (by rw [B.frag]; kernel_rfl)) (SE.var 2 .local rfl (.inl rfl) rfl) OpS.add) (fun _ => rfl) (by rw [B.frag]; kernel_rfl) (by rw [B.frag]; kernel_rfl) (by rw [B.frag]; kernel_rfl) (by rw [B.frag]; kernel_rfl))) (SSN.cons (S1N.while 64 (ST.cmp (SE.attr (SE.var 0 .local rfl (.inl rfl) rfl) (fun _ _ => rfl) (by rw [B.frag]; kernel_rfl) (by rw [B.frag]; kernel_rfl) (by rw [B.frag]; kernel_rfl)) SE.cint CmpS.ge rfl) (SSN.cons (S1N.exp (SEN.bappend (fun _ _ => rfl) rfl (fun _ _ => rfl) (SE.attr (SE.var 0 .local rfl (.inl rfl) rfl) (fun _ _ => rfl) (by rw [B.frag]; kernel_rfl) (by rw [B.frag]; kernel_rfl) (by rw [B.frag]; kernel_rfl)) (SE.bin (SE.attr (SE.var 0 .local rfl (.inl rfl) rfl) (fun _ _ => rfl) (by rw [B.frag]; kernel_rfl) (by rw [B.frag]; kernel_rfl) (by rw [B.frag]; kernel_rfl)) SE.cint OpS.and)) (fun _ h => by rw [interactive, h]; rfl) fun _ => rfl) (SSN.cons (.of (S1.setA (SE.var 0 .local rfl (.inl rfl) rfl) (SE.bin (SE.attr (SE.var 0 .local rfl (.inl rfl) rfl) (fun _ _ => rfl) (by rw [B.frag]; kernel_rfl) (by rw [B.frag]; kernel_rfl) (by rw [B.frag]; kernel_rfl)) SE.cint OpS.shr) (fun _ => rfl) (by rw [B.frag]; kernel_rfl) (by rw [B.frag]; kernel_rfl) (by rw [B.frag]; kernel_rfl) (by rw [B.frag]; kernel_rfl))) (SSN.cons (.of (S1.setA (SE.var 0 .local rfl (.inl rfl) rfl) (SE.bin (SE.attr (SE.var 0 .local rfl (.inl rfl) rfl) (fun _ _ => rfl) (by rw [B.frag]; kernel_rfl) (by rw [B.frag]; kernel_rfl) (by rw [B.frag]; kernel_rfl)) SE.cint OpS.sub) (fun _ => rfl) (by rw [B.frag]; kernel_rfl) (by rw [B.frag]; kernel_rfl) (by rw [B.frag]; kernel_rfl) (by rw [B.frag]; kernel_rfl))) SSN.nil)))) SSN.nil)))
theorem d_85 {c : Cx} (B : Base c) : CS c 3 (.ref 85) b_85 := by
  refine CS.fn (n := 2) (pn := ["self"]) (B.X 85 _ rfl) rfl rfl (codeRec_of B.X (by kernel_rfl)) rfl rfl rfl rfl rfl rfl (by decide +kernel) (by decide +kernel) (by kernel_rfl) (cells_ok (by decide +kernel)) [] [] (fun _ _ => .nil) (fun vals hl h hk => ?_) ?_
  · match vals, hl with
    | [a0], _ => exact Looks.of_peek (B.X.keeps hk) (by kernel_rfl)
  · exact (SS.cons (S1.ret (SE.bin (SE.bin SE.cint (SE.call (.builtin "len") rfl rfl (.inr ⟨B.mg (by kernel_rfl), Base.mb (by decide) (by kernel_rfl)⟩) .builtin BS.lenB (.cons (fun _ _ => rfl) (SE.attr (SE.var 0 .local rfl (.inl rfl) rfl) (fun _ _ => rfl) (by rw [B.frag]; kernel_rfl) (by rw [B.frag]; kernel_rfl) (by rw [B.frag]; kernel_rfl)) .nil)) OpS.mul) (SE.attr (SE.var 0 .local rfl (.inl rfl) rfl) (fun _ _ => rfl) (by rw [B.frag]; kernel_rfl) (by rw [B.frag]; kernel_rfl) (by rw [B.frag]; kernel_rfl)) OpS.add)) SS.nil)
theorem d_50 {c : Cx} (B : Base c) : CSN c 3 (.ref 50) b_50 := by
  refine CSN.fn (n := 2) (pn := ["self", "held", "many"]) (B.X 50 _ rfl) rfl rfl (codeRec_of B.X (by kernel_rfl)) rfl rfl rfl rfl rfl rfl (by decide +kernel) (by decide +kernel) (by kernel_rfl) (cells_ok (by decide +kernel)) [.int 0, .int 0] [.int 0 242, .int 0 243] (fun _ _ => .cons (.int _ _) (.cons (.int _ _) .nil)) (fun vals hl h hk => ?_) ?_
  · match vals, hl with
    | [a0], _ => exact Looks.of_peek (B.X.keeps hk) (by kernel_rfl)
  · exact (SSN.cons (S1N.setA (SE.var 0 .local rfl (.inl rfl) rfl) (SEN.call (.type "bytearray") rfl rfl (.inr ⟨B.mg (by kernel_rfl), Base.mb (by decide) (by kernel_rfl)⟩) .type BSN.bytearray .nil) (fun _ => rfl) (by rw [B.frag]; kernel_rfl) (by rw [B.frag]; kernel_rfl) (by rw [B.frag]; kernel_rfl) (by rw [B.frag]; kernel_rfl)) (SSN.cons (.of (S1.setA (SE.var 0 .local rfl (.inl rfl) rfl) (SE.var 1 .local rfl (.inl rfl) rfl) (fun _ => rfl) (by rw [B.frag]; kernel_rfl) (by rw [B.frag]; kernel_rfl) (by rw [B.frag]; kernel_rfl) (by rw [B.frag]; kernel_rfl))) (SSN.cons (.of (S1.setA (SE.var 0 .local rfl (.inl rfl) rfl) (SE.var 2 .local rfl (.inl rfl) rfl) (fun _ => rfl) (by rw [B.frag]; kernel_rfl) (by rw [B.frag]; kernel_rfl) (by rw [B.frag]; kernel_rfl) (by rw [B.frag]; kernel_rfl))) SSN.nil)))
end Mine
end
section
open PySem PySem.W PyProof.Rows
set_option Elab.async false
set_option linter.unusedVariables false
set_option maxRecDepth 100000
set_option maxHeartbeats 4000000
namespace Mine
theorem d_148 {c : Cx} (B : Base c) : CS c 5 (.ref 148) b_148 := by
  refine CS.fn (n := 4) (pn := ["self", "length"]) (B.X 148 _ rfl) rfl rfl (codeRec_of B.X (by kernel_rfl)) rfl rfl rfl rfl rfl rfl (by decide +kernel) (by decide +kernel) (by kernel_rfl) (cells_ok (by decide +kernel)) [] [] (fun _ _ => .nil) (fun vals hl h hk => ?_) ?_
  · match vals, hl with
    | [a0, a1], _ => exact Looks.of_peek (B.X.keeps hk) (by kernel_rfl)
  · exact (SS.cons (S1.asg 2 .local rfl (.inl rfl) (SE.call (.ref 120) rfl rfl (.inl (B.mg (by kernel_rfl))) (B.keep (by kernel_rfl)) ((d_120 B).bs.le (by decide)) (.cons (fun _ _ => rfl) (SE.attr (SE.var 0 .local rfl (.inl rfl) rfl) (fun _ _ => rfl) (by rw [B.frag]; kernel_rfl) (by rw [B.frag]; kernel_rfl) (by rw [B.frag]; kernel_rfl)) (.cons (fun _ _ => rfl) (SE.var 1 .local rfl (.inl rfl) rfl) .nil))) fun _ _ => rfl) (SS.cons (S1.asgTup (SE.idx (SE.attr (SE.var 0 .local rfl (.inl rfl) rfl) (fun _ _ => rfl) (by rw [B.frag]; kernel_rfl) (by rw [B.frag]; kernel_rfl) (by rw [B.frag]; kernel_rfl)) (SE.var 2 .local rfl (.inl rfl) rfl) fun _ _ => rfl) (SA.tup [3, 4] fun _ h => ⟨(.cons (Binds.name 3 .local (by rw [h]; rfl) (.inl rfl)) (.cons (Binds.name 4 .local (by rw [h]; rfl) (.inl rfl)) .nil)), rfl, rfl⟩) (fun env h => by cases env; dsimp only at h; subst h; kernel_rfl) (fun env h => by cases env; dsimp only at h; subst h; kernel_rfl)) (SS.cons (S1.ret (SE.tuple (.cons (fun _ _ => rfl) (SE.bin (SE.gint 257 224 rfl rfl (B.mg (by kernel_rfl))) (SE.var 2 .local rfl (.inl rfl) rfl) OpS.add) (.cons (fun _ _ => rfl) (SE.bin (SE.var 1 .local rfl (.inl rfl) rfl) (SE.var 3 .local rfl (.inl rfl) rfl) OpS.sub) (.cons (fun _ _ => rfl) (SE.var 4 .local rfl (.inl rfl) rfl) .nil))))) SS.nil)))
theorem d_155 {c : Cx} (B : Base c) : CS c 5 (.ref 155) b_155 := by
  refine CS.fn (n := 4) (pn := ["self", "distance"]) (B.X 155 _ rfl) rfl rfl (codeRec_of B.X (by kernel_rfl)) rfl rfl rfl rfl rfl rfl (by decide +kernel) (by decide +kernel) (by kernel_rfl) (cells_ok (by decide +kernel)) [] [] (fun _ _ => .nil) (fun vals hl h hk => ?_) ?_
  · match vals, hl with
    | [a0, a1], _ => exact Looks.of_peek (B.X.keeps hk) (by kernel_rfl)
  · exact (SS.cons (S1.asg 2 .local rfl (.inl rfl) (SE.call (.ref 120) rfl rfl (.inl (B.mg (by kernel_rfl))) (B.keep (by kernel_rfl)) ((d_120 B).bs.le (by decide)) (.cons (fun _ _ => rfl) (SE.attr (SE.var 0 .local rfl (.inl rfl) rfl) (fun _ _ => rfl) (by rw [B.frag]; kernel_rfl) (by rw [B.frag]; kernel_rfl) (by rw [B.frag]; kernel_rfl)) (.cons (fun _ _ => rfl) (SE.var 1 .local rfl (.inl rfl) rfl) .nil))) fun _ _ => rfl) (SS.cons (S1.asgTup (SE.idx (SE.attr (SE.var 0 .local rfl (.inl rfl) rfl) (fun _ _ => rfl) (by rw [B.frag]; kernel_rfl) (by rw [B.frag]; kernel_rfl) (by rw [B.frag]; kernel_rfl)) (SE.var 2 .local rfl (.inl rfl) rfl) fun _ _ => rfl) (SA.tup [3, 4] fun _ h => ⟨(.cons (Binds.name 3 .local (by rw [h]; rfl) (.inl rfl)) (.cons (Binds.name 4 .local (by rw [h]; rfl) (.inl rfl)) .nil)), rfl, rfl⟩) (fun env h => by cases env; dsimp only at h; subst h; kernel_rfl) (fun env h => by cases env; dsimp only at h; subst h; kernel_rfl)) (SS.cons (S1.ret (SE.tuple (.cons (fun _ _ => rfl) (SE.var 2 .local rfl (.inl rfl) rfl) (.cons (fun _ _ => rfl) (SE.bin (SE.var 1 .local rfl (.inl rfl) rfl) (SE.var 3 .local rfl (.inl rfl) rfl) OpS.sub) (.cons (fun _ _ => rfl) (SE.var 4 .local rfl (.inl rfl) rfl) .nil))))) SS.nil)))
theorem d_141 {c : Cx} (B : Base c) : CS c 5 (.ref 141) b_141 := by
  refine CS.fn (n := 4) (pn := ["self"]) (B.X 141 _ rfl) rfl rfl (codeRec_of B.X (by kernel_rfl)) rfl rfl rfl rfl rfl rfl (by decide +kernel) (by decide +kernel) (by kernel_rfl) (cells_ok (by decide +kernel)) [] [] (fun _ _ => .nil) (fun vals hl h hk => ?_) ?_
  · match vals, hl with
    | [a0], _ => exact Looks.of_peek (B.X.keeps hk) (by kernel_rfl)
  · exact (SS.cons (S1.setA (SE.var 0 .local rfl (.inl rfl) rfl) (SE.call (.ref 28) rfl rfl (.inl (B.mg (by kernel_rfl))) (B.keep (by kernel_rfl)) ((d_28 B).bs.le (by decide)) .nil) (fun _ => rfl) (by rw [B.frag]; kernel_rfl) (by rw [B.frag]; kernel_rfl) (by rw [B.frag]; kernel_rfl) (by rw [B.frag]; kernel_rfl)) (SS.cons (S1.setA (SE.var 0 .local rfl (.inl rfl) rfl) (SE.call (.ref 35) rfl rfl (.inl (B.mg (by kernel_rfl))) (B.keep (by kernel_rfl)) ((d_35 B).bs.le (by decide)) .nil) (fun _ => rfl) (by rw [B.frag]; kernel_rfl) (by rw [B.frag]; kernel_rfl) (by rw [B.frag]; kernel_rfl) (by rw [B.frag]; kernel_rfl)) SS.nil))
theorem d_64 {c : Cx} (B : Base c) : CSN c 5 (.ref 64) b_64 := by
  refine CSN.fn (n := 4) (pn := ["self", "code", "many"]) (B.X 64 _ rfl) rfl rfl (codeRec_of B.X (by kernel_rfl)) rfl rfl rfl rfl rfl rfl (by decide +kernel) (by decide +kernel) (by kernel_rfl) (cells_ok (by decide +kernel)) [] [] (fun _ _ => .nil) (fun vals hl h hk => ?_) ?_
  · match vals, hl with
    | [a0, a1, a2], _ => exact Looks.of_peek (B.X.keeps hk) (by kernel_rfl)
  · exact (SSN.cons (.of (S1.asg 3 .local rfl (.inl rfl) SE.cint fun _ _ => rfl)) (SSN.cons (.of (S1.for (SE.call (.type "range") rfl rfl (.inr ⟨B.mg (by kernel_rfl), Base.mb (by decide) (by kernel_rfl)⟩) .type BS.range (.cons (fun _ _ => rfl) (SE.var 2 .local rfl (.inl rfl) rfl) .nil)) (SA.name 4 .local rfl (.inl rfl)) (SS.cons (S1.asg 3 .local rfl (.inl rfl) (SE.bin (SE.bin (SE.var 3 .local rfl (.inl rfl) rfl) SE.cint OpS.shl) (SE.bin (SE.bin (SE.var 1 .local rfl (.inl rfl) rfl) (SE.var 4 .local rfl (.inl rfl) rfl) OpS.shr) SE.cint OpS.and) OpS.or) fun _ _ => rfl) SS.nil) (fun _ _ => rfl))) (SSN.cons (S1N.exp (SEN.meth (fun _ _ => rfl) rfl (by decide) (by rw [B.frag]; kernel_rfl) (by rw [B.frag]; kernel_rfl) (by rw [B.frag]; kernel_rfl) (B.keep (by kernel_rfl)) ((d_57 B).bs.le (by decide)) (SE.var 0 .local rfl (.inl rfl) rfl) (.cons (fun _ _ => rfl) (SE.var 3 .local rfl (.inl rfl) rfl) (.cons (fun _ _ => rfl) (SE.var 2 .local rfl (.inl rfl) rfl) .nil))) (fun _ h => by rw [interactive, h]; rfl) fun _ => rfl) SSN.nil)))
theorem d_71 {c : Cx} (B : Base c) : CSN c 5 (.ref 71) b_71 := by
  refine CSN.fn (n := 4) (pn := ["self"]) (B.X 71 _ rfl) rfl rfl (codeRec_of B.X (by kernel_rfl)) rfl rfl rfl rfl rfl rfl (by decide +kernel) (by decide +kernel) (by kernel_rfl) (cells_ok (by decide +kernel)) [] [] (fun _ _ => .nil) (fun vals hl h hk => ?_) ?_
  · match vals, hl with
    | [a0], _ => exact Looks.of_peek (B.X.keeps hk) (by kernel_rfl)
  · exact (SSN.cons (S1N.ite (ST.cmp (SE.attr (SE.var 0 .local rfl (.inl rfl) rfl) (fun _ _ => rfl) (by rw [B.frag]; kernel_rfl) (by rw [B.frag]; kernel_rfl) (by rw [B.frag]; kernel_rfl)) SE.cint CmpS.gt rfl) (SSN.cons (S1N.exp (SEN.meth (fun _ _ => rfl) rfl (by decide) (by rw [B.frag]; kernel_rfl) (by rw [B.frag]; kernel_rfl) (by rw [B.frag]; kernel_rfl) (B.keep (by kernel_rfl)) ((d_57 B).bs.le (by decide)) (SE.var 0 .local rfl (.inl rfl) rfl) (.cons (fun _ _ => rfl) SE.cint (.cons (fun _ _ => rfl) (SE.bin SE.cint (SE.attr (SE.var 0 .local rfl (.inl rfl) rfl) (fun _ _ => rfl) (by rw [B.frag]; kernel_rfl) (by rw [B.frag]; kernel_rfl) (by rw [B.frag]; kernel_rfl)) OpS.sub) .nil))) (fun _ h => by rw [interactive, h]; rfl) fun _ => rfl) SSN.nil) (.of SS.nil)) SSN.nil)
theorem d_162 {c : Cx} (B : Base c) : CS c 7 (.ref 162) b_162 := by
  refine CS.fn (n := 6) (pn := ["self", "row"]) (B.X 162 _ rfl) rfl rfl (codeRec_of B.X (by kernel_rfl)) rfl rfl rfl rfl rfl rfl (by decide +kernel) (by decide +kernel) (by kernel_rfl) (cells_ok (by decide +kernel)) [] [] (fun _ _ => .nil) (fun vals hl h hk => ?_) ?_
  · match vals, hl with
    | [a0, a1], _ => exact Looks.of_peek (B.X.keeps hk) (by kernel_rfl)
  · exact (SS.cons (S1.asg 2 .local rfl (.inl rfl) (SE.repM (fun _ _ => rfl) SE.cint (SE.gint 286 226 rfl rfl (B.mg (by kernel_rfl)))) fun _ _ => rfl) (SS.cons (S1.asg 3 .local rfl (.inl rfl) (SE.repM (fun _ _ => rfl) SE.cint (SE.gint 30 228 rfl rfl (B.mg (by kernel_rfl)))) fun _ _ => rfl) (SS.cons (S1.set (SE.var 2 .local rfl (.inl rfl) rfl) (SE.gint 256 196 rfl rfl (B.mg (by kernel_rfl))) SE.cint fun _ => rfl) (SS.cons (S1.for (SE.var 1 .local rfl (.inl rfl) rfl) (SA.name 4 .local rfl (.inl rfl)) (SS.cons (S1.ite (ST.cmp (SE.call (.builtin "len") rfl rfl (.inr ⟨B.mg (by kernel_rfl), Base.mb (by decide) (by kernel_rfl)⟩) .builtin BS.len (.cons (fun _ _ => rfl) (SE.var 4 .local rfl (.inl rfl) rfl) .nil)) SE.cint CmpS.eq rfl) (SS.cons (S1.set (SE.var 2 .local rfl (.inl rfl) rfl) (SE.idx (SE.var 4 .local rfl (.inl rfl) rfl) SE.cint fun _ _ => rfl) (SE.bin (SE.idx (SE.var 2 .local rfl (.inl rfl) rfl) (SE.idx (SE.var 4 .local rfl (.inl rfl) rfl) SE.cint fun _ _ => rfl) fun _ _ => rfl) SE.cint OpS.add) fun _ => rfl) SS.nil) (SS.cons (S1.asg 5 .local rfl (.inl rfl) (SE.idx (SE.meth (fun _ _ => rfl) rfl (by decide) (by rw [B.frag]; kernel_rfl) (by rw [B.frag]; kernel_rfl) (by rw [B.frag]; kernel_rfl) (B.keep (by kernel_rfl)) ((d_148 B).bs.le (by decide)) (SE.var 0 .local rfl (.inl rfl) rfl) (.cons (fun _ _ => rfl) (SE.idx (SE.var 4 .local rfl (.inl rfl) rfl) SE.cint fun _ _ => rfl) .nil)) SE.cint fun _ _ => rfl) fun _ _ => rfl) (SS.cons (S1.set (SE.var 2 .local rfl (.inl rfl) rfl) (SE.var 5 .local rfl (.inl rfl) rfl) (SE.bin (SE.idx (SE.var 2 .local rfl (.inl rfl) rfl) (SE.var 5 .local rfl (.inl rfl) rfl) fun _ _ => rfl) SE.cint OpS.add) fun _ => rfl) (SS.cons (S1.asg 5 .local rfl (.inl rfl) (SE.idx (SE.meth (fun _ _ => rfl) rfl (by decide) (by rw [B.frag]; kernel_rfl) (by rw [B.frag]; kernel_rfl) (by rw [B.frag]; kernel_rfl) (B.keep (by kernel_rfl)) ((d_155 B).bs.le (by decide)) (SE.var 0 .local rfl (.inl rfl) rfl) (.cons (fun _ _ => rfl) (SE.idx (SE.var 4 .local rfl (.inl rfl) rfl) SE.cint fun _ _ => rfl) .nil)) SE.cint fun _ _ => rfl) fun _ _ => rfl) (SS.cons (S1.set (SE.var 3 .local rfl (.inl rfl) rfl) (SE.var 5 .local rfl (.inl rfl) rfl) (SE.bin (SE.idx (SE.var 3 .local rfl (.inl rfl) rfl) (SE.var 5 .local rfl (.inl rfl) rfl) fun _ _ => rfl) SE.cint OpS.add) fun _ => rfl) SS.nil))))) SS.nil) (fun _ _ => rfl)) (SS.cons (S1.ret (SE.tuple (.cons (fun _ _ => rfl) (SE.frz (SE.var 2 .local rfl (.inl rfl) rfl)) (.cons (fun _ _ => rfl) (SE.frz (SE.var 3 .local rfl (.inl rfl) rfl)) .nil)))) SS.nil)))))
theorem d_106 {c : Cx} (B : Base c) : CSN c 7 (.ref 106) b_106 := by
  refine CSN.fn (n := 6) (pn := ["self"]) (B.X 106 _ rfl) rfl rfl (codeRec_of B.X (by kernel_rfl)) rfl rfl rfl rfl rfl rfl (by decide +kernel) (by decide +kernel) (by kernel_rfl) (cells_ok (by decide +kernel)) [] [] (fun _ _ => .nil) (fun vals hl h hk => ?_) ?_
  · match vals, hl with
    | [a0], _ => exact Looks.of_peek (B.X.keeps hk) (by kernel_rfl)
  · exact (SSN.cons (S1N.exp (SEN.meth (fun _ _ => rfl) rfl (by decide) (by rw [B.frag]; kernel_rfl) (by rw [B.frag]; kernel_rfl) (by rw [B.frag]; kernel_rfl) (B.keep (by kernel_rfl)) ((d_71 B).bs.le (by decide)) (SE.var 0 .local rfl (.inl rfl) rfl) .nil) (fun _ h => by rw [interactive, h]; rfl) fun _ => rfl) (SSN.cons (.of (S1.ret (SE.call (.type "bytes") rfl rfl (.inr ⟨B.mg (by kernel_rfl), Base.mb (by decide) (by kernel_rfl)⟩) .type BS.bytes (.cons (fun _ _ => rfl) (SE.attr (SE.var 0 .local rfl (.inl rfl) rfl) (fun _ _ => rfl) (by rw [B.frag]; kernel_rfl) (by rw [B.frag]; kernel_rfl) (by rw [B.frag]; kernel_rfl)) .nil)))) SSN.nil))
theorem d_169 {c : Cx} (B : Base c) : CSN c 9 (.ref 169) b_169 := by
  refine CSN.fn (n := 8) (pn := ["self", "writer", "row", "literal_lengths", "distance_lengths"]) (B.X 169 _ rfl) rfl rfl (codeRec_of B.X (by kernel_rfl)) rfl rfl rfl rfl rfl rfl (by decide +kernel) (by decide +kernel) (by kernel_rfl) (cells_ok (by decide +kernel)) [] [] (fun _ _ => .nil) (fun vals hl h hk => ?_) ?_
  · match vals, hl with
    | [a0, a1, a2, a3, a4], _ => exact Looks.of_peek (B.X.keeps hk) (by kernel_rfl)
  · exact (SSN.cons (.of (S1.asg 5 .local rfl (.inl rfl) (SE.call (.ref 127) rfl rfl (.inl (B.mg (by kernel_rfl))) (B.keep (by kernel_rfl)) ((d_127 B).bs.le (by decide)) (.cons (fun _ _ => rfl) (SE.var 3 .local rfl (.inl rfl) rfl) .nil)) fun _ _ => rfl)) (SSN.cons (.of (S1.asg 6 .local rfl (.inl rfl) (SE.call (.ref 127) rfl rfl (.inl (B.mg (by kernel_rfl))) (B.keep (by kernel_rfl)) ((d_127 B).bs.le (by decide)) (.cons (fun _ _ => rfl) (SE.var 4 .local rfl (.inl rfl) rfl) .nil)) fun _ _ => rfl)) (SSN.cons (S1N.for (SE.var 2 .local rfl (.inl rfl) rfl) (SA.name 7 .local rfl (.inl rfl)) (SSN.cons (S1N.ite (ST.cmp (SE.call (.builtin "len") rfl rfl (.inr ⟨B.mg (by kernel_rfl), Base.mb (by decide) (by kernel_rfl)⟩) .builtin BS.len (.cons (fun _ _ => rfl) (SE.var 7 .local rfl (.inl rfl) rfl) .nil)) SE.cint CmpS.eq rfl) (SSN.cons (S1N.exp (SEN.meth (fun _ _ => rfl) rfl (by decide) (by rw [B.frag]; kernel_rfl) (by rw [B.frag]; kernel_rfl) (by rw [B.frag]; kernel_rfl) (B.keep (by kernel_rfl)) ((d_64 B).bs.le (by decide)) (SE.var 1 .local rfl (.inl rfl) rfl) (.cons (fun _ _ => rfl) (SE.idx (SE.var 5 .local rfl (.inl rfl) rfl) (SE.idx (SE.var 7 .local rfl (.inl rfl) rfl) SE.cint fun _ _ => rfl) fun _ _ => rfl) (.cons (fun _ _ => rfl) (SE.idx (SE.var 3 .local rfl (.inl rfl) rfl) (SE.idx (SE.var 7 .local rfl (.inl rfl) rfl) SE.cint fun _ _ => rfl) fun _ _ => rfl) .nil))) (fun _ h => by rw [interactive, h]; rfl) fun _ => rfl) SSN.nil) (SSN.cons (.of (S1.asgTup (SE.meth (fun _ _ => rfl) rfl (by decide) (by rw [B.frag]; kernel_rfl) (by rw [B.frag]; kernel_rfl) (by rw [B.frag]; kernel_rfl) (B.keep (by kernel_rfl)) ((d_148 B).bs.le (by decide)) (SE.var 0 .local rfl (.inl rfl) rfl) (.cons (fun _ _ => rfl) (SE.idx (SE.var 7 .local rfl (.inl rfl) rfl) SE.cint fun _ _ => rfl) .nil)) (SA.tup [8, 9, 10] fun _ h => ⟨(.cons (Binds.name 8 .local (by rw [h]; rfl) (.inl rfl)) (.cons (Binds.name 9 .local (by rw [h]; rfl) (.inl rfl)) (.cons (Binds.name 10 .local (by rw [h]; rfl) (.inl rfl)) .nil))), rfl, rfl⟩) (fun env h => by cases env; dsimp only at h; subst h; kernel_rfl) (fun env h => by cases env; dsimp only at h; subst h; kernel_rfl))) (SSN.cons (S1N.exp (SEN.meth (fun _ _ => rfl) rfl (by decide) (by rw [B.frag]; kernel_rfl) (by rw [B.frag]; kernel_rfl) (by rw [B.frag]; kernel_rfl) (B.keep (by kernel_rfl)) ((d_64 B).bs.le (by decide)) (SE.var 1 .local rfl (.inl rfl) rfl) (.cons (fun _ _ => rfl) (SE.idx (SE.var 5 .local rfl (.inl rfl) rfl) (SE.var 8 .local rfl (.inl rfl) rfl) fun _ _ => rfl) (.cons (fun _ _ => rfl) (SE.idx (SE.var 3 .local rfl (.inl rfl) rfl) (SE.var 8 .local rfl (.inl rfl) rfl) fun _ _ => rfl) .nil))) (fun _ h => by rw [interactive, h]; rfl) fun _ => rfl) (SSN.cons (S1N.exp (SEN.meth (fun _ _ => rfl) rfl (by decide) (by rw [B.frag]; kernel_rfl) (by rw [B.frag]; kernel_rfl) (by rw [B.frag]; kernel_rfl) (B.keep (by kernel_rfl)) ((d_57 B).bs.le (by decide)) (SE.var 1 .local rfl (.inl rfl) rfl) (.cons (fun _ _ => rfl) (SE.var 9 .local rfl (.inl rfl) rfl) (.cons (fun _ _ => rfl) (SE.var 10 .local rfl (.inl rfl) rfl) .nil))) (fun _ h => by rw [interactive, h]; rfl) fun _ => rfl) (SSN.cons (.of (S1.asgTup (SE.meth (fun _ _ => rfl) rfl (by decide) (by rw [B.frag]; kernel_rfl) (by rw [B.frag]; kernel_rfl) (by rw [B.frag]; kernel_rfl) (B.keep (by kernel_rfl)) ((d_155 B).bs.le (by decide)) (SE.var 0 .local rfl (.inl rfl) rfl) (.cons (fun _ _ => rfl) (SE.idx (SE.var 7 .local rfl (.inl rfl) rfl) SE.cint fun _ _ => rfl) .nil)) (SA.tup [8, 9, 10] fun _ h => ⟨(.cons (Binds.name 8 .local (by rw [h]; rfl) (.inl rfl)) (.cons (Binds.name 9 .local (by rw [h]; rfl) (.inl rfl)) (.cons (Binds.name 10 .local (by rw [h]; rfl) (.inl rfl)) .nil))), rfl, rfl⟩) (fun env h => by cases env; dsimp only at h; subst h; kernel_rfl) (fun env h => by cases env; dsimp only at h; subst h; kernel_rfl))) (SSN.cons (S1N.exp (SEN.meth (fun _ _ => rfl) rfl (by decide) (by rw [B.frag]; kernel_rfl) (by rw [B.frag]; kernel_rfl) (by rw [B.frag]; kernel_rfl) (B.keep (by kernel_rfl)) ((d_64 B).bs.le (by decide)) (SE.var 1 .local rfl (.inl rfl) rfl) (.cons (fun _ _ => rfl) (SE.idx (SE.var 6 .local rfl (.inl rfl) rfl) (SE.var 8 .local rfl (.inl rfl) rfl) fun _ _ => rfl) (.cons (fun _ _ => rfl) (SE.idx (SE.var 4 .local rfl (.inl rfl) rfl) (SE.var 8 .local rfl (.inl rfl) rfl) fun _ _ => rfl) .nil))) (fun _ h => by rw [interactive, h]; rfl) fun _ => rfl) (SSN.cons (S1N.exp (SEN.meth (fun _ _ => rfl) rfl (by decide) (by rw [B.frag]; kernel_rfl) (by rw [B.frag]; kernel_rfl) (by rw [B.frag]; kernel_rfl) (B.keep (by kernel_rfl)) ((d_57 B).bs.le (by decide)) (SE.var 1 .local rfl (.inl rfl) rfl) (.cons (fun _ _ => rfl) (SE.var 9 .local rfl (.inl rfl) rfl) (.cons (fun _ _ => rfl) (SE.var 10 .local rfl (.inl rfl) rfl) .nil))) (fun _ h => by rw [interactive, h]; rfl) fun _ => rfl) SSN.nil))))))) SSN.nil) (fun _ _ => rfl)) (SSN.cons (S1N.exp (SEN.meth (fun _ _ => rfl) rfl (by decide) (by rw [B.frag]; kernel_rfl) (by rw [B.frag]; kernel_rfl) (by rw [B.frag]; kernel_rfl) (B.keep (by kernel_rfl)) ((d_64 B).bs.le (by decide)) (SE.var 1 .local rfl (.inl rfl) rfl) (.cons (fun _ _ => rfl) (SE.idx (SE.var 5 .local rfl (.inl rfl) rfl) (SE.gint 256 196 rfl rfl (B.mg (by kernel_rfl))) fun _ _ => rfl) (.cons (fun _ _ => rfl) (SE.idx (SE.var 3 .local rfl (.inl rfl) rfl) (SE.gint 256 196 rfl rfl (B.mg (by kernel_rfl))) fun _ _ => rfl) .nil))) (fun _ h => by rw [interactive, h]; rfl) fun _ => rfl) SSN.nil))))
end Mine
end
section
open PySem PySem.W PyProof.Rows
set_option Elab.async false
set_option linter.unusedVariables false
set_option maxRecDepth 100000
set_option maxHeartbeats 4000000
namespace Mine
theorem d_195 {c : Cx} (B : Base c) : CS c 3 (.ref 195) b_195 := by
  refine CS.fn (n := 2) (pn := ["rows", "number"]) (B.X 195 _ rfl) rfl rfl (codeRec_of B.X (by kernel_rfl)) rfl rfl rfl rfl rfl rfl (by decide +kernel) (by decide +kernel) (by kernel_rfl) (cells_ok (by decide +kernel)) [] [] (fun _ _ => .nil) (fun vals hl h hk => ?_) ?_
  · match vals, hl with
    | [a0, a1], _ => exact Looks.of_peek (B.X.keeps hk) (by kernel_rfl)
  · exact (SS.cons (S1.asgTup (SE.idx (SE.comp (sc' := ⟨.function, [(".0", .local), ("row", .local), ("number", .cell)], false, false, []⟩) (cap := [none, none, some 1]) ⟨fun env h => by cases env; dsimp only at h; subst h; kernel_rfl, rfl, rfl, by decide +kernel, by kernel_rfl, by kernel_rfl, .inl ⟨rfl, rfl⟩⟩ (SE.var 0 .local rfl (.inl rfl) rfl) (⟨_, rfl, (ST.cmp (SE.idx (SE.var 1 .local rfl (.inl rfl) rfl) SE.cint fun _ _ => rfl) (SE.var 2 .cell rfl (.inr rfl) rfl) CmpS.le rfl)⟩) (SE.var 1 .local rfl (.inl rfl) rfl) (fun _ _ => rfl)) (SE.neg SE.cint) fun _ _ => rfl) (SA.tup [2, 3, 4] fun _ h => ⟨(.cons (Binds.name 2 .local (by rw [h]; rfl) (.inl rfl)) (.cons (Binds.name 3 .local (by rw [h]; rfl) (.inl rfl)) (.cons (Binds.name 4 .local (by rw [h]; rfl) (.inl rfl)) .nil))), rfl, rfl⟩) (fun env h => by cases env; dsimp only at h; subst h; kernel_rfl) (fun env h => by cases env; dsimp only at h; subst h; kernel_rfl)) (SS.cons (S1.ret (SE.tuple (.cons (fun _ _ => rfl) (SE.var 2 .local rfl (.inl rfl) rfl) (.cons (fun _ _ => rfl) (SE.bin (SE.var 1 .cell rfl (.inr rfl) rfl) (SE.var 3 .local rfl (.inl rfl) rfl) OpS.sub) (.cons (fun _ _ => rfl) (SE.var 4 .local rfl (.inl rfl) rfl) .nil))))) SS.nil))
theorem d_202 {c : Cx} (B : Base c) : CS c 3 (.ref 202) b_202 := by
  refine CS.fn (n := 2) (pn := ["near", "far"]) (B.X 202 _ rfl) rfl rfl (codeRec_of B.X (by kernel_rfl)) rfl rfl rfl rfl rfl rfl (by decide +kernel) (by decide +kernel) (by kernel_rfl) (cells_ok (by decide +kernel)) [] [] (fun _ _ => .nil) (fun vals hl h hk => ?_) ?_
  · match vals, hl with
    | [a0, a1], _ => exact Looks.of_peek (B.X.keeps hk) (by kernel_rfl)
  · exact (SS.cons (S1.ite (ST.cmp (SE.bin (SE.var 0 .local rfl (.inl rfl) rfl) SE.cint OpS.mod) SE.cint CmpS.lt rfl) (SS.cons (S1.ret (SE.tuple (.cons (fun _ _ => rfl) (SE.bin (SE.bin (SE.var 0 .local rfl (.inl rfl) rfl) SE.cint OpS.div) SE.cint OpS.mod) .nil))) SS.nil) SS.nil) (SS.cons (S1.asg 2 .local rfl (.inl rfl) (SE.list (.cons (fun _ _ => rfl) SE.cint (.cons (fun _ _ => rfl) SE.cint (.cons (fun _ _ => rfl) SE.cint (.cons (fun _ _ => rfl) SE.cint (.cons (fun _ _ => rfl) SE.cint (.cons (fun _ _ => rfl) SE.cint (.cons (fun _ _ => rfl) SE.cint (.cons (fun _ _ => rfl) SE.cint .nil))))))))) fun _ _ => rfl) (SS.cons (S1.asg 3 .local rfl (.inl rfl) (SE.list (.cons (fun _ _ => rfl) SE.cint (.cons (fun _ _ => rfl) SE.cint (.cons (fun _ _ => rfl) SE.cint (.cons (fun _ _ => rfl) SE.cint (.cons (fun _ _ => rfl) SE.cint (.cons (fun _ _ => rfl) SE.cint (.cons (fun _ _ => rfl) SE.cint (.cons (fun _ _ => rfl) SE.cint .nil))))))))) fun _ _ => rfl) (SS.cons (S1.asg 4 .local rfl (.inl rfl) (SE.ite (ST.cmp (SE.bin (SE.var 0 .local rfl (.inl rfl) rfl) SE.cint OpS.mod) SE.cint CmpS.gt rfl) (SE.idx (SE.var 2 .local rfl (.inl rfl) rfl) (SE.bin (SE.bin (SE.var 0 .local rfl (.inl rfl) rfl) SE.cint OpS.div) SE.cint OpS.mod) fun _ _ => rfl) (SE.bin SE.cint (SE.bin (SE.bin (SE.var 0 .local rfl (.inl rfl) rfl) SE.cint OpS.div) SE.cint OpS.mod) OpS.add)) fun _ _ => rfl) (SS.cons (S1.asg 5 .local rfl (.inl rfl) (SE.ite (ST.cmp (SE.bin (SE.var 1 .local rfl (.inl rfl) rfl) SE.cint OpS.mod) SE.cint CmpS.eq rfl) (SE.idx (SE.var 3 .local rfl (.inl rfl) rfl) (SE.bin (SE.bin (SE.var 1 .local rfl (.inl rfl) rfl) SE.cint OpS.div) SE.cint OpS.mod) fun _ _ => rfl) (SE.bin SE.cint (SE.bin (SE.bin (SE.var 1 .local rfl (.inl rfl) rfl) SE.cint OpS.div) SE.cint OpS.mod) OpS.add)) fun _ _ => rfl) (SS.cons (S1.ret (SE.tuple (.cons (fun _ _ => rfl) (SE.var 4 .local rfl (.inl rfl) rfl) (.cons (fun _ _ => rfl) (SE.var 5 .local rfl (.inl rfl) rfl) .nil)))) SS.nil))))))
theorem d_207 {c : Cx} (B : Base c) : CS c 3 (.ref 207) b_207 := by
  refine CS.fn (n := 2) (pn := ["lengths"]) (B.X 207 _ rfl) rfl rfl (codeRec_of B.X (by kernel_rfl)) rfl rfl rfl rfl rfl rfl (by decide +kernel) (by decide +kernel) (by kernel_rfl) (cells_ok (by decide +kernel)) [] [] (fun _ _ => .nil) (fun vals hl h hk => ?_) ?_
  · match vals, hl with
    | [a0], _ => exact Looks.of_peek (B.X.keeps hk) (by kernel_rfl)
  · exact (SS.cons (S1.asgTup (SE.tuple (.cons (fun _ _ => rfl) SE.dictM (.cons (fun _ _ => rfl) SE.cint .nil))) (SA.tup [1, 2] fun _ h => ⟨(.cons (Binds.name 1 .local (by rw [h]; rfl) (.inl rfl)) (.cons (Binds.name 2 .cell (by rw [h]; rfl) (.inr rfl)) .nil)), rfl, rfl⟩) (fun env h => by cases env; dsimp only at h; subst h; kernel_rfl) (fun env h => by cases env; dsimp only at h; subst h; kernel_rfl)) (SS.cons (S1.for (SE.call (.type "range") rfl rfl (.inr ⟨B.mg (by kernel_rfl), Base.mb (by decide) (by kernel_rfl)⟩) .type BS.range (.cons (fun _ _ => rfl) SE.cint (.cons (fun _ _ => rfl) SE.cint .nil))) (SA.name 3 .cell rfl (.inr rfl)) (SS.cons (S1.asg 2 .cell rfl (.inr rfl) (SE.bin (SE.var 2 .cell rfl (.inr rfl) rfl) SE.cint OpS.mul) fun _ _ => rfl) (SS.cons (S1.for (SE.call (.builtin "sorted") rfl rfl (.inr ⟨B.mg (by kernel_rfl), Base.mb (by decide) (by kernel_rfl)⟩) .builtin BS.sorted (.cons (fun _ _ => rfl) (SE.var 0 .local rfl (.inl rfl) rfl) .nil)) (SA.name 4 .local rfl (.inl rfl)) (SS.cons (S1.ite (ST.cmp (SE.idx (SE.var 0 .local rfl (.inl rfl) rfl) (SE.var 4 .local rfl (.inl rfl) rfl) fun _ _ => rfl) (SE.var 3 .cell rfl (.inr rfl) rfl) CmpS.eq rfl) (SS.cons (S1.set (SE.var 1 .local rfl (.inl rfl) rfl) (SE.var 4 .local rfl (.inl rfl) rfl) (SE.comp (sc' := ⟨.function, [(".0", .local), ("k", .local), ("many", .cell), ("number", .cell)], false, false, []⟩) (cap := [none, none, some 3, some 2]) ⟨fun env h => by cases env; dsimp only at h; subst h; kernel_rfl, rfl, rfl, by decide +kernel, by kernel_rfl, by kernel_rfl, .inl ⟨rfl, rfl⟩⟩ (SE.call (.type "range") rfl rfl (.inr ⟨B.mg (by kernel_rfl), Base.mb (by decide) (by kernel_rfl)⟩) .type BS.range (.cons (fun _ _ => rfl) (SE.var 3 .cell rfl (.inr rfl) rfl) .nil)) (rfl) (SE.bin (SE.bin (SE.var 3 .cell rfl (.inr rfl) rfl) (SE.bin SE.cint (SE.bin (SE.bin (SE.var 2 .cell rfl (.inr rfl) rfl) SE.cint OpS.sub) (SE.var 1 .local rfl (.inl rfl) rfl) OpS.sub) OpS.pow) OpS.div) SE.cint OpS.mod) (fun _ _ => rfl)) fun _ => rfl) (SS.cons (S1.asg 2 .cell rfl (.inr rfl) (SE.bin (SE.var 2 .cell rfl (.inr rfl) rfl) SE.cint OpS.add) fun _ _ => rfl) SS.nil)) SS.nil) SS.nil) (fun _ _ => rfl)) SS.nil)) (fun _ _ => rfl)) (SS.cons (S1.ret (SE.frz (SE.var 1 .local rfl (.inl rfl) rfl))) SS.nil)))
theorem d_212 {c : Cx} (B : Base c) : CS c 3 (.ref 212) b_212 := by
  refine CS.fn (n := 2) (pn := ["signs", "spread"]) (B.X 212 _ rfl) rfl rfl (codeRec_of B.X (by kernel_rfl)) rfl rfl rfl rfl rfl rfl (by decide +kernel) (by decide +kernel) (by kernel_rfl) (cells_ok (by decide +kernel)) [] [] (fun _ _ => .nil) (fun vals hl h hk => ?_) ?_
  · match vals, hl with
    | [a0, a1], _ => exact Looks.of_peek (B.X.keeps hk) (by kernel_rfl)
  · exact (SS.cons (S1.asg 2 .local rfl (.inl rfl) SE.dictM fun _ _ => rfl) (SS.cons (S1.ite (ST.or (ST.cmp (SE.var 1 .local rfl (.inl rfl) rfl) SE.cint CmpS.eq rfl) (ST.cmp (SE.call (.builtin "len") rfl rfl (.inr ⟨B.mg (by kernel_rfl), Base.mb (by decide) (by kernel_rfl)⟩) .builtin BS.len (.cons (fun _ _ => rfl) (SE.var 0 .local rfl (.inl rfl) rfl) .nil)) SE.cint CmpS.gt rfl)) (SS.cons (S1.asg 3 .cell rfl (.inr rfl) SE.cint fun _ _ => rfl) (SS.cons (S1.while 64 (ST.cmp (SE.bin SE.cint (SE.var 3 .cell rfl (.inr rfl) rfl) OpS.pow) (SE.call (.builtin "len") rfl rfl (.inr ⟨B.mg (by kernel_rfl), Base.mb (by decide) (by kernel_rfl)⟩) .builtin BS.len (.cons (fun _ _ => rfl) (SE.var 0 .local rfl (.inl rfl) rfl) .nil)) CmpS.lt rfl) (SS.cons (S1.asg 3 .cell rfl (.inr rfl) (SE.bin (SE.var 3 .cell rfl (.inr rfl) rfl) SE.cint OpS.add) fun _ _ => rfl) SS.nil)) (SS.cons (S1.ret (SE.dictComp rfl rfl (.inr ⟨B.mg (by kernel_rfl), Base.mb (by decide) (by kernel_rfl)⟩) (fun _ => rfl) (sc' := ⟨.function, [(".0", .local), ("sign", .local), ("many", .cell)], false, false, []⟩) (cap := [none, none, some 3]) ⟨fun env h => by cases env; dsimp only at h; subst h; kernel_rfl, rfl, rfl, by decide +kernel, by kernel_rfl, by kernel_rfl, .inl ⟨rfl, rfl⟩⟩ (SE.var 0 .local rfl (.inl rfl) rfl) (rfl) (SE.tuple (.cons (fun _ _ => rfl) (SE.var 1 .local rfl (.inl rfl) rfl) (.cons (fun _ _ => rfl) (SE.var 2 .cell rfl (.inr rfl) rfl) .nil))) (fun _ _ => rfl))) SS.nil))) SS.nil) (SS.cons (S1.forEnum rfl rfl (.inr ⟨B.mg (by kernel_rfl), Base.mb (by decide) (by kernel_rfl)⟩) (SE.var 0 .local rfl (.inl rfl) rfl) (fun _ _ => rfl) (SA.tup [5, 4] fun _ h => ⟨(.cons (Binds.name 5 .local (by rw [h]; rfl) (.inl rfl)) (.cons (Binds.name 4 .local (by rw [h]; rfl) (.inl rfl)) .nil)), rfl, rfl⟩) (SS.cons (S1.set (SE.var 2 .local rfl (.inl rfl) rfl) (SE.var 4 .local rfl (.inl rfl) rfl) (SE.call (.builtin "max") rfl rfl (.inr ⟨B.mg (by kernel_rfl), Base.mb (by decide) (by kernel_rfl)⟩) .builtin BS.max2 (.cons (fun _ _ => rfl) SE.cint (.cons (fun _ _ => rfl) (SE.call (.builtin "min") rfl rfl (.inr ⟨B.mg (by kernel_rfl), Base.mb (by decide) (by kernel_rfl)⟩) .builtin BS.min2 (.cons (fun _ _ => rfl) (SE.bin (SE.var 5 .local rfl (.inl rfl) rfl) SE.cint OpS.add) (.cons (fun _ _ => rfl) (SE.bin (SE.call (.builtin "len") rfl rfl (.inr ⟨B.mg (by kernel_rfl), Base.mb (by decide) (by kernel_rfl)⟩) .builtin BS.len (.cons (fun _ _ => rfl) (SE.var 0 .local rfl (.inl rfl) rfl) .nil)) SE.cint OpS.sub) .nil))) .nil))) fun _ => rfl) SS.nil) (fun _ _ => rfl)) (SS.cons (S1.ret (SE.frz (SE.var 2 .local rfl (.inl rfl) rfl))) SS.nil))))
theorem d_217 {c : Cx} (B : Base c) : CS c 3 (.ref 217) b_217 := by
  refine CS.fn (n := 2) (pn := ["number", "many"]) (B.X 217 _ rfl) rfl rfl (codeRec_of B.X (by kernel_rfl)) rfl rfl rfl rfl rfl rfl (by decide +kernel) (by decide +kernel) (by kernel_rfl) (cells_ok (by decide +kernel)) [] [] (fun _ _ => .nil) (fun vals hl h hk => ?_) ?_
  · match vals, hl with
    | [a0, a1], _ => exact Looks.of_peek (B.X.keeps hk) (by kernel_rfl)
  · exact (SS.cons (S1.ret (SE.comp (sc' := ⟨.function, [(".0", .local), ("k", .local), ("number", .cell)], false, false, []⟩) (cap := [none, none, some 0]) ⟨fun env h => by cases env; dsimp only at h; subst h; kernel_rfl, rfl, rfl, by decide +kernel, by kernel_rfl, by kernel_rfl, .inl ⟨rfl, rfl⟩⟩ (SE.call (.type "range") rfl rfl (.inr ⟨B.mg (by kernel_rfl), Base.mb (by decide) (by kernel_rfl)⟩) .type BS.range (.cons (fun _ _ => rfl) (SE.var 1 .local rfl (.inl rfl) rfl) .nil)) (rfl) (SE.bin (SE.bin (SE.var 2 .cell rfl (.inr rfl) rfl) (SE.bin SE.cint (SE.var 1 .local rfl (.inl rfl) rfl) OpS.pow) OpS.div) SE.cint OpS.mod) (fun _ _ => rfl))) SS.nil)
end Mine
end
section
open PySem PySem.W PyProof.Rows
set_option Elab.async false
set_option linter.unusedVariables false
set_option maxRecDepth 100000
set_option maxHeartbeats 4000000
namespace Mine
theorem d_222 {c : Cx} (B : Base c) : CSN c 13 (.ref 222) b_222 := by
  refine CSN.fn (n := 12) (pn := ["script"]) (B.X 222 _ rfl) rfl rfl (codeRec_of B.X (by kernel_rfl)) rfl rfl rfl rfl rfl rfl (by decide +kernel) (by decide +kernel) (by kernel_rfl) (cells_ok (by decide +kernel)) [] [] (fun _ _ => .nil) (fun vals hl h hk => ?_) ?_
  · match vals, hl with
    | [a0], _ => exact Looks.of_peek (B.X.keeps hk) (by kernel_rfl)
  · exact (SSN.cons (.of (S1.asg 1 .cell rfl (.inr rfl) (SE.comp (sc' := ⟨.function, [(".0", .local), ("cell", .local), ("abs", .globalImplicit), ("int", .globalImplicit)], false, false, []⟩) (cap := [none, none, none, none]) ⟨fun env h => by cases env; dsimp only at h; subst h; kernel_rfl, rfl, rfl, by decide +kernel, by kernel_rfl, by kernel_rfl, .inl ⟨rfl, rfl⟩⟩ (SE.take (SE.var 0 .local rfl (.inl rfl) rfl)) (rfl) (SE.bin (SE.call (.builtin "abs") rfl rfl (.inr ⟨B.mg (by kernel_rfl), Base.mb (by decide) (by kernel_rfl)⟩) .builtin BS.abs (.cons (fun _ _ => rfl) (SE.call (.type "int") rfl rfl (.inr ⟨B.mg (by kernel_rfl), Base.mb (by decide) (by kernel_rfl)⟩) .type BS.int (.cons (fun _ _ => rfl) (SE.var 1 .local rfl (.inl rfl) rfl) .nil)) .nil)) (SE.bin SE.cint SE.cint OpS.pow) OpS.mod) (fun _ _ => rfl)) fun env h => by cases env; dsimp only at h; subst h; kernel_rfl)) (SSN.cons (.of (S1.asgComp 2 .local rfl (.inl rfl) (sc' := ⟨.function, [(".0", .local), ("k", .local), ("_law_token", .globalImplicit), ("cells", .cell)], false, false, []⟩) (cap := [none, none, none, some 1]) ⟨fun env h => by cases env; dsimp only at h; subst h; kernel_rfl, rfl, rfl, by decide +kernel, by kernel_rfl, by kernel_rfl, .inl ⟨rfl, rfl⟩⟩ (SE.call (.type "range") rfl rfl (.inr ⟨B.mg (by kernel_rfl), Base.mb (by decide) (by kernel_rfl)⟩) .type BS.range (.cons (fun _ _ => rfl) SE.cint (.cons (fun _ _ => rfl) (SE.bin (SE.call (.builtin "len") rfl rfl (.inr ⟨B.mg (by kernel_rfl), Base.mb (by decide) (by kernel_rfl)⟩) .builtin BS.len (.cons (fun _ _ => rfl) (SE.var 1 .cell rfl (.inr rfl) rfl) .nil)) SE.cint OpS.sub) (.cons (fun _ _ => rfl) SE.cint .nil)))) (rfl) (SE.call (.ref 202) rfl rfl (.inl (B.mg (by kernel_rfl))) (B.keep (by kernel_rfl)) ((d_202 B).bs.le (by decide)) (.cons (fun _ _ => rfl) (SE.idx (SE.var 3 .cell rfl (.inr rfl) rfl) (SE.var 1 .local rfl (.inl rfl) rfl) fun _ _ => rfl) (.cons (fun _ _ => rfl) (SE.idx (SE.var 3 .cell rfl (.inr rfl) rfl) (SE.bin (SE.var 1 .local rfl (.inl rfl) rfl) SE.cint OpS.add) fun _ _ => rfl) .nil))) (fun _ _ => rfl) (fun env h => by cases env; dsimp only at h; subst h; kernel_rfl))) (SSN.cons (.of (S1.asgTupR [3, 4, 5] ["tool", "heads", "far_rows"] (SE.tuple (.cons (fun _ _ => rfl) (SE.call (.ref 172) rfl rfl (.inl (B.mg (by kernel_rfl))) (B.keep (by kernel_rfl)) ((BS.new (by rw [B.frag]; kernel_rfl) (by rw [B.frag]; kernel_rfl) (by rw [B.frag]; kernel_rfl) (d_141 B)).le (by decide)) .nil) (.cons (fun _ _ => rfl) (SE.call (.ref 183) rfl rfl (.inl (B.mg (by kernel_rfl))) (B.keep (by kernel_rfl)) ((d_183 B).bs.le (by decide)) .nil) (.cons (fun _ _ => rfl) (SE.call (.ref 190) rfl rfl (.inl (B.mg (by kernel_rfl))) (B.keep (by kernel_rfl)) ((d_190 B).bs.le (by decide)) .nil) .nil)))) (fun env h => by cases env; dsimp only at h; subst h; kernel_rfl) (fun env h => by cases env; dsimp only at h; subst h; kernel_rfl) rfl (fun _ h => (.cons (Binds.bind 5 .local (by rw [h]; rfl) (.inl rfl)) (.cons (Binds.bind 4 .local (by rw [h]; rfl) (.inl rfl)) (.cons (Binds.bind 3 .local (by rw [h]; rfl) (.inl rfl)) .nil)))))) (SSN.cons (.of (S1.asgTup (SE.tuple (.cons (fun _ _ => rfl) (SE.repM (fun _ _ => rfl) SE.cint SE.cint) (.cons (fun _ _ => rfl) (SE.repM (fun _ _ => rfl) SE.cint SE.cint) (.cons (fun _ _ => rfl) (SE.listM .nil) .nil)))) (SA.tup [6, 7, 8] fun _ h => ⟨(.cons (Binds.name 6 .cell (by rw [h]; rfl) (.inr rfl)) (.cons (Binds.name 7 .cell (by rw [h]; rfl) (.inr rfl)) (.cons (Binds.name 8 .local (by rw [h]; rfl) (.inl rfl)) .nil))), rfl, rfl⟩) (fun env h => by cases env; dsimp only at h; subst h; kernel_rfl) (fun env h => by cases env; dsimp only at h; subst h; kernel_rfl))) (SSN.cons (.of (S1.for (SE.var 2 .local rfl (.inl rfl) rfl) (SA.name 9 .local rfl (.inl rfl)) (SS.cons (S1.ite (ST.cmp (SE.call (.builtin "len") rfl rfl (.inr ⟨B.mg (by kernel_rfl), Base.mb (by decide) (by kernel_rfl)⟩) .builtin BS.len (.cons (fun _ _ => rfl) (SE.var 9 .local rfl (.inl rfl) rfl) .nil)) SE.cint CmpS.eq rfl) (SS.cons (S1.set (SE.var 6 .cell rfl (.inr rfl) rfl) (SE.idx (SE.var 9 .local rfl (.inl rfl) rfl) SE.cint fun _ _ => rfl) (SE.bin (SE.idx (SE.var 6 .cell rfl (.inr rfl) rfl) (SE.idx (SE.var 9 .local rfl (.inl rfl) rfl) SE.cint fun _ _ => rfl) fun _ _ => rfl) SE.cint OpS.add) fun _ => rfl) (SS.cons (S1.exp (SE.append (fun _ _ => rfl) rfl (fun _ _ => rfl) (SE.var 8 .local rfl (.inl rfl) rfl) (SE.tuple (.cons (fun _ _ => rfl) (SE.idx (SE.var 9 .local rfl (.inl rfl) rfl) SE.cint fun _ _ => rfl) (.cons (fun _ _ => rfl) SE.cnone (.cons (fun _ _ => rfl) SE.cnone .nil))))) (fun _ h => by rw [interactive, h]; rfl) fun _ => rfl) SS.nil)) (SS.cons (S1.asgTupR [10, 11] ["near", "far"] (SE.tuple (.cons (fun _ _ => rfl) (SE.call (.ref 195) rfl rfl (.inl (B.mg (by kernel_rfl))) (B.keep (by kernel_rfl)) ((d_195 B).bs.le (by decide)) (.cons (fun _ _ => rfl) (SE.var 4 .local rfl (.inl rfl) rfl) (.cons (fun _ _ => rfl) (SE.idx (SE.var 9 .local rfl (.inl rfl) rfl) SE.cint fun _ _ => rfl) .nil))) (.cons (fun _ _ => rfl) (SE.call (.ref 195) rfl rfl (.inl (B.mg (by kernel_rfl))) (B.keep (by kernel_rfl)) ((d_195 B).bs.le (by decide)) (.cons (fun _ _ => rfl) (SE.var 5 .local rfl (.inl rfl) rfl) (.cons (fun _ _ => rfl) (SE.idx (SE.var 9 .local rfl (.inl rfl) rfl) SE.cint fun _ _ => rfl) .nil))) .nil))) (fun env h => by cases env; dsimp only at h; subst h; kernel_rfl) (fun env h => by cases env; dsimp only at h; subst h; kernel_rfl) rfl (fun _ h => (.cons (Binds.bind 11 .local (by rw [h]; rfl) (.inl rfl)) (.cons (Binds.bind 10 .local (by rw [h]; rfl) (.inl rfl)) .nil)))) (SS.cons (S1.ite (ST.or (ST.cmp (SE.call (.type "tuple") rfl rfl (.inr ⟨B.mg (by kernel_rfl), Base.mb (by decide) (by kernel_rfl)⟩) .type BS.tuple (.cons (fun _ _ => rfl) (SE.meth (fun _ _ => rfl) rfl (by decide) (by rw [B.frag]; kernel_rfl) (by rw [B.frag]; kernel_rfl) (by rw [B.frag]; kernel_rfl) (B.keep (by kernel_rfl)) ((d_148 B).bs.le (by decide)) (SE.var 3 .local rfl (.inl rfl) rfl) (.cons (fun _ _ => rfl) (SE.idx (SE.var 9 .local rfl (.inl rfl) rfl) SE.cint fun _ _ => rfl) .nil)) .nil)) (SE.var 10 .local rfl (.inl rfl) rfl) CmpS.neSeq rfl) (ST.cmp (SE.call (.type "tuple") rfl rfl (.inr ⟨B.mg (by kernel_rfl), Base.mb (by decide) (by kernel_rfl)⟩) .type BS.tuple (.cons (fun _ _ => rfl) (SE.meth (fun _ _ => rfl) rfl (by decide) (by rw [B.frag]; kernel_rfl) (by rw [B.frag]; kernel_rfl) (by rw [B.frag]; kernel_rfl) (B.keep (by kernel_rfl)) ((d_155 B).bs.le (by decide)) (SE.var 3 .local rfl (.inl rfl) rfl) (.cons (fun _ _ => rfl) (SE.idx (SE.var 9 .local rfl (.inl rfl) rfl) SE.cint fun _ _ => rfl) .nil)) .nil)) (SE.var 11 .local rfl (.inl rfl) rfl) CmpS.neSeq rfl)) (SS.cons (S1.ret SE.cbool) SS.nil) SS.nil) (SS.cons (S1.set (SE.var 6 .cell rfl (.inr rfl) rfl) (SE.idx (SE.var 10 .local rfl (.inl rfl) rfl) SE.cint fun _ _ => rfl) (SE.bin (SE.idx (SE.var 6 .cell rfl (.inr rfl) rfl) (SE.idx (SE.var 10 .local rfl (.inl rfl) rfl) SE.cint fun _ _ => rfl) fun _ _ => rfl) SE.cint OpS.add) fun _ => rfl) (SS.cons (S1.set (SE.var 7 .cell rfl (.inr rfl) rfl) (SE.idx (SE.var 11 .local rfl (.inl rfl) rfl) SE.cint fun _ _ => rfl) (SE.bin (SE.idx (SE.var 7 .cell rfl (.inr rfl) rfl) (SE.idx (SE.var 11 .local rfl (.inl rfl) rfl) SE.cint fun _ _ => rfl) fun _ _ => rfl) SE.cint OpS.add) fun _ => rfl) (SS.cons (S1.exp (SE.append (fun _ _ => rfl) rfl (fun _ _ => rfl) (SE.var 8 .local rfl (.inl rfl) rfl) (SE.tuple (.cons (fun _ _ => rfl) (SE.idx (SE.var 10 .local rfl (.inl rfl) rfl) SE.cint fun _ _ => rfl) (.cons (fun _ _ => rfl) (SE.var 10 .local rfl (.inl rfl) rfl) (.cons (fun _ _ => rfl) (SE.var 11 .local rfl (.inl rfl) rfl) .nil))))) (fun _ h => by rw [interactive, h]; rfl) fun _ => rfl) SS.nil)))))) SS.nil) (fun _ _ => rfl))) (SSN.cons (.of (S1.set (SE.var 6 .cell rfl (.inr rfl) rfl) SE.cint SE.cint fun _ => rfl)) (SSN.cons (.of (S1.asg 12 .local rfl (.inl rfl) (SE.meth (fun _ _ => rfl) rfl (by decide) (by rw [B.frag]; kernel_rfl) (by rw [B.frag]; kernel_rfl) (by rw [B.frag]; kernel_rfl) (B.keep (by kernel_rfl)) ((d_162 B).bs.le (by decide)) (SE.var 3 .local rfl (.inl rfl) rfl) (.cons (fun _ _ => rfl) (SE.call (.type "list") rfl rfl (.inr ⟨B.mg (by kernel_rfl), Base.mb (by decide) (by kernel_rfl)⟩) .type BS.list (.cons (fun _ _ => rfl) (SE.var 2 .local rfl (.inl rfl) rfl) .nil)) .nil)) fun _ _ => rfl)) (SSN.cons (.of (S1.ite (ST.or (ST.cmp (SE.call (.type "list") rfl rfl (.inr ⟨B.mg (by kernel_rfl), Base.mb (by decide) (by kernel_rfl)⟩) .type BS.list (.cons (fun _ _ => rfl) (SE.idx (SE.var 12 .local rfl (.inl rfl) rfl) SE.cint fun _ _ => rfl) .nil)) (SE.var 6 .cell rfl (.inr rfl) rfl) CmpS.neSeq rfl) (ST.cmp (SE.call (.type "list") rfl rfl (.inr ⟨B.mg (by kernel_rfl), Base.mb (by decide) (by kernel_rfl)⟩) .type BS.list (.cons (fun _ _ => rfl) (SE.idx (SE.var 12 .local rfl (.inl rfl) rfl) SE.cint fun _ _ => rfl) .nil)) (SE.var 7 .cell rfl (.inr rfl) rfl) CmpS.neSeq rfl)) (SS.cons (S1.ret SE.cbool) SS.nil) SS.nil)) (SSN.cons (.of (S1.asg 13 .local rfl (.inl rfl) (SE.bin (SE.call (.builtin "sum") rfl rfl (.inr ⟨B.mg (by kernel_rfl), Base.mb (by decide) (by kernel_rfl)⟩) .builtin BS.sum (.cons (fun _ _ => rfl) (SE.var 1 .cell rfl (.inr rfl) rfl) .nil)) SE.cint OpS.mod) fun _ _ => rfl)) (SSN.cons (.of (S1.asg 15 .cell rfl (.inr rfl) (SE.listM (.cons (fun _ _ => rfl) (SE.call (.ref 212) rfl rfl (.inl (B.mg (by kernel_rfl))) (B.keep (by kernel_rfl)) ((d_212 B).bs.le (by decide)) (.cons (fun _ _ => rfl) (SE.comp (sc' := ⟨.function, [(".0", .local), ("sign", .local), ("literals", .cell)], false, false, []⟩) (cap := [none, none, some 6]) ⟨fun env h => by cases env; dsimp only at h; subst h; kernel_rfl, rfl, rfl, by decide +kernel, by kernel_rfl, by kernel_rfl, .inl ⟨rfl, rfl⟩⟩ (SE.call (.type "range") rfl rfl (.inr ⟨B.mg (by kernel_rfl), Base.mb (by decide) (by kernel_rfl)⟩) .type BS.range (.cons (fun _ _ => rfl) SE.cint .nil)) (⟨_, rfl, (ST.cmp (SE.idx (SE.var 2 .cell rfl (.inr rfl) rfl) (SE.var 1 .local rfl (.inl rfl) rfl) fun _ _ => rfl) SE.cint CmpS.gt rfl)⟩) (SE.var 1 .local rfl (.inl rfl) rfl) (fun _ _ => rfl)) (.cons (fun _ _ => rfl) (SE.var 13 .local rfl (.inl rfl) rfl) .nil))) .nil)) fun env h => by cases env; dsimp only at h; subst h; kernel_rfl)) (SSN.cons (.of (S1.exp (SE.append (fun _ _ => rfl) rfl (fun _ _ => rfl) (SE.var 15 .cell rfl (.inr rfl) rfl) (SE.call (.ref 212) rfl rfl (.inl (B.mg (by kernel_rfl))) (B.keep (by kernel_rfl)) ((d_212 B).bs.le (by decide)) (.cons (fun _ _ => rfl) (SE.comp (sc' := ⟨.function, [(".0", .local), ("sign", .local), ("distances", .cell)], false, false, []⟩) (cap := [none, none, some 7]) ⟨fun env h => by cases env; dsimp only at h; subst h; kernel_rfl, rfl, rfl, by decide +kernel, by kernel_rfl, by kernel_rfl, .inl ⟨rfl, rfl⟩⟩ (SE.call (.type "range") rfl rfl (.inr ⟨B.mg (by kernel_rfl), Base.mb (by decide) (by kernel_rfl)⟩) .type BS.range (.cons (fun _ _ => rfl) SE.cint .nil)) (⟨_, rfl, (ST.cmp (SE.idx (SE.var 2 .cell rfl (.inr rfl) rfl) (SE.var 1 .local rfl (.inl rfl) rfl) fun _ _ => rfl) SE.cint CmpS.gt rfl)⟩) (SE.var 1 .local rfl (.inl rfl) rfl) (fun _ _ => rfl)) (.cons (fun _ _ => rfl) (SE.var 13 .local rfl (.inl rfl) rfl) .nil)))) (fun _ h => by rw [interactive, h]; rfl) fun _ => rfl)) (SSN.cons (.of (S1.asgTup (SE.tuple (.cons (fun _ _ => rfl) (SE.list (.cons (fun _ _ => rfl) (SE.call (.ref 207) rfl rfl (.inl (B.mg (by kernel_rfl))) (B.keep (by kernel_rfl)) ((d_207 B).bs.le (by decide)) (.cons (fun _ _ => rfl) (SE.idx (SE.var 15 .cell rfl (.inr rfl) rfl) SE.cint fun _ _ => rfl) .nil)) (.cons (fun _ _ => rfl) (SE.call (.ref 207) rfl rfl (.inl (B.mg (by kernel_rfl))) (B.keep (by kernel_rfl)) ((d_207 B).bs.le (by decide)) (.cons (fun _ _ => rfl) (SE.idx (SE.var 15 .cell rfl (.inr rfl) rfl) SE.cint fun _ _ => rfl) .nil)) .nil))) (.cons (fun _ _ => rfl) (SE.list .nil) .nil))) (SA.tup [16, 17] fun _ h => ⟨(.cons (Binds.name 16 .local (by rw [h]; rfl) (.inl rfl)) (.cons (Binds.name 17 .cell (by rw [h]; rfl) (.inr rfl)) .nil)), rfl, rfl⟩) (fun env h => by cases env; dsimp only at h; subst h; kernel_rfl) (fun env h => by cases env; dsimp only at h; subst h; kernel_rfl))) (SSN.cons (.of (S1.for (SE.bin (SE.var 8 .local rfl (.inl rfl) rfl) (SE.list (.cons (fun _ _ => rfl) (SE.tuple (.cons (fun _ _ => rfl) SE.cint (.cons (fun _ _ => rfl) SE.cnone (.cons (fun _ _ => rfl) SE.cnone .nil)))) .nil)) OpS.add) (SA.tup [14, 10, 11] fun _ h => ⟨(.cons (Binds.name 14 .local (by rw [h]; rfl) (.inl rfl)) (.cons (Binds.name 10 .local (by rw [h]; rfl) (.inl rfl)) (.cons (Binds.name 11 .local (by rw [h]; rfl) (.inl rfl)) .nil))), rfl, rfl⟩) (SS.cons (S1.asg 17 .cell rfl (.inr rfl) (SE.bin (SE.var 17 .cell rfl (.inr rfl) rfl) (SE.idx (SE.idx (SE.var 16 .local rfl (.inl rfl) rfl) SE.cint fun _ _ => rfl) (SE.var 14 .local rfl (.inl rfl) rfl) fun _ _ => rfl) OpS.add) fun env h => by cases env; dsimp only at h; subst h; kernel_rfl) (SS.cons (S1.ite (ST.cmp (SE.var 10 .local rfl (.inl rfl) rfl) SE.cnone CmpS.isNot rfl) (SS.cons (S1.asg 17 .cell rfl (.inr rfl) (SE.bin (SE.bin (SE.bin (SE.var 17 .cell rfl (.inr rfl) rfl) (SE.call (.ref 217) rfl rfl (.inl (B.mg (by kernel_rfl))) (B.keep (by kernel_rfl)) ((d_217 B).bs.le (by decide)) (.cons (fun _ _ => rfl) (SE.idx (SE.var 10 .local rfl (.inl rfl) rfl) SE.cint fun _ _ => rfl) (.cons (fun _ _ => rfl) (SE.idx (SE.var 10 .local rfl (.inl rfl) rfl) SE.cint fun _ _ => rfl) .nil))) OpS.add) (SE.idx (SE.idx (SE.var 16 .local rfl (.inl rfl) rfl) SE.cint fun _ _ => rfl) (SE.idx (SE.var 11 .local rfl (.inl rfl) rfl) SE.cint fun _ _ => rfl) fun _ _ => rfl) OpS.add) (SE.call (.ref 217) rfl rfl (.inl (B.mg (by kernel_rfl))) (B.keep (by kernel_rfl)) ((d_217 B).bs.le (by decide)) (.cons (fun _ _ => rfl) (SE.idx (SE.var 11 .local rfl (.inl rfl) rfl) SE.cint fun _ _ => rfl) (.cons (fun _ _ => rfl) (SE.idx (SE.var 11 .local rfl (.inl rfl) rfl) SE.cint fun _ _ => rfl) .nil))) OpS.add) fun env h => by cases env; dsimp only at h; subst h; kernel_rfl) SS.nil) SS.nil) SS.nil)) (fun _ _ => rfl))) (SSN.cons (S1N.asg 18 .local rfl (.inl rfl) (SEN.call (.ref 109) rfl rfl (.inl (B.mg (by kernel_rfl))) (B.keep (by kernel_rfl)) ((BSN.new (by rw [B.frag]; kernel_rfl) (by rw [B.frag]; kernel_rfl) (by rw [B.frag]; kernel_rfl) (d_50 B)).le (by decide)) .nil) fun _ _ => rfl) (SSN.cons (S1N.exp (SEN.meth (fun _ _ => rfl) rfl (by decide) (by rw [B.frag]; kernel_rfl) (by rw [B.frag]; kernel_rfl) (by rw [B.frag]; kernel_rfl) (B.keep (by kernel_rfl)) ((d_169 B).bs.le (by decide)) (SE.var 3 .local rfl (.inl rfl) rfl) (.cons (fun _ _ => rfl) (SE.var 18 .local rfl (.inl rfl) rfl) (.cons (fun _ _ => rfl) (SE.call (.type "list") rfl rfl (.inr ⟨B.mg (by kernel_rfl), Base.mb (by decide) (by kernel_rfl)⟩) .type BS.list (.cons (fun _ _ => rfl) (SE.var 2 .local rfl (.inl rfl) rfl) .nil)) (.cons (fun _ _ => rfl) (SE.comp (sc' := ⟨.function, [(".0", .local), ("sign", .local), ("lots", .cell)], false, false, []⟩) (cap := [none, none, some 15]) ⟨fun env h => by cases env; dsimp only at h; subst h; kernel_rfl, rfl, rfl, by decide +kernel, by kernel_rfl, by kernel_rfl, .inl ⟨rfl, rfl⟩⟩ (SE.call (.type "range") rfl rfl (.inr ⟨B.mg (by kernel_rfl), Base.mb (by decide) (by kernel_rfl)⟩) .type BS.range (.cons (fun _ _ => rfl) SE.cint .nil)) (rfl) (SE.get (fun _ _ => rfl) rfl (fun _ => rfl) (SE.idx (SE.var 2 .cell rfl (.inr rfl) rfl) SE.cint fun _ _ => rfl) (SE.var 1 .local rfl (.inl rfl) rfl) SE.cint) (fun _ _ => rfl)) (.cons (fun _ _ => rfl) (SE.comp (sc' := ⟨.function, [(".0", .local), ("sign", .local), ("lots", .cell)], false, false, []⟩) (cap := [none, none, some 15]) ⟨fun env h => by cases env; dsimp only at h; subst h; kernel_rfl, rfl, rfl, by decide +kernel, by kernel_rfl, by kernel_rfl, .inl ⟨rfl, rfl⟩⟩ (SE.call (.type "range") rfl rfl (.inr ⟨B.mg (by kernel_rfl), Base.mb (by decide) (by kernel_rfl)⟩) .type BS.range (.cons (fun _ _ => rfl) SE.cint .nil)) (rfl) (SE.get (fun _ _ => rfl) rfl (fun _ => rfl) (SE.idx (SE.var 2 .cell rfl (.inr rfl) rfl) SE.cint fun _ _ => rfl) (SE.var 1 .local rfl (.inl rfl) rfl) SE.cint) (fun _ _ => rfl)) .nil))))) (fun _ h => by rw [interactive, h]; rfl) fun _ => rfl) (SSN.cons (.of (S1.ite (ST.cmp (SE.meth (fun _ _ => rfl) rfl (by decide) (by rw [B.frag]; kernel_rfl) (by rw [B.frag]; kernel_rfl) (by rw [B.frag]; kernel_rfl) (B.keep (by kernel_rfl)) ((d_85 B).bs.le (by decide)) (SE.var 18 .local rfl (.inl rfl) rfl) .nil) (SE.call (.builtin "len") rfl rfl (.inr ⟨B.mg (by kernel_rfl), Base.mb (by decide) (by kernel_rfl)⟩) .builtin BS.len (.cons (fun _ _ => rfl) (SE.var 17 .cell rfl (.inr rfl) rfl) .nil)) CmpS.ne rfl) (SS.cons (S1.ret SE.cbool) SS.nil) SS.nil)) (SSN.cons (.of (S1.asg 17 .cell rfl (.inr rfl) (SE.bin (SE.var 17 .cell rfl (.inr rfl) rfl) (SE.rep (fun _ _ => rfl) SE.cint (SE.bin (SE.neg (SE.call (.builtin "len") rfl rfl (.inr ⟨B.mg (by kernel_rfl), Base.mb (by decide) (by kernel_rfl)⟩) .builtin BS.len (.cons (fun _ _ => rfl) (SE.var 17 .cell rfl (.inr rfl) rfl) .nil))) SE.cint OpS.mod)) OpS.add) fun env h => by cases env; dsimp only at h; subst h; kernel_rfl)) (SSN.cons (S1N.ret (SEN.cmp (SEN.call1 (.type "bytes") rfl rfl (.inr ⟨B.mg (by kernel_rfl), Base.mb (by decide) (by kernel_rfl)⟩) .type (.of BS.bytes) (fun _ => rfl) (SEN.meth (fun _ _ => rfl) rfl (by decide) (by rw [B.frag]; kernel_rfl) (by rw [B.frag]; kernel_rfl) (by rw [B.frag]; kernel_rfl) (B.keep (by kernel_rfl)) ((d_106 B).bs.le (by decide)) (SE.var 18 .local rfl (.inl rfl) rfl) .nil)) (SE.call (.type "bytes") rfl rfl (.inr ⟨B.mg (by kernel_rfl), Base.mb (by decide) (by kernel_rfl)⟩) .type BS.bytes (.cons (fun _ _ => rfl) (SE.comp (sc' := ⟨.function, [(".0", .local), ("k", .cell), ("sum", .globalImplicit), ("range", .globalImplicit), ("bits", .cell)], false, false, []⟩) (cap := [none, none, none, none, some 17]) ⟨fun env h => by cases env; dsimp only at h; subst h; kernel_rfl, rfl, rfl, by decide +kernel, by kernel_rfl, by kernel_rfl, .inr ⟨rfl, rfl⟩⟩ (SE.call (.type "range") rfl rfl (.inr ⟨B.mg (by kernel_rfl), Base.mb (by decide) (by kernel_rfl)⟩) .type BS.range (.cons (fun _ _ => rfl) SE.cint (.cons (fun _ _ => rfl) (SE.call (.builtin "len") rfl rfl (.inr ⟨B.mg (by kernel_rfl), Base.mb (by decide) (by kernel_rfl)⟩) .builtin BS.len (.cons (fun _ _ => rfl) (SE.var 17 .cell rfl (.inr rfl) rfl) .nil)) (.cons (fun _ _ => rfl) SE.cint .nil)))) (rfl) (SE.call (.builtin "sum") rfl rfl (.inr ⟨B.mg (by kernel_rfl), Base.mb (by decide) (by kernel_rfl)⟩) .builtin BS.sum (.cons (fun _ _ => rfl) (SE.comp (sc' := ⟨.function, [(".0", .local), ("j", .local), ("bits", .cell), ("k", .cell)], false, false, []⟩) (cap := [none, none, some 4, some 1]) ⟨fun env h => by cases env; dsimp only at h; subst h; kernel_rfl, rfl, rfl, by decide +kernel, by kernel_rfl, by kernel_rfl, .inl ⟨rfl, rfl⟩⟩ (SE.call (.type "range") rfl rfl (.inr ⟨B.mg (by kernel_rfl), Base.mb (by decide) (by kernel_rfl)⟩) .type BS.range (.cons (fun _ _ => rfl) SE.cint .nil)) (rfl) (SE.bin (SE.idx (SE.var 2 .cell rfl (.inr rfl) rfl) (SE.bin (SE.var 3 .cell rfl (.inr rfl) rfl) (SE.var 1 .local rfl (.inl rfl) rfl) OpS.add) fun _ _ => rfl) (SE.bin SE.cint (SE.var 1 .local rfl (.inl rfl) rfl) OpS.pow) OpS.mul) (fun _ _ => rfl)) .nil)) (fun _ _ => rfl)) .nil)) CmpS.eqByt rfl)) SSN.nil))))))))))))))))))
end Mine
end
section
open PySem PySem.W PyProof.Rows
set_option Elab.async false
set_option linter.unusedVariables false
set_option linter.unusedSimpArgs false
namespace Mine

theorem bitOr_nat (x y : Nat) : Builtin.bitOr (x : Int) (y : Int) = ((x ||| y : Nat) : Int) := by
  have hn : ∀ z : Nat, Builtin.bitNot (Builtin.bitNot (z : Int)) = z := fun z => by unfold Builtin.bitNot; omega
  have h0 : ∀ z : Nat, decide (0 ≤ Builtin.bitNot (z : Int)) = false := fun z => by unfold Builtin.bitNot; simp; omega
  unfold Builtin.bitOr Builtin.bitAnd
  rw [h0 x, h0 y]
  simp only [hn]
  simp
theorem or_add {x y i : Nat} (h : x < 2 ^ i) : x ||| y * 2 ^ i = x + y * 2 ^ i := by
  have := Nat.shiftLeft_add_eq_or_of_lt h y
  rw [Nat.shiftLeft_eq] at this
  rw [Nat.or_comm, ← this]; omega

noncomputable def W (k : Nat) (h m : Int) : List (Str × V) := [("done", .ref k), ("held", .int h), ("many", .int m)]
theorem W_done (k h m) : List.lookup ("done" : Str) (W k h m) = some (.ref k) := rfl
theorem W_held (k h m) : List.lookup ("held" : Str) (W k h m) = some (.int h) := rfl
theorem W_many (k h m) : List.lookup ("many" : Str) (W k h m) = some (.int m) := rfl
theorem W_put_held (k h m h') : nsPut (W k h m) "held" (.int h') = W k h' m := rfl
theorem W_put_many (k h m m') : nsPut (W k h m) "many" (.int m') = W k h m' := rfl
theorem W_len (k h m) : (W k h m).length = 3 := rfl

/-- little-endian bytes -/
noncomputable def leB : Nat → Nat → List UInt8
  | _, 0 => []
  | T, n + 1 => (T % 256).toUInt8 :: leB (T / 256) n
theorem leB_len : ∀ n T, (leB T n).length = n
  | 0, _ => rfl
  | n + 1, T => by rw [leB, List.length_cons, leB_len n]

theorem set_get {α : Type} {l : List α} {i : Nat} {a b : α} (h : l[i]? = some a) : (l.set i b)[i]? = some b := List.getElem?_set_self (List.getElem?_eq_some_iff.mp h).1
theorem set_get' {α : Type} {l : List α} {i j : Nat} {b : α} (h : i ≠ j) : (l.set i b)[j]? = l[j]? := List.getElem?_set_ne h

theorem drain {d k : Nat} (hdk : d ≠ k) {ρ : Loc} (hρ : ρ[0]? = some (some (.obj 109 d))) : ∀ (n fuel T m : Nat) (hp : Hp) (bs : List UInt8), n < fuel → m / 8 = n → hp[d]? = some (.ns (W k T m)) → hp[k]? = some (.bytes bs) → bs.length + n ≤ lim →
    whileL (tCmp (oCmp fun a b => decide (a ≥ b)) (eAttr 109 "many" (eV 0)) (eC (.int 8))) (sCons (sExp (eBap (eAttr 109 "done" (eV 0)) (eBin (oInt pAnd) (eAttr 109 "held" (eV 0)) (eC (.int 255))))) (sCons (sSetA 109 "held" (eV 0) (eBin (oInt pShr) (eAttr 109 "held" (eV 0)) (eC (.int 8)))) (sCons (sSetA 109 "many" (eV 0) (eBin (oInt pSub) (eAttr 109 "many" (eV 0)) (eC (.int 8)))) sNil))) fuel ρ hp
      = some (.next, ρ, (hp.set d (.ns (W k (T / 256 ^ n : Nat) (m % 8 : Nat)))).set k (.bytes (bs ++ leB T n))) := by
  intro n
  induction n with
  | zero =>
    intro fuel T m hp bs hf hm hd hk hl
    obtain ⟨fuel, rfl⟩ : ∃ f, fuel = f + 1 := ⟨fuel - 1, by omega⟩
    have hm8 : m < 8 := by omega
    unfold whileL
    have ht : (tCmp (oCmp fun a b => decide (a ≥ b)) (eAttr 109 "many" (eV 0)) (eC (.int 8))) ρ hp = some (false, hp) := by
      simp only [tCmp, eAttr, eV, hρ, Option.bind_some, fieldOf, if_true, hd, W_many, Option.map_some, eC, oCmp]
      simp; omega
    rw [ht]
    simp only [Option.bind_some, Bool.false_eq_true, if_false, leB, List.append_nil, Nat.pow_zero, Nat.div_one]
    rw [Nat.mod_eq_of_lt hm8]
    have e1 : hp.set d (.ns (W k (T : Nat) (m : Nat))) = hp := by
      apply List.ext_getElem?
      intro i
      by_cases hi : d = i
      · subst hi; rw [set_get hd, hd]
      · rw [set_get' hi]
    rw [e1]
    have e2 : hp.set k (.bytes bs) = hp := by
      apply List.ext_getElem?
      intro i
      by_cases hi : k = i
      · subst hi; rw [set_get hk, hk]
      · rw [set_get' hi]
    rw [e2]
  | succ n ih =>
    intro fuel T m hp bs hf hm hd hk hl
    obtain ⟨fuel, rfl⟩ : ∃ f, fuel = f + 1 := ⟨fuel - 1, by omega⟩
    have hm8 : 8 ≤ m := by omega
    unfold whileL
    have ht : (tCmp (oCmp fun a b => decide (a ≥ b)) (eAttr 109 "many" (eV 0)) (eC (.int 8))) ρ hp = some (true, hp) := by
      simp only [tCmp, eAttr, eV, hρ, Option.bind_some, fieldOf, if_true, hd, W_many, Option.map_some, eC, oCmp]
      simp; omega
    rw [ht]
    simp only [Option.bind_some, if_true]
    have hand : Builtin.bitAnd (T : Int) 255 = ((T % 256 : Nat) : Int) := by rw [bitAnd_m8]; omega
    have hk' : ∀ x, (hp.set k x)[d]? = some (.ns (W k T m)) := fun x => by rw [set_get' (Ne.symm hdk)]; exact hd
    -- the body
    have hdl : d < hp.length := (List.getElem?_eq_some_iff.mp hd).1
    have hkl : k < hp.length := (List.getElem?_eq_some_iff.mp hk).1
    have hdk' : k ≠ d := Ne.symm hdk
    have hb : (sCons (sExp (eBap (eAttr 109 "done" (eV 0)) (eBin (oInt pAnd) (eAttr 109 "held" (eV 0)) (eC (.int 255))))) (sCons (sSetA 109 "held" (eV 0) (eBin (oInt pShr) (eAttr 109 "held" (eV 0)) (eC (.int 8)))) (sCons (sSetA 109 "many" (eV 0) (eBin (oInt pSub) (eAttr 109 "many" (eV 0)) (eC (.int 8)))) sNil))) ρ hp
        = some (.next, ρ, (hp.set k (.bytes (bs ++ [(T % 256).toUInt8]))).set d (.ns (W k (T / 256 : Nat) ((m - 8 : Nat) : Int)))) := by
      have hsh : pShr (T : Int) 8 = some ((T / 256 : Nat) : Int) := by
        unfold pShr
        rw [if_pos (by decide), Int.fdiv_eq_ediv_of_nonneg _ (by decide)]; rfl
      have hsub : pSub (m : Int) 8 = some ((m - 8 : Nat) : Int) := by unfold pSub; congr 1; omega
      have hand' : pAnd (T : Int) 255 = some ((T % 256 : Nat) : Int) := by unfold pAnd; rw [hand]
      have hb8 : ((T % 256 : Nat) : Int).toNat.toUInt8 = (T % 256).toUInt8 := by rw [Int.toNat_natCast]
      have hnn : (0 : Int) ≤ ((T % 256 : Nat) : Int) ∧ ((T % 256 : Nat) : Int) < 256 ∧ bs.length ≤ lim := by omega
      simp only [sCons, sExp, eBap, eAttr, eV, hρ, fieldOf, if_true, if_false, Option.bind_some, Option.map_some, hsh, hsub, hd, W_done, W_held, W_many, isBa, hk, eBin, eC, oInt, hand', hb8, oBap, hnn, sSetA, putField, W_put_held, W_put_many, W_len, sNil, set_get' hdk', set_get' hdk, set_get (hk' _), and_self, Nat.reduceLeDiff, List.set_set]
    rw [hb]
    simp only [Option.bind_some]
    have h1 : ((hp.set k (.bytes (bs ++ [(T % 256).toUInt8]))).set d (.ns (W k (T / 256 : Nat) ((m - 8 : Nat) : Int))))[d]? = some (.ns (W k (T / 256 : Nat) ((m - 8 : Nat) : Int))) := set_get (hk' _)
    have h2 : ((hp.set k (.bytes (bs ++ [(T % 256).toUInt8]))).set d (.ns (W k (T / 256 : Nat) ((m - 8 : Nat) : Int))))[k]? = some (.bytes (bs ++ [(T % 256).toUInt8])) := by rw [set_get' hdk, set_get hk]
    rw [ih fuel (T / 256) (m - 8) _ _ (by omega) (by omega) h1 h2 (by simp; omega)]
    rw [List.set_set, List.set_comm _ _ hdk', List.set_set, Nat.div_div_eq_div_mul, ← Nat.pow_succ', show (m - 8) % 8 = m % 8 by omega]
    simp [leB]

/-- the writer: T of the bits that are held, m how many; bs is done -/
theorem put_at {d k h m num many : Nat} {hp : Hp} {bs : List UInt8} (hdk : d ≠ k) (hd : hp[d]? = some (.ns (W k h m))) (hk : hp[k]? = some (.bytes bs)) (hh : h < 2 ^ m) (hm : m < 8) (hn : num < 2 ^ 40) (hmany : many ≤ 40) (hl : bs.length + 8 ≤ lim) :
    b_57 [.obj 109 d, .int num, .int many] hp = some (.none, (hp.set d (.ns (W k ((h + num * 2 ^ m) / 256 ^ ((m + many) / 8) : Nat) ((m + many) % 8 : Nat)))).set k (.bytes (bs ++ leB (h + num * 2 ^ m) ((m + many) / 8)))) := by
  have hdl : d < hp.length := (List.getElem?_eq_some_iff.mp hd).1
  have hor : pOr (h : Int) ((num * 2 ^ m : Nat) : Int) = some ((h + num * 2 ^ m : Nat) : Int) := by
    unfold pOr; rw [bitOr_nat, or_add hh]
  have hshl : pShl (num : Int) (m : Int) = some ((num * 2 ^ m : Nat) : Int) := by
    unfold pShl
    rw [if_pos (by refine ⟨by omega, by omega, ?_⟩; rw [Int.natAbs_natCast]; omega), Int.toNat_natCast]
    congr 1
  have h1 : (hp.set d (.ns (W k (h + num * 2 ^ m : Nat) m)))[d]? = some (.ns (W k (h + num * 2 ^ m : Nat) m)) := set_get hd
  have hadd : oAdd (.int m) (.int many) (hp.set d (.ns (W k (h + num * 2 ^ m : Nat) m))) = some (.int ((m + many : Nat) : Int), hp.set d (.ns (W k (h + num * 2 ^ m : Nat) m))) := by
    show some _ = some _
    congr 2
  have h2 : ((hp.set d (.ns (W k (h + num * 2 ^ m : Nat) m))).set d (.ns (W k (h + num * 2 ^ m : Nat) (m + many : Nat))))[d]? = some (.ns (W k (h + num * 2 ^ m : Nat) (m + many : Nat))) := set_get h1
  have h3 : ((hp.set d (.ns (W k (h + num * 2 ^ m : Nat) m))).set d (.ns (W k (h + num * 2 ^ m : Nat) (m + many : Nat))))[k]? = some (.bytes bs) := by rw [set_get' hdk, set_get' hdk, hk]
  have hD := drain hdk (ρ := [some (.obj 109 d), some (.int num), some (.int many)]) rfl ((m + many) / 8) 64 (h + num * 2 ^ m) (m + many) _ bs (by omega) rfl h2 h3 (by omega)
  unfold b_57 fnF f_57
  have hlen : ([V.obj 109 d, .int num, .int many] ++ []).length = [0, 1, 2].length := rfl
  rw [if_pos hlen]
  have hset : setAll [0, 1, 2] ([V.obj 109 d, .int num, .int many] ++ []) (List.replicate 3 none) = [some (.obj 109 d), some (.int num), some (.int many)] := rfl
  rw [hset]
  simp only [sCons, sSetA, eBin, eAttr, eV, List.getElem?_cons_zero, List.getElem?_cons_succ, Option.bind_some, Option.map_some, fieldOf, if_true, hd, W_held, W_many, oInt, hshl, hor, putField, W_len, W_put_held, W_put_many, Nat.reduceLeDiff, h1, hadd, hD, sNil]
  rw [List.set_set, List.set_set]
end Mine
end
section
open PySem PySem.W PyProof.Rows
set_option Elab.async false
set_option linter.unusedVariables false
set_option linter.unusedSimpArgs false
namespace Mine

theorem W_no {k h m} : List.lookup ("put" : Str) (W k h m) = none ∧ List.lookup ("put_code" : Str) (W k h m) = none ∧ List.lookup ("align" : Str) (W k h m) = none ∧ List.lookup ("octets" : Str) (W k h m) = none ∧ List.lookup ("size" : Str) (W k h m) = none := ⟨rfl, rfl, rfl, rfl, rfl⟩
theorem noField_W {d : Nat} {hp : Hp} {k : Nat} {h m : Int} {name : Str} (hd : hp[d]? = some (.ns (W k h m))) (hn : List.lookup name (W k h m) = none) : noField 109 name hp (.obj 109 d) = true := by
  simp only [noField, hd, hn]; rfl

noncomputable def revN (code : Nat) : Nat → Nat
  | 0 => 0
  | j + 1 => 2 * revN code j + code / 2 ^ j % 2
theorem revN_lt (code : Nat) : ∀ j, revN code j < 2 ^ j
  | 0 => by simp [revN]
  | j + 1 => by
    have := revN_lt code j
    have h2 : code / 2 ^ j % 2 < 2 := Nat.mod_lt _ (by decide)
    rw [revN, Nat.pow_succ]; omega

theorem items_range (m : Nat) (h : m ≤ 2 ^ 40) : itemsOf (.rng 0 m 1) = some (vInts m 0 1) := by
  have : Builtin.Range.rangeSize 0 m 1 = m := by
    unfold Builtin.Range.rangeSize
    rw [if_pos (by decide)]
    split <;> omega
  show (if (0 : Int) < 1 ∧ (1 : Int) ≤ 1000 ∧ (0 : Int).natAbs ≤ 2 ^ 40 ∧ (m : Int).natAbs ≤ 2 ^ 40 then some (vInts (Builtin.Range.rangeSize 0 m 1).toNat 0 1) else none) = _
  rw [this, if_pos ⟨by decide, by decide, by decide, by rw [Int.natAbs_natCast]; exact h⟩]
  simp
theorem bRange1 (b : Int) (hp : Hp) : bRange [.int b] hp = some (.rng 0 b 1, hp) := rfl

theorem code_loop {d code many : Nat} {hp : Hp} : ∀ (r j : Nat) (t : Option V), j + r ≤ 40 → ∃ t',
    forL (aVar 4) (sCons (sAsg (aVar 3) (eBin (oInt pOr) (eBin (oInt pShl) (eV 3) (eC (.int 1))) (eBin (oInt pAnd) (eBin (oInt pShr) (eV 1) (eV 4)) (eC (.int 1))))) sNil) (vInts r j 1)
      [some (.obj 109 d), some (.int code), some (.int many), some (.int (revN code j : Nat)), t, none] hp
      = some (.next, [some (.obj 109 d), some (.int code), some (.int many), some (.int (revN code (j + r) : Nat)), t', none], hp) := by
  intro r
  induction r with
  | zero => intro j t _; exact ⟨t, rfl⟩
  | succ r ih =>
    intro j t hj
    have hlt := revN_lt code j
    have hp2 : 2 ^ j < 2 ^ 41 := Nat.pow_lt_pow_right (by decide) (by omega)
    have h1 : pShl (revN code j : Nat) 1 = some ((revN code j * 2 ^ 1 : Nat) : Int) := by
      unfold pShl
      rw [if_pos ⟨by decide, by decide, by rw [Int.natAbs_natCast]; omega⟩]
      rfl
    have h2 : pShr (code : Int) (j : Int) = some ((code / 2 ^ j : Nat) : Int) := by
      unfold pShr
      rw [if_pos (by omega), Int.toNat_natCast, Int.fdiv_eq_ediv_of_nonneg _ (by exact_mod_cast Nat.zero_le _)]
      norm_cast
    have h3 : pAnd ((code / 2 ^ j : Nat) : Int) 1 = some ((code / 2 ^ j % 2 : Nat) : Int) := by
      unfold pAnd; rw [bitAnd_m1]; norm_cast
    have h4 : pOr ((revN code j * 2 ^ 1 : Nat) : Int) ((code / 2 ^ j % 2 : Nat) : Int) = some ((revN code (j + 1) : Nat) : Int) := by
      unfold pOr
      rw [bitOr_nat, Nat.or_comm, or_add (x := code / 2 ^ j % 2) (y := revN code j) (i := 1) (by omega), revN]
      congr 2; omega
    obtain ⟨t', ht⟩ := ih (j + 1) (some (.int j)) (by omega)
    refine ⟨t', ?_⟩
    rw [vInts_succ]
    have hjc : ((j : Int) + 1) = ((j + 1 : Nat) : Int) := by norm_cast
    simp only [forL, aVar, List.set_cons_succ, List.set_cons_zero, Option.bind_some, sCons, sAsg, eBin, eV, eC, List.getElem?_cons_succ, List.getElem?_cons_zero, oInt, h1, h2, h3, h4, Option.map_some, sNil, hjc, ht]
    rw [show j + 1 + r = j + (r + 1) by omega]

theorem put_code_at {d k h m code many : Nat} {hp : Hp} {bs : List UInt8} (hdk : d ≠ k) (hd : hp[d]? = some (.ns (W k h m))) (hk : hp[k]? = some (.bytes bs)) (hh : h < 2 ^ m) (hm : m < 8) (hmany : many ≤ 40) (hl : bs.length + 8 ≤ lim) :
    b_64 [.obj 109 d, .int code, .int many] hp = some (.none, (hp.set d (.ns (W k ((h + revN code many * 2 ^ m) / 256 ^ ((m + many) / 8) : Nat) ((m + many) % 8 : Nat)))).set k (.bytes (bs ++ leB (h + revN code many * 2 ^ m) ((m + many) / 8)))) := by
  unfold b_64 fnF f_64
  have hlen : ([V.obj 109 d, .int code, .int many] ++ []).length = [0, 1, 2].length := rfl
  rw [if_pos hlen]
  have hset : setAll [0, 1, 2] ([V.obj 109 d, .int code, .int many] ++ []) (List.replicate 6 none) = [some (.obj 109 d), some (.int code), some (.int many), none, none, none] := rfl
  rw [hset]
  obtain ⟨t', ht⟩ := code_loop (d := d) (code := code) (many := many) (hp := hp) many 0 none (by omega)
  rw [Nat.zero_add] at ht
  have hr := items_range many (by omega)
  have hlt := revN_lt code many
  have hp2 : 2 ^ many ≤ 2 ^ 40 := Nat.pow_le_pow_right (by decide) hmany
  have hput := put_at (num := revN code many) (many := many) hdk hd hk hh hm (by omega) hmany hl
  have hno := noField_W hd W_no.1
  simp only [sCons, sAsg, aVar, eC, Option.bind_some, Option.map_some, List.set_cons_succ, List.set_cons_zero, sFor, eCall, evL, eV, List.getElem?_cons_succ, List.getElem?_cons_zero, bRange1, hr]
  have ht' : forL (aVar 4) (sCons (sAsg (aVar 3) (eBin (oInt pOr) (eBin (oInt pShl) (eV 3) (eC (.int 1))) (eBin (oInt pAnd) (eBin (oInt pShr) (eV 1) (eV 4)) (eC (.int 1))))) sNil) (vInts many 0 1)
      [some (.obj 109 d), some (.int code), some (.int many), some (.int 0), none, none] hp = _ := ht
  rw [ht']
  simp only [Option.bind_some, sExp, eMeth, eV, List.getElem?_cons_zero, List.getElem?_cons_succ, hno, if_true, evL, hput, Option.map_some, sNil]
end Mine
end
section
open PySem PySem.W PyProof.Rows
set_option Elab.async false
set_option linter.unusedVariables false
set_option linter.unusedSimpArgs false
namespace Mine

/-! the writer: N is the value of all bits, L how many these are -/
theorem leB_add : ∀ (a b N : Nat), leB N (a + b) = leB N a ++ leB (N / 256 ^ a) b
  | 0, b, N => by simp [leB]
  | a + 1, b, N => by
    rw [show a + 1 + b = (a + b) + 1 by omega, leB, leB, leB_add a b, List.cons_append, Nat.div_div_eq_div_mul, ← Nat.pow_succ']
theorem leB_mod : ∀ (a N X : Nat), leB (N + X * 256 ^ a) a = leB N a
  | 0, N, X => rfl
  | a + 1, N, X => by
    rw [leB, leB]
    have h1 : (N + X * 256 ^ (a + 1)) % 256 = N % 256 := by rw [Nat.pow_succ, ← Nat.mul_assoc, Nat.add_mul_mod_self_right]
    have h2 : (N + X * 256 ^ (a + 1)) / 256 = N / 256 + X * 256 ^ a := by rw [Nat.pow_succ, ← Nat.mul_assoc, Nat.add_mul_div_right _ _ (by decide)]
    rw [h1, h2, leB_mod a]
structure Wr (hp : Hp) (d k N L : Nat) : Prop where
  ne : d ≠ k
  ns : hp[d]? = some (.ns (W k (N / 256 ^ (L / 8) : Nat) (L % 8 : Nat)))
  byt : hp[k]? = some (.bytes (leB N (L / 8)))
  lt : N < 2 ^ L
/-- all else is as it was -/
noncomputable def Else (d k : Nat) (hp hp' : Hp) : Prop := hp'.length = hp.length ∧ ∀ i, i ≠ d → i ≠ k → hp'[i]? = hp[i]?
theorem Else.refl {d k : Nat} {hp : Hp} : Else d k hp hp := ⟨rfl, fun _ _ _ => rfl⟩
theorem Else.trans {d k : Nat} {a b c : Hp} (h : Else d k a b) (h' : Else d k b c) : Else d k a c := ⟨h'.1.trans h.1, fun i x y => (h'.2 i x y).trans (h.2 i x y)⟩

theorem p256 (L : Nat) : 2 ^ L = 256 ^ (L / 8) * 2 ^ (L % 8) := by
  rw [show (256 : Nat) = 2 ^ 8 from rfl, ← Nat.pow_mul, ← Nat.pow_add, Nat.div_add_mod]
theorem Wr.step {hp : Hp} {d k N L num many : Nat} (w : Wr hp d k N L) (hn : num < 2 ^ many) :
    let h := N / 256 ^ (L / 8); let m := L % 8
    h < 2 ^ m ∧ Wr ((hp.set d (.ns (W k ((h + num * 2 ^ m) / 256 ^ ((m + many) / 8) : Nat) ((m + many) % 8 : Nat)))).set k (.bytes (leB N (L / 8) ++ leB (h + num * 2 ^ m) ((m + many) / 8)))) d k (N + num * 2 ^ L) (L + many) := by
  intro h m
  have e := p256 L
  have hlt : h < 2 ^ m := by
    have := w.lt
    rw [e] at this
    exact Nat.div_lt_of_lt_mul this
  have eT : (N + num * 2 ^ L) / 256 ^ (L / 8) = h + num * 2 ^ m := by
    rw [e, show num * (256 ^ (L / 8) * 2 ^ (L % 8)) = num * 2 ^ (L % 8) * 256 ^ (L / 8) by rw [Nat.mul_comm (256 ^ _), Nat.mul_assoc], Nat.add_mul_div_right _ _ (Nat.pow_pos (by decide))]
  have eL : (L + many) / 8 = L / 8 + (m + many) / 8 := by show _ = L / 8 + (L % 8 + many) / 8; omega
  have em : (L + many) % 8 = (m + many) % 8 := by show _ = (L % 8 + many) % 8; omega
  refine ⟨hlt, w.ne, ?_, ?_, ?_⟩
  · rw [set_get' (Ne.symm w.ne), set_get w.ns, eL, em, Nat.pow_add, ← Nat.div_div_eq_div_mul, eT]
  · have : (hp.set d (.ns (W k ((h + num * 2 ^ m) / 256 ^ ((m + many) / 8) : Nat) ((m + many) % 8 : Nat))))[k]? = some (.bytes (leB N (L / 8))) := by rw [set_get' w.ne, w.byt]
    rw [set_get this, eL, leB_add, eT]
    congr 3
    have := leB_mod (L / 8) N (num * 2 ^ m)
    rw [← this]
    congr 2
    rw [e]
    rw [Nat.mul_comm (256 ^ _), Nat.mul_assoc]
  · have h1 := w.lt
    have h2 : (num + 1) * 2 ^ L ≤ 2 ^ many * 2 ^ L := Nat.mul_le_mul_right _ hn
    rw [Nat.pow_add, Nat.mul_comm (2 ^ L)]
    rw [Nat.add_mul] at h2
    omega
theorem Else.two {d k : Nat} {hp : Hp} {a b : O} : Else d k hp ((hp.set d a).set k b) := ⟨by simp, fun i h1 h2 => by rw [set_get' (Ne.symm h2), set_get' (Ne.symm h1)]⟩
theorem Wr.put {hp : Hp} {d k N L num many : Nat} (w : Wr hp d k N L) (hn : num < 2 ^ many) (hm : many ≤ 40) (hL : L ≤ 100000) :
    ∃ hp', b_57 [.obj 109 d, .int num, .int many] hp = some (.none, hp') ∧ Wr hp' d k (N + num * 2 ^ L) (L + many) ∧ Else d k hp hp' := by
  obtain ⟨h1, h2⟩ := w.step hn
  have hp2 : 2 ^ many ≤ 2 ^ 40 := Nat.pow_le_pow_right (by decide) hm
  refine ⟨_, put_at w.ne w.ns w.byt h1 (Nat.mod_lt _ (by decide)) (by omega) hm (by rw [leB_len]; have : lim = 1000000 := rfl; omega), h2, .two⟩
theorem Wr.putCode {hp : Hp} {d k N L code many : Nat} (w : Wr hp d k N L) (hm : many ≤ 40) (hL : L ≤ 100000) :
    ∃ hp', b_64 [.obj 109 d, .int code, .int many] hp = some (.none, hp') ∧ Wr hp' d k (N + revN code many * 2 ^ L) (L + many) ∧ Else d k hp hp' := by
  obtain ⟨h1, h2⟩ := w.step (revN_lt code many)
  refine ⟨_, put_code_at w.ne w.ns w.byt h1 (Nat.mod_lt _ (by decide)) hm (by rw [leB_len]; have : lim = 1000000 := rfl; omega), h2, .two⟩
theorem Wr.size {hp : Hp} {d k N L : Nat} (w : Wr hp d k N L) (hL : L ≤ 100000) : b_85 [.obj 109 d] hp = some (.int L, hp) := by
  have hl : (leB N (L / 8)).length ≤ lim := by rw [leB_len]; have : lim = 1000000 := rfl; omega
  have h1 : pMul 8 (((leB N (L / 8)).length : Nat) : Int) = some ((8 * (L / 8) : Nat) : Int) := by
    unfold pMul
    rw [if_pos (by decide), leB_len]; norm_cast
  have h2 : oAdd (.int ((8 * (L / 8) : Nat) : Int)) (.int ((L % 8 : Nat) : Int)) hp = some (.int L, hp) := by
    show some _ = some _
    congr 3
    norm_cast
    omega
  have hlen : bLenB [.ref k] hp = some (.int (leB N (L / 8)).length, hp) := by
    show (match hp[k]? with | some (.bytes bs) => if bs.length ≤ lim then some (V.int bs.length, hp) else none | _ => none) = _
    rw [w.byt]
    show (if _ then _ else _) = _
    rw [if_pos hl]
  unfold b_85 fnF f_85
  have hlen' : ([V.obj 109 d] ++ []).length = [0].length := rfl
  rw [if_pos hlen']
  have hset : setAll [0] ([V.obj 109 d] ++ []) (List.replicate 2 none) = [some (.obj 109 d), none] := rfl
  rw [hset]
  simp only [sCons, sRet, eBin, eC, eCall, evL, eAttr, eV, List.getElem?_cons_zero, Option.bind_some, Option.map_some, fieldOf, if_true, w.ns, W_done, W_many, hlen, oInt, h1, h2]
theorem Wr.octets {hp : Hp} {d k N L : Nat} (w : Wr hp d k N L) (hL : L ≤ 100000) : ∃ hp', b_106 [.obj 109 d] hp = some (.byt (leB N ((L + 7) / 8)), hp') := by
  -- align
  have hal : ∃ hp', b_71 [.obj 109 d] hp = some (.none, hp') ∧ ∃ L', Wr hp' d k N L' ∧ L' / 8 = (L + 7) / 8 ∧ L' ≤ L + 8 := by
    unfold b_71 fnF f_71
    have hlen' : ([V.obj 109 d] ++ []).length = [0].length := rfl
    rw [if_pos hlen']
    have hset : setAll [0] ([V.obj 109 d] ++ []) (List.replicate 1 none) = [some (.obj 109 d)] := rfl
    rw [hset]
    by_cases hm : L % 8 = 0
    · refine ⟨hp, ?_, L, w, by omega, by omega⟩
      have ht : decide ((((L % 8 : Nat) : Int)) > 0) = false := by rw [hm]; rfl
      simp only [sCons, sIf, tCmp, eAttr, eV, List.getElem?_cons_zero, Option.bind_some, Option.map_some, fieldOf, if_true, w.ns, W_many, eC, oCmp, ht, Bool.false_eq_true, if_false, sNil]
    · have hs : pSub 8 ((L % 8 : Nat) : Int) = some ((8 - L % 8 : Nat) : Int) := by unfold pSub; congr 1; omega
      obtain ⟨hp', e1, e2, _⟩ := w.put (num := 0) (many := 8 - L % 8) (Nat.pow_pos (by decide)) (by omega) hL
      have ht : decide ((((L % 8 : Nat) : Int)) > 0) = true := by simp; omega
      have hno := noField_W w.ns W_no.1
      rw [Nat.zero_mul, Nat.add_zero] at e2
      refine ⟨hp', ?_, L + (8 - L % 8), e2, by omega, by omega⟩
      have e1' : b_57 [.obj 109 d, .int 0, .int ((8 - L % 8 : Nat) : Int)] hp = some (.none, hp') := e1
      simp only [sCons, sIf, tCmp, eAttr, eV, List.getElem?_cons_zero, Option.bind_some, Option.map_some, fieldOf, if_true, w.ns, W_many, eC, oCmp, ht, sNil, sExp, eMeth, hno, evL, eBin, oInt, hs, e1']
  obtain ⟨hp', e1, L', w', e2, e3⟩ := hal
  refine ⟨hp', ?_⟩
  have hno := noField_W w.ns W_no.2.2.1
  have hl : (leB N (L' / 8)).length ≤ lim := by rw [leB_len]; have : lim = 1000000 := rfl; omega
  have hby : bBytes [.ref k] hp' = some (.byt (leB N (L' / 8)), hp') := by
    show (match hp'[k]? with | some (.bytes bs) => if bs.length ≤ lim then some (V.byt bs, hp') else none | _ => none) = _
    rw [w'.byt]
    show (if _ then _ else _) = _
    rw [if_pos hl]
  unfold b_106 fnF f_106
  have hlen' : ([V.obj 109 d] ++ []).length = [0].length := rfl
  rw [if_pos hlen']
  have hset : setAll [0] ([V.obj 109 d] ++ []) (List.replicate 2 none) = [some (.obj 109 d), none] := rfl
  rw [hset]
  simp only [sCons, sExp, eMeth, eV, List.getElem?_cons_zero, Option.bind_some, hno, if_true, evL, e1, Option.map_some, sRet, eCall, eAttr, fieldOf, w'.ns, W_done, hby, e2]
end Mine
end
section
open PySem PySem.W PyProof.Rows
set_option Elab.async false
set_option linter.unusedVariables false
set_option linter.unusedSimpArgs false
namespace Mine

noncomputable def tv (p : Nat × Nat) : V := .tup [.int p.1, .int p.2]
noncomputable def tabV (tab : List (Nat × Nat)) : V := .lst (tab.map tv)
theorem idx_lst {xs : List V} {k : Nat} {hp : Hp} (h : k < 2 ^ 62) : oIdx (.lst xs) (.int k) hp = xs[k]? := by
  show (if (k : Int) = -1 then xs.getLast? else nth xs k) = _
  rw [if_neg (by omega)]
  unfold nth
  rw [if_pos ⟨by omega, by exact_mod_cast h⟩, Int.toNat_natCast]
theorem idx_tup {xs : List V} {k : Nat} {hp : Hp} (h : k < 2 ^ 62) : oIdx (.tup xs) (.int k) hp = xs[k]? := by
  show nth xs k = _
  unfold nth
  rw [if_pos ⟨by omega, by exact_mod_cast h⟩, Int.toNat_natCast]
theorem idx_tup0 {a : V} {r : List V} {hp : Hp} : oIdx (.tup (a :: r)) (.int 0) hp = some a := (idx_tup (k := 0) (by decide)).trans (by simp)
theorem idx_tup1 {a b : V} {r : List V} {hp : Hp} : oIdx (.tup (a :: b :: r)) (.int 1) hp = some b := (idx_tup (k := 1) (by decide)).trans (by simp)
theorem idx_tab {tab : List (Nat × Nat)} {i : Nat} {p : Nat × Nat} {hp : Hp} (h : tab[i]? = some p) (hl : i < 2 ^ 62) : oIdx (tabV tab) (.int i) hp = some (tv p) := by
  have h1 : (tab.map tv)[i]? = some (tv p) := by rw [List.getElem?_map, h]; exact rfl
  exact (idx_lst (xs := tab.map tv) hl).trans h1


theorem while_t {t : TF} {b : SF} {k : Nat} {ρ ρ' : Loc} {hp hp' hp1 : Hp} (h : t ρ hp = some (true, hp1)) (hb : b ρ hp1 = some (.next, ρ', hp')) : whileL t b (k + 1) ρ hp = whileL t b k ρ' hp' := by
  rw [whileL, h, Option.bind_some, if_pos rfl, hb, Option.bind_some]
theorem while_f {t : TF} {b : SF} {k : Nat} {ρ : Loc} {hp hp1 : Hp} (h : t ρ hp = some (false, hp1)) : whileL t b (k + 1) ρ hp = some (.next, ρ, hp1) := by
  rw [whileL, h, Option.bind_some]; rfl
theorem idx_tv0 {p : Nat × Nat} {hp : Hp} : oIdx (tv p) (.int 0) hp = some (.int p.1) := idx_tup0
theorem eIdx_at {f g : EF} {ρ : Loc} {hp hp1 hp2 : Hp} {a b v : V} (h1 : f ρ hp = some (a, hp1)) (h2 : g ρ hp1 = some (b, hp2)) (h3 : oIdx a b hp2 = some v) : eIdx f g ρ hp = some (v, hp2) := by
  unfold eIdx
  rw [h1, Option.bind_some, h2, Option.bind_some, h3, Option.map_some]
section
variable {tab : List (Nat × Nat)} {x low high mid : Nat} {hp : Hp} {t : Option V}
theorem rl_b1 (hadd : ∀ hp, oAdd (.int (low : Int)) (.int (high : Int)) hp = some (.int ((low + high : Nat) : Int), hp)) (hdiv : pDiv ((low + high : Nat) : Int) 2 = some (((low + high) / 2 : Nat) : Int)) :
   (sAsg (aVar 4) (eBin (oInt pDiv) (eBin (oAdd) (eV 2) (eV 3)) (eC (.int 2)))) [some (tabV tab), some (.int x), some (.int low), some (.int high), t, none] hp = some (.next, [some (tabV tab), some (.int x), some (.int low), some (.int high), some (.int ((low + high) / 2 : Nat)), none], hp) := by
  simp only [eBin, eV, eC, List.getElem?_cons_zero, List.getElem?_cons_succ, Option.bind_some, Option.map_some, oInt, sAsg, aVar, hadd, hdiv, List.set_cons_succ, List.set_cons_zero]
theorem rl_b2 {p : Nat × Nat} (hidx : ∀ hp, oIdx (tabV tab) (.int (mid : Int)) hp = some (tv p)) :
   (eIdx (eIdx (eV 0) (eV 4)) (eC (.int 0))) [some (tabV tab), some (.int x), some (.int low), some (.int high), some (.int mid), none] hp = some (.int p.1, hp) := by
  exact eIdx_at (eIdx_at rfl rfl (hidx _)) rfl idx_tv0
theorem rl_b3 {p : Nat × Nat} (hidx : ∀ hp, oIdx (tabV tab) (.int (mid : Int)) hp = some (tv p)) {b : Bool} (hd : decide ((p.1 : Int) ≤ (x : Int)) = b) :
   (tCmp (oCmp fun a b => decide (a ≤ b)) (eIdx (eIdx (eV 0) (eV 4)) (eC (.int 0))) (eV 1)) [some (tabV tab), some (.int x), some (.int low), some (.int high), some (.int mid), none] hp = some (b, hp) := by
  simp only [tCmp, rl_b2 hidx, eV, List.getElem?_cons_zero, List.getElem?_cons_succ, Option.bind_some, Option.map_some, oCmp, hd]
end
theorem range_loop {tab : List (Nat × Nat)} {x : Nat} {hp : Hp} (hlen : tab.length ≤ 60) : ∀ (fuel low high : Nat) (t : Option V), high - low < fuel → low < high → high ≤ tab.length → (∃ p, tab[low]? = some p ∧ p.1 ≤ x) → (∀ p, tab[high]? = some p → x < p.1) →
    ∃ i hi t', (∃ p, tab[i]? = some p ∧ p.1 ≤ x) ∧ (∀ p, tab[i + 1]? = some p → x < p.1) ∧
      whileL (tCmp (oCmp fun a b => decide (a > b)) (eBin (oInt pSub) (eV 3) (eV 2)) (eC (.int 1))) (sCons (sAsg (aVar 4) (eBin (oInt pDiv) (eBin (oAdd) (eV 2) (eV 3)) (eC (.int 2)))) (sCons (sIf (tCmp (oCmp fun a b => decide (a ≤ b)) (eIdx (eIdx (eV 0) (eV 4)) (eC (.int 0))) (eV 1)) (sCons (sAsg (aVar 2) (eV 4)) sNil) (sCons (sAsg (aVar 3) (eV 4)) sNil)) sNil)) fuel
        [some (tabV tab), some (.int x), some (.int low), some (.int high), t, none] hp = some (.next, [some (tabV tab), some (.int x), some (.int (i : Nat)), some (.int hi), t', none], hp) := by
  intro fuel
  induction fuel with
  | zero => intro low high t h; omega
  | succ fuel ih =>
    intro low high t hf hlt hle hlow hhigh
    have hs : pSub (high : Int) (low : Int) = some ((high - low : Nat) : Int) := by unfold pSub; congr 1; omega
    by_cases hgo : high - low > 1
    · have ht : decide (((high - low : Nat) : Int) > 1) = true := by simp; omega
      have htest : (tCmp (oCmp fun a b => decide (a > b)) (eBin (oInt pSub) (eV 3) (eV 2)) (eC (.int 1))) [some (tabV tab), some (.int x), some (.int low), some (.int high), t, none] hp = some (true, hp) := by
        simp only [tCmp, eBin, eV, eC, List.getElem?_cons_zero, List.getElem?_cons_succ, Option.bind_some, Option.map_some, oInt, hs, oCmp, ht]
      have hadd : ∀ hp, oAdd (.int (low : Int)) (.int (high : Int)) hp = some (.int ((low + high : Nat) : Int), hp) := fun hp => by
        show some _ = some _
        congr 3
      have hdiv : pDiv ((low + high : Nat) : Int) 2 = some (((low + high) / 2 : Nat) : Int) := by
        unfold pDiv
        rw [if_pos (by decide), Int.fdiv_eq_ediv_of_nonneg _ (by decide)]
        norm_cast
      have hmid : (low + high) / 2 < tab.length := by omega
      have hget : tab[(low + high) / 2]? = some tab[(low + high) / 2] := List.getElem?_eq_getElem hmid
      have hidx : ∀ hp, oIdx (tabV tab) (.int (((low + high) / 2 : Nat) : Int)) hp = some (tv tab[(low + high) / 2]) := fun hp => idx_tab hget (Nat.lt_of_lt_of_le hmid (Nat.le_trans hlen (by decide)))
      by_cases hc : tab[(low + high) / 2].1 ≤ x
      · have hd : decide ((tab[(low + high) / 2].1 : Int) ≤ (x : Int)) = true := by simp; omega
        obtain ⟨i, hi, t', a, b, e⟩ := ih ((low + high) / 2) high (some (.int ((low + high) / 2 : Nat))) (by omega) (by omega) hle ⟨_, hget, hc⟩ hhigh
        refine ⟨i, hi, t', a, b, (while_t htest ?_).trans e⟩
        rw [sCons, rl_b1 hadd hdiv, Option.bind_some, sCons, sIf, rl_b3 hidx hd]
        rfl
      · have hd : decide ((tab[(low + high) / 2].1 : Int) ≤ (x : Int)) = false := by simp; omega
        obtain ⟨i, hi, t', a, b, e⟩ := ih low ((low + high) / 2) (some (.int ((low + high) / 2 : Nat))) (by omega) (by omega) (by omega) hlow (fun p hp => by rw [hget] at hp; cases hp; omega)
        refine ⟨i, hi, t', a, b, (while_t htest ?_).trans e⟩
        rw [sCons, rl_b1 hadd hdiv, Option.bind_some, sCons, sIf, rl_b3 hidx hd]
        rfl
    · have ht : decide (((high - low : Nat) : Int) > 1) = false := by simp; omega
      have hh : high = low + 1 := by omega
      have htest : (tCmp (oCmp fun a b => decide (a > b)) (eBin (oInt pSub) (eV 3) (eV 2)) (eC (.int 1))) [some (tabV tab), some (.int x), some (.int low), some (.int high), t, none] hp = some (false, hp) := by
        simp only [tCmp, eBin, eV, eC, List.getElem?_cons_zero, List.getElem?_cons_succ, Option.bind_some, Option.map_some, oInt, hs, oCmp, ht]
      exact ⟨low, high, t, hlow, fun p hp => hhigh p (by rw [hh]; exact hp), while_f htest⟩
theorem range_at {tab : List (Nat × Nat)} {x : Nat} {hp : Hp} (hlen : tab.length ≤ 60) (h0 : ∃ p, tab[0]? = some p ∧ p.1 ≤ x) :
    ∃ i : Nat, (∃ p, tab[i]? = some p ∧ p.1 ≤ x) ∧ (∀ p, tab[i + 1]? = some p → x < p.1) ∧ b_120 [tabV tab, .int x] hp = some (.int i, hp) := by
  have hpos : 0 < tab.length := by obtain ⟨p, h, _⟩ := h0; exact (List.getElem?_eq_some_iff.mp h).1
  obtain ⟨i, hi, t', a, b, e⟩ := range_loop (tab := tab) (x := x) (hp := hp) hlen 64 0 tab.length none (by omega) hpos (Nat.le_refl _) h0 (fun p h => by rw [List.getElem?_eq_none (Nat.le_refl _)] at h; cases h)
  refine ⟨i, a, b, ?_⟩
  have hl : bLen [tabV tab] hp = some (.int (tab.length : Nat), hp) := by
    show ((some (tab.map tv)).bind fun xs => if xs.length ≤ lim then some (V.int xs.length, hp) else none) = _
    rw [Option.bind_some, List.length_map, if_pos (by have : lim = 1000000 := rfl; omega)]
  unfold b_120 fnF f_120
  have hlen' : ([tabV tab, V.int x] ++ []).length = [0, 1].length := rfl
  rw [if_pos hlen']
  have hset : setAll [0, 1] ([tabV tab, V.int x] ++ []) (List.replicate 6 none) = [some (tabV tab), some (.int x), none, none, none, none] := rfl
  rw [hset]
  have e' : whileL _ _ 64 [some (tabV tab), some (V.int x), some (V.int 0), some (.int (tab.length : Nat)), none, none] hp = _ := e
  simp only [sCons, sAsg, aVar, eC, Option.bind_some, Option.map_some, List.set_cons_succ, List.set_cons_zero, eCall, evL, eV, List.getElem?_cons_zero, List.getElem?_cons_succ, hl]
  rw [e']
  simp only [Option.bind_some, sRet, eV, List.getElem?_cons_zero, List.getElem?_cons_succ, Option.map_some]
end Mine
end
section
open PySem PySem.W PyProof.Rows
set_option Elab.async false
set_option linter.unusedVariables false
set_option linter.unusedSimpArgs false
namespace Mine

noncomputable def lenTab : List (Nat × Nat) := [(3, 0), (4, 0), (5, 0), (6, 0), (7, 0), (8, 0), (9, 0), (10, 0), (11, 1), (13, 1), (15, 1), (17, 1), (19, 2), (23, 2), (27, 2), (31, 2), (35, 3), (43, 3), (51, 3), (59, 3), (67, 4), (83, 4), (99, 4), (115, 4), (131, 5), (163, 5), (195, 5), (227, 5), (258, 0)]
noncomputable def distTab : List (Nat × Nat) := [(1, 0), (2, 0), (3, 0), (4, 0), (5, 1), (7, 1), (9, 2), (13, 2), (17, 3), (25, 3), (33, 4), (49, 4), (65, 5), (97, 5), (129, 6), (193, 6), (257, 7), (385, 7), (513, 8), (769, 8), (1025, 9), (1537, 9), (2049, 10), (3073, 10), (4097, 11), (6145, 11), (8193, 12), (12289, 12), (16385, 13), (24577, 13)]
noncomputable def TF' : List (Str × V) := [("length_ranges", tabV lenTab), ("distance_ranges", tabV distTab)]
noncomputable def rowsV : Nat → List (Nat × Nat) → List V
  | _, [] => []
  | s, p :: r => .tup [.int s, .int p.1, .int p.2] :: rowsV (s + 1) r
noncomputable def asc (tab : List (Nat × Nat)) : Prop := tab.Pairwise fun a b => a.1 < b.1
theorem asc_len : asc lenTab := by unfold asc; decide
theorem asc_dist : asc distTab := by unfold asc; decide

theorem idx_last {xs : List V} {hp : Hp} : oIdx (.lst xs) (.int (-1)) hp = xs.getLast? := by simp only [oIdx, if_true]
/-- the row that x falls in -/
structure At (tab : List (Nat × Nat)) (x i : Nat) (p : Nat × Nat) : Prop where
  get : tab[i]? = some p
  le : p.1 ≤ x
  next : ∀ q, tab[i + 1]? = some q → x < q.1

theorem rowsV_app : ∀ (a b : List (Nat × Nat)) (s : Nat), rowsV s (a ++ b) = rowsV s a ++ rowsV (s + a.length) b
  | [], b, s => by simp [rowsV]
  | p :: a, b, s => by rw [List.cons_append, rowsV, rowsV, rowsV_app a, List.cons_append, List.length_cons, show s + 1 + a.length = s + (a.length + 1) by omega]
theorem At.split {tab : List (Nat × Nat)} {x i : Nat} {p : Nat × Nat} (h : At tab x i p) (ha : asc tab) : ∃ pre post, tab = pre ++ p :: post ∧ pre.length = i ∧ (∀ q ∈ pre, q.1 ≤ x) ∧ ∀ q ∈ post, x < q.1 := by
  have hi := (List.getElem?_eq_some_iff.mp h.get).1
  have hp : tab[i] = p := (List.getElem?_eq_some_iff.mp h.get).2
  have e : tab = tab.take i ++ p :: tab.drop (i + 1) := by
    rw [← hp, ← List.drop_eq_getElem_cons hi, List.take_append_drop]
  have ha' := ha
  unfold asc at ha'
  rw [e, List.pairwise_append, List.pairwise_cons] at ha'
  refine ⟨tab.take i, tab.drop (i + 1), e, by rw [List.length_take]; omega, fun q hq => ?_, fun q hq => ?_⟩
  · have := ha'.2.2 q hq p (.head _)
    have := h.le
    omega
  · obtain ⟨j, hj⟩ := List.getElem?_of_mem hq
    cases hd : tab[i + 1]? with
    | none =>
      have : tab.drop (i + 1) = [] := List.drop_eq_nil_of_le (List.getElem?_eq_none_iff.mp hd)
      rw [this] at hq; cases hq
    | some r =>
      have h1 := h.next r hd
      have h2 : (tab.drop (i + 1))[0]? = some r := by rw [List.getElem?_drop]; exact hd
      cases j with
      | zero => rw [h2] at hj; cases hj; exact h1
      | succ j =>
        have hpw : (tab.drop (i + 1)).Pairwise fun a b => a.1 < b.1 := ha'.2.1.2
        rw [List.pairwise_iff_getElem] at hpw
        have l1 := (List.getElem?_eq_some_iff.mp hj).1
        have e1 := (List.getElem?_eq_some_iff.mp hj).2
        have l0 := (List.getElem?_eq_some_iff.mp h2).1
        have e0 := (List.getElem?_eq_some_iff.mp h2).2
        have := hpw 0 (j + 1) l0 l1 (by omega)
        rw [e0, e1] at this
        omega

noncomputable def toldT : TF := tCmp (oCmp fun a b => decide (a ≤ b)) (eIdx (eV 1) (eC (.int 1))) (eV 2)
theorem told_test {s : Nat} {p : Nat × Nat} {x : Nat} {hp : Hp} {b : Bool} (h : decide ((p.1 : Int) ≤ (x : Int)) = b) : toldT [none, some (.tup [.int s, .int p.1, .int p.2]), some (.int x)] hp = some (b, hp) := by
  have h1 : (eIdx (eV 1) (eC (.int 1))) [none, some (.tup [.int s, .int p.1, .int p.2]), some (.int x)] hp = some (.int p.1, hp) := eIdx_at rfl rfl idx_tup1
  unfold toldT tCmp
  rw [h1, Option.bind_some]
  have h2 : (eV 2) [none, some (V.tup [.int s, .int p.1, .int p.2]), some (.int x)] hp = some (.int x, hp) := rfl
  rw [h2, Option.bind_some]
  show some (decide ((p.1 : Int) ≤ (x : Int)), hp) = _
  rw [h]
theorem comp_pre {x : Nat} {hp : Hp} {rest : List V} : ∀ (l : List (Nat × Nat)) (s : Nat), (∀ q ∈ l, q.1 ≤ x) →
    compL (some toldT) (eV 1) 1 (rowsV s l ++ rest) [none, none, some (.int x)] hp = (compL (some toldT) (eV 1) 1 rest [none, none, some (.int x)] hp).map fun q => (rowsV s l ++ q.1, q.2)
  | [], s, _ => by simp [rowsV]
  | p :: l, s, h => by
    have hd : decide ((p.1 : Int) ≤ (x : Int)) = true := by have := h p (.head _); simp; omega
    rw [rowsV, List.cons_append, compL]
    have h1 : ([none, none, some (V.int x)] : Loc).set 1 (some (.tup [.int s, .int p.1, .int p.2])) = [none, some (.tup [.int s, .int p.1, .int p.2]), some (.int x)] := rfl
    rw [h1]
    rw [told_test hd, Option.bind_some, if_pos rfl]
    have h2 : (eV 1) [none, some (V.tup [.int s, .int p.1, .int p.2]), some (.int x)] hp = some (.tup [.int s, .int p.1, .int p.2], hp) := rfl
    rw [h2, Option.bind_some, comp_pre l (s + 1) (fun q hq => h q (.tail _ hq)), Option.map_map]
    rfl
theorem comp_post' {x : Nat} {hp : Hp} : ∀ (l : List (Nat × Nat)) (s : Nat), (∀ q ∈ l, x < q.1) → compL (some toldT) (eV 1) 1 (rowsV s l) [none, none, some (.int x)] hp = some ([], hp)
  | [], s, _ => rfl
  | p :: l, s, h => by
    have hd : decide ((p.1 : Int) ≤ (x : Int)) = false := by have := h p (.head _); simp; omega
    rw [rowsV, compL]
    have h1 : ([none, none, some (V.int x)] : Loc).set 1 (some (.tup [.int s, .int p.1, .int p.2])) = [none, some (.tup [.int s, .int p.1, .int p.2]), some (.int x)] := rfl
    rw [h1]
    rw [told_test hd, Option.bind_some]
    exact comp_post' l (s + 1) fun q hq => h q (.tail _ hq)
theorem told_at {tab : List (Nat × Nat)} {x i s : Nat} {p : Nat × Nat} {hp : Hp} (h : At tab x i p) (ha : asc tab) (hl : tab.length ≤ 60) :
    b_195 [.lst (rowsV s tab), .int x] hp = some (.tup [.int (s + i : Nat), .int (x - p.1 : Nat), .int p.2], hp) := by
  obtain ⟨pre, post, rfl, rfl, h1, h2⟩ := h.split ha
  have hc : compL (some toldT) (eV 1) 1 (rowsV s (pre ++ p :: post)) [none, none, some (.int x)] hp = some (rowsV s pre ++ [.tup [.int (s + pre.length : Nat), .int p.1, .int p.2]], hp) := by
    rw [rowsV_app, comp_pre pre s h1]
    have e : p :: post = [p] ++ post := rfl
    rw [e, rowsV_app, comp_pre [p] _ (fun q hq => by rw [List.mem_singleton.mp hq]; exact h.le), comp_post' post _ h2]
    rfl
  have hlen : (rowsV s (pre ++ p :: post)).length ≤ lim := by
    have : ∀ (l : List (Nat × Nat)) s, (rowsV s l).length = l.length := fun l => by
      induction l with
      | nil => intro s; rfl
      | cons p l ih => intro s; rw [rowsV, List.length_cons, ih, List.length_cons]
    rw [this]
    exact Nat.le_trans hl (by decide)
  have hcomp : ∀ r2 r3 r4, (eComp (eV 0) [none, none, some 1] (some toldT) (eV 1) 1) [some (.lst (rowsV s (pre ++ p :: post))), some (.int x), r2, r3, r4] hp = some (.lst (rowsV s pre ++ [.tup [.int (s + pre.length : Nat), .int p.1, .int p.2]]), hp) := fun r2 r3 r4 => by
    unfold eComp
    have e1 : (eV 0) [some (V.lst (rowsV s (pre ++ p :: post))), some (.int x), r2, r3, r4] hp = some (.lst (rowsV s (pre ++ p :: post)), hp) := rfl
    have e2 : mkLoc [none, none, some 1] [some (V.lst (rowsV s (pre ++ p :: post))), some (.int x), r2, r3, r4] = [none, none, some (.int x)] := rfl
    rw [e1, Option.bind_some]
    show ((some (rowsV s (pre ++ p :: post))).bind _) = _
    rw [Option.bind_some, e2, hc, Option.bind_some, if_pos hlen]
  have hneg : ∀ ρ, (eUn oNeg (eC (.int 1))) ρ hp = some (.int (-1), hp) := fun _ => rfl
  have hlast : oIdx (.lst (rowsV s pre ++ [.tup [.int (s + pre.length : Nat), .int p.1, .int p.2]])) (.int (-1)) hp = some (.tup [.int (s + pre.length : Nat), .int p.1, .int p.2]) := by
    rw [idx_last, List.getLast?_append]; rfl
  have hsub : pSub (x : Int) (p.1 : Int) = some ((x - p.1 : Nat) : Int) := by unfold pSub; have := h.le; congr 1; omega
  unfold b_195 fnF f_195
  have hlen' : ([V.lst (rowsV s (pre ++ p :: post)), V.int x] ++ []).length = [0, 1].length := rfl
  rw [if_pos hlen']
  have hset : setAll [0, 1] ([V.lst (rowsV s (pre ++ p :: post)), V.int x] ++ []) (List.replicate 5 none) = [some (.lst (rowsV s (pre ++ p :: post))), some (.int x), none, none, none] := rfl
  rw [hset]
  have hasg : (sAsg (aTup [2, 3, 4]) (eIdx (eComp (eV 0) [none, none, some 1] (some toldT) (eV 1) 1) (eUn oNeg (eC (.int 1))))) [some (.lst (rowsV s (pre ++ p :: post))), some (.int x), none, none, none] hp
      = some (.next, [some (.lst (rowsV s (pre ++ p :: post))), some (.int x), some (.int (s + pre.length : Nat)), some (.int p.1), some (.int p.2)], hp) := by
    unfold sAsg
    rw [eIdx_at (hcomp none none none) (hneg _) hlast]
    rfl
  unfold toldT at hasg
  rw [sCons, hasg, Option.bind_some]
  have hl3 : (3 : Nat) ≤ lim := by decide
  simp only [sCons, sRet, eTup, evL, eV, eBin, List.getElem?_cons_zero, List.getElem?_cons_succ, Option.bind_some, Option.map_some, oInt, hsub, List.length_cons, List.length_nil, Nat.zero_add, Nat.reduceAdd, hl3, if_true]
end Mine
end
section
open PySem PySem.W PyProof.Rows
set_option Elab.async false
set_option linter.unusedVariables false
set_option linter.unusedSimpArgs false
namespace Mine

theorem At.uniq {tab : List (Nat × Nat)} {x i j : Nat} {p q : Nat × Nat} (ha : asc tab) (h : At tab x i p) (h' : At tab x j q) : i = j := by
  have key : ∀ {i j : Nat} {p q : Nat × Nat}, At tab x i p → At tab x j q → ¬ i < j := fun {i j p q} h h' hlt => by
    have hj := (List.getElem?_eq_some_iff.mp h'.get).1
    have hi1 : i + 1 < tab.length := by omega
    have h1 := h.next _ (List.getElem?_eq_getElem hi1)
    have h2 := h'.le
    have e2 : tab[j] = q := (List.getElem?_eq_some_iff.mp h'.get).2
    have ha' := ha
    unfold asc at ha'
    rw [List.pairwise_iff_getElem] at ha'
    by_cases hj1 : i + 1 = j
    · subst hj1
      have e3 : tab[i + 1] = q := e2
      rw [e3] at h1; omega
    · have := ha' (i + 1) j hi1 hj (by omega)
      rw [e2] at this; omega
  exact Nat.le_antisymm (Nat.not_lt.mp (key h' h)) (Nat.not_lt.mp (key h h'))
/-- the search finds the row -/
theorem search_at {tab : List (Nat × Nat)} {x : Nat} (hlen : tab.length ≤ 60) (h0 : ∃ p, tab[0]? = some p ∧ p.1 ≤ x) : ∃ i p, At tab x i p ∧ i < 60 ∧ ∀ hp, asc tab → b_120 [tabV tab, .int x] hp = some (.int i, hp) := by
  obtain ⟨i, ⟨p, h1, h2⟩, h3, h4⟩ := range_at (tab := tab) (x := x) (hp := []) hlen h0
  have hA : At tab x i p := ⟨h1, h2, h3⟩
  refine ⟨i, p, hA, by have := (List.getElem?_eq_some_iff.mp h1).1; omega, fun hp ha => ?_⟩
  obtain ⟨j, ⟨q, g1, g2⟩, g3, g4⟩ := range_at (tab := tab) (x := x) (hp := hp) hlen h0
  rw [hA.uniq ha ⟨g1, g2, g3⟩]; exact g4

theorem TF_len : List.lookup ("length_ranges" : Str) TF' = some (tabV lenTab) := rfl
theorem TF_dist : List.lookup ("distance_ranges" : Str) TF' = some (tabV distTab) := rfl
theorem sign_len {x i : Nat} {p : Nat × Nat} {hp : Hp} (ht : hp[0]? = some (.ns TF')) (h : At lenTab x i p) (hi : i < 60) (hs : b_120 [tabV lenTab, .int x] hp = some (.int i, hp)) :
    b_148 [.obj 172 0, .int x] hp = some (.tup [.int (257 + i : Nat), .int (x - p.1 : Nat), .int p.2], hp) := by
  have hi62 : i < 2 ^ 62 := Nat.lt_of_lt_of_le hi (by decide)
  have hsub : pSub (x : Int) (p.1 : Int) = some ((x - p.1 : Nat) : Int) := by unfold pSub; have := h.le; congr 1; omega
  have hadd : oAdd (.int 257) (.int (i : Int)) hp = some (.int ((257 + i : Nat) : Int), hp) := by
    show some _ = some _
    congr 3
  unfold b_148 fnF f_148
  have hlen' : ([V.obj 172 0, V.int x] ++ []).length = [0, 1].length := rfl
  rw [if_pos hlen']
  have hset : setAll [0, 1] ([V.obj 172 0, V.int x] ++ []) (List.replicate 7 none) = [some (.obj 172 0), some (.int x), none, none, none, none, none] := rfl
  rw [hset]
  have hat : ∀ r2 r3 r4 r5 r6, (eAttr 172 "length_ranges" (eV 0)) [some (.obj 172 0), some (.int x), r2, r3, r4, r5, r6] hp = some (tabV lenTab, hp) := fun r2 r3 r4 r5 r6 => by
    simp only [eAttr, eV, List.getElem?_cons_zero, Option.bind_some, fieldOf, if_true, ht, TF_len, Option.map_some]
  have h1 : (sAsg (aVar 2) (eCall b_120 [(eAttr 172 "length_ranges" (eV 0)), (eV 1)])) [some (.obj 172 0), some (.int x), none, none, none, none, none] hp = some (.next, [some (.obj 172 0), some (.int x), some (.int i), none, none, none, none], hp) := by
    have e1 : (eV 1) [some (V.obj 172 0), some (.int x), none, none, none, none, none] hp = some (.int x, hp) := rfl
    simp only [sAsg, eCall, evL, hat, Option.bind_some, e1, hs, aVar, Option.map_some, List.set_cons_succ, List.set_cons_zero]
  rw [sCons, h1, Option.bind_some]
  have h2 : (sAsg (aTup [3, 4]) (eIdx (eAttr 172 "length_ranges" (eV 0)) (eV 2))) [some (.obj 172 0), some (.int x), some (.int i), none, none, none, none] hp = some (.next, [some (.obj 172 0), some (.int x), some (.int i), some (.int p.1), some (.int p.2), none, none], hp) := by
    have e1 : (eV 2) [some (V.obj 172 0), some (.int x), some (.int i), none, none, none, none] hp = some (.int i, hp) := rfl
    unfold sAsg
    rw [eIdx_at (hat _ _ _ _ _) e1 (idx_tab h.get hi62)]
    rfl
  dsimp only
  rw [sCons, h2, Option.bind_some]
  have hl3 : (3 : Nat) ≤ lim := by decide
  simp only [sCons, sRet, eTup, evL, eV, eC, eBin, List.getElem?_cons_zero, List.getElem?_cons_succ, Option.bind_some, Option.map_some, oInt, hsub, hadd, List.length_cons, List.length_nil, Nat.zero_add, Nat.reduceAdd, hl3, if_true]
theorem sign_dist {x i : Nat} {p : Nat × Nat} {hp : Hp} (ht : hp[0]? = some (.ns TF')) (h : At distTab x i p) (hi : i < 60) (hs : b_120 [tabV distTab, .int x] hp = some (.int i, hp)) :
    b_155 [.obj 172 0, .int x] hp = some (.tup [.int (i : Nat), .int (x - p.1 : Nat), .int p.2], hp) := by
  have hi62 : i < 2 ^ 62 := Nat.lt_of_lt_of_le hi (by decide)
  have hsub : pSub (x : Int) (p.1 : Int) = some ((x - p.1 : Nat) : Int) := by unfold pSub; have := h.le; congr 1; omega
  unfold b_155 fnF f_155
  have hlen' : ([V.obj 172 0, V.int x] ++ []).length = [0, 1].length := rfl
  rw [if_pos hlen']
  have hset : setAll [0, 1] ([V.obj 172 0, V.int x] ++ []) (List.replicate 6 none) = [some (.obj 172 0), some (.int x), none, none, none, none] := rfl
  rw [hset]
  have hat : ∀ r2 r3 r4 r5, (eAttr 172 "distance_ranges" (eV 0)) [some (.obj 172 0), some (.int x), r2, r3, r4, r5] hp = some (tabV distTab, hp) := fun r2 r3 r4 r5 => by
    simp only [eAttr, eV, List.getElem?_cons_zero, Option.bind_some, fieldOf, if_true, ht, TF_dist, Option.map_some]
  have h1 : (sAsg (aVar 2) (eCall b_120 [(eAttr 172 "distance_ranges" (eV 0)), (eV 1)])) [some (.obj 172 0), some (.int x), none, none, none, none] hp = some (.next, [some (.obj 172 0), some (.int x), some (.int i), none, none, none], hp) := by
    have e1 : (eV 1) [some (V.obj 172 0), some (.int x), none, none, none, none] hp = some (.int x, hp) := rfl
    simp only [sAsg, eCall, evL, hat, Option.bind_some, e1, hs, aVar, Option.map_some, List.set_cons_succ, List.set_cons_zero]
  rw [sCons, h1, Option.bind_some]
  have h2 : (sAsg (aTup [3, 4]) (eIdx (eAttr 172 "distance_ranges" (eV 0)) (eV 2))) [some (.obj 172 0), some (.int x), some (.int i), none, none, none] hp = some (.next, [some (.obj 172 0), some (.int x), some (.int i), some (.int p.1), some (.int p.2), none], hp) := by
    have e1 : (eV 2) [some (V.obj 172 0), some (.int x), some (.int i), none, none, none] hp = some (.int i, hp) := rfl
    unfold sAsg
    rw [eIdx_at (hat _ _ _ _) e1 (idx_tab h.get hi62)]
    rfl
  dsimp only
  rw [sCons, h2, Option.bind_some]
  have hl3 : (3 : Nat) ≤ lim := by decide
  simp only [sCons, sRet, eTup, evL, eV, eC, eBin, List.getElem?_cons_zero, List.getElem?_cons_succ, Option.bind_some, Option.map_some, oInt, hsub, List.length_cons, List.length_nil, Nat.zero_add, Nat.reduceAdd, hl3, if_true]
end Mine
end
section
open PySem PySem.W PyProof.Rows
set_option Elab.async false
set_option linter.unusedVariables false
set_option linter.unusedSimpArgs false
set_option maxRecDepth 100000
namespace Mine
theorem tool_at (ρ : Loc) : (eCall (bNew 172 b_141) []) ρ [] = some (.obj 172 0, [.ns TF', .dead, .dead]) := by kernel_rfl
noncomputable def accRows : List V := (rowsV 257 lenTab).take 28
theorem rows_len (hp : Hp) (ρ : Loc) : (eCall b_183 []) ρ [.ns TF', .dead, .dead] = some (.lst (rowsV 257 lenTab), [.ns TF', .dead, .dead, .acc accRows]) := by kernel_rfl
theorem rows_dist (ρ : Loc) : (eCall b_190 []) ρ [.ns TF', .dead, .dead, .acc accRows] = some (.lst (rowsV 0 distTab), [.ns TF', .dead, .dead, .acc accRows, .dead]) := by kernel_rfl
end Mine
end
section
open PySem PySem.W PyProof.Rows
set_option Elab.async false
set_option linter.unusedVariables false
set_option linter.unusedSimpArgs false
namespace Mine

inductive Tok where
  | lit (a : Nat) | pair (l b : Nat)
noncomputable def Tok.v : Tok → V
  | .lit a => .tup [.int a]
  | .pair l b => .tup [.int l, .int b]
noncomputable def Tok.ok : Tok → Prop
  | .lit a => a < 256
  | .pair l b => 3 ≤ l ∧ l ≤ 258 ∧ 1 ≤ b ∧ b ≤ 32768

theorem pMod_nat (a b : Nat) (h : 0 < b ∧ b < 1073741824) : pMod (a : Int) (b : Int) = some ((a % b : Nat) : Int) := by
  unfold pMod
  rw [if_pos ⟨by omega, by rw [Int.natAbs_natCast]; exact h.2⟩, Int.fmod_eq_emod_of_nonneg _ (by omega)]
  norm_cast
theorem pDiv_nat (a b : Nat) (h : 0 < b ∧ b < 1073741824) : pDiv (a : Int) (b : Int) = some ((a / b : Nat) : Int) := by
  unfold pDiv
  rw [if_pos ⟨by omega, by rw [Int.natAbs_natCast]; exact h.2⟩, Int.fdiv_eq_ediv_of_nonneg _ (by omega)]
  norm_cast

theorem eBin_at {o : V → V → Hp → Option (V × Hp)} {f g : EF} {ρ : Loc} {hp hp1 hp2 hp3 : Hp} {a b v : V} (h1 : f ρ hp = some (a, hp1)) (h2 : g ρ hp1 = some (b, hp2)) (h3 : o a b hp2 = some (v, hp3)) : eBin o f g ρ hp = some (v, hp3) := by
  unfold eBin
  rw [h1, Option.bind_some, h2, Option.bind_some, h3]
theorem oInt_at {p : Int → Int → Option Int} {a b r : Int} {hp : Hp} (h : p a b = some r) : oInt p (.int a) (.int b) hp = some (.int r, hp) := by
  show (p a b).map _ = _
  rw [h]; rfl
theorem tCmp_at {o : V → V → Hp → Option Bool} {f g : EF} {ρ : Loc} {hp hp1 hp2 : Hp} {a b : V} {t : Bool} (h1 : f ρ hp = some (a, hp1)) (h2 : g ρ hp1 = some (b, hp2)) (h3 : o a b hp2 = some t) : tCmp o f g ρ hp = some (t, hp2) := by
  unfold tCmp
  rw [h1, Option.bind_some, h2, Option.bind_some, h3]; rfl
theorem eIf_t {t : TF} {f g : EF} {ρ : Loc} {hp hp1 : Hp} (h : t ρ hp = some (true, hp1)) : eIf t f g ρ hp = f ρ hp1 := by unfold eIf; rw [h]; rfl
theorem eIf_f {t : TF} {f g : EF} {ρ : Loc} {hp hp1 : Hp} (h : t ρ hp = some (false, hp1)) : eIf t f g ρ hp = g ρ hp1 := by unfold eIf; rw [h]; rfl
theorem sIf_t {t : TF} {f g : SF} {ρ : Loc} {hp hp1 : Hp} (h : t ρ hp = some (true, hp1)) : sIf t f g ρ hp = f ρ hp1 := by unfold sIf; rw [h]; rfl
theorem sIf_f {t : TF} {f g : SF} {ρ : Loc} {hp hp1 : Hp} (h : t ρ hp = some (false, hp1)) : sIf t f g ρ hp = g ρ hp1 := by unfold sIf; rw [h]; rfl
theorem sCons_n {f g : SF} {ρ ρ1 : Loc} {hp hp1 : Hp} (h : f ρ hp = some (.next, ρ1, hp1)) : sCons f g ρ hp = g ρ1 hp1 := by unfold sCons; rw [h]; rfl
theorem sCons_r {f g : SF} {ρ ρ1 : Loc} {hp hp1 : Hp} {v : V} (h : f ρ hp = some (.ret v, ρ1, hp1)) : sCons f g ρ hp = some (.ret v, ρ1, hp1) := by unfold sCons; rw [h]; rfl
theorem sAsg_v {i : Nat} {f : EF} {ρ : Loc} {hp hp1 : Hp} {v : V} (h : f ρ hp = some (v, hp1)) : sAsg (aVar i) f ρ hp = some (.next, ρ.set i (some v), hp1) := by unfold sAsg; rw [h]; rfl
theorem sRet_v {f : EF} {ρ : Loc} {hp hp1 : Hp} {v : V} (h : f ρ hp = some (v, hp1)) : sRet f ρ hp = some (.ret v, ρ, hp1) := by unfold sRet; rw [h]; rfl
theorem sExp_v {f : EF} {ρ : Loc} {hp hp1 : Hp} {v : V} (h : f ρ hp = some (v, hp1)) : sExp f ρ hp = some (.next, ρ, hp1) := by unfold sExp; rw [h]; rfl
theorem add_nat (a b : Nat) (hp : Hp) : oAdd (.int (a : Int)) (.int (b : Int)) hp = some (.int ((a + b : Nat) : Int), hp) := by
  show some _ = some _
  congr 3

theorem evL_c {f : EF} {fs : List EF} {ρ : Loc} {hp hp1 hp2 : Hp} {v : V} {vs : List V} (h : f ρ hp = some (v, hp1)) (h2 : evL fs ρ hp1 = some (vs, hp2)) : evL (f :: fs) ρ hp = some (v :: vs, hp2) := by
  rw [evL, h, Option.bind_some, h2, Option.bind_some]
theorem eTup_at {fs : List EF} {ρ : Loc} {hp hp1 : Hp} {vs : List V} (h : evL fs ρ hp = some (vs, hp1)) (hl : vs.length ≤ lim) : eTup fs ρ hp = some (.tup vs, hp1) := by
  unfold eTup; rw [h, Option.bind_some, if_pos hl]
theorem eCall_at {g : BF} {fs : List EF} {ρ : Loc} {hp hp1 : Hp} {vs : List V} {r : Option (V × Hp)} (h : evL fs ρ hp = some (vs, hp1)) (hg : g vs hp1 = r) : eCall g fs ρ hp = r := by
  unfold eCall; rw [h, Option.bind_some, hg]
theorem add3 (m : Nat) (hp : Hp) : oAdd (.int 3) (.int (m : Int)) hp = some (.int ((3 + m : Nat) : Int), hp) := by
  show some _ = some _
  congr 3
theorem add1 (m : Nat) (hp : Hp) : oAdd (.int 1) (.int (m : Int)) hp = some (.int ((1 + m : Nat) : Int), hp) := by
  show some _ = some _
  congr 3
theorem ends_at (k : Nat) (hk : k < 8) (hp : Hp) : ∃ l, 3 ≤ l ∧ l ≤ 258 ∧ oIdx (.lst [.int 3, .int 10, .int 11, .int 12, .int 257, .int 258, .int 130, .int 131]) (.int k) hp = some (.int (l : Nat)) := by
  rw [idx_lst (Nat.lt_of_lt_of_le hk (by decide))]
  match k, hk with
  | 0, _ => exact ⟨3, by decide, by decide, rfl⟩
  | 1, _ => exact ⟨10, by decide, by decide, rfl⟩
  | 2, _ => exact ⟨11, by decide, by decide, rfl⟩
  | 3, _ => exact ⟨12, by decide, by decide, rfl⟩
  | 4, _ => exact ⟨257, by decide, by decide, rfl⟩
  | 5, _ => exact ⟨258, by decide, by decide, rfl⟩
  | 6, _ => exact ⟨130, by decide, by decide, rfl⟩
  | 7, _ => exact ⟨131, by decide, by decide, rfl⟩
theorem steps_at (k : Nat) (hk : k < 8) (hp : Hp) : ∃ l, 1 ≤ l ∧ l ≤ 32768 ∧ oIdx (.lst [.int 1, .int 4, .int 5, .int 6, .int 7, .int 24576, .int 24577, .int 32768]) (.int k) hp = some (.int (l : Nat)) := by
  rw [idx_lst (Nat.lt_of_lt_of_le hk (by decide))]
  match k, hk with
  | 0, _ => exact ⟨1, by decide, by decide, rfl⟩
  | 1, _ => exact ⟨4, by decide, by decide, rfl⟩
  | 2, _ => exact ⟨5, by decide, by decide, rfl⟩
  | 3, _ => exact ⟨6, by decide, by decide, rfl⟩
  | 4, _ => exact ⟨7, by decide, by decide, rfl⟩
  | 5, _ => exact ⟨24576, by decide, by decide, rfl⟩
  | 6, _ => exact ⟨24577, by decide, by decide, rfl⟩
  | 7, _ => exact ⟨32768, by decide, by decide, rfl⟩

theorem token_at (near far : Nat) (hp : Hp) : ∃ tok : Tok, tok.ok ∧ b_202 [.int near, .int far] hp = some (tok.v, hp) := by
  unfold b_202 fnF f_202
  have hlen' : ([V.int near, V.int far] ++ []).length = [0, 1].length := rfl
  rw [if_pos hlen']
  have hset : setAll [0, 1] ([V.int near, V.int far] ++ []) (List.replicate 6 none) = [some (.int near), some (.int far), none, none, none, none] := rfl
  rw [hset]
  have m4 : ∀ ρ : Loc, ρ[0]? = some (some (.int near)) → (eBin (oInt pMod) (eV 0) (eC (.int 4))) ρ hp = some (.int (near % 4 : Nat), hp) := fun ρ h => eBin_at (by simp only [eV, h]) rfl (oInt_at (pMod_nat near 4 (by decide)))
  have d4 : ∀ ρ : Loc, ρ[0]? = some (some (.int near)) → (eBin (oInt pDiv) (eV 0) (eC (.int 4))) ρ hp = some (.int (near / 4 : Nat), hp) := fun ρ h => eBin_at (by simp only [eV, h]) rfl (oInt_at (pDiv_nat near 4 (by decide)))
  have d256 : ∀ ρ : Loc, ρ[0]? = some (some (.int near)) → (eBin (oInt pMod) (eBin (oInt pDiv) (eV 0) (eC (.int 4))) (eC (.int 256))) ρ hp = some (.int (near / 4 % 256 : Nat), hp) := fun ρ h => eBin_at (d4 ρ h) rfl (oInt_at (pMod_nat _ 256 (by decide)))
  have d8 : ∀ ρ : Loc, ρ[0]? = some (some (.int near)) → (eBin (oInt pMod) (eBin (oInt pDiv) (eV 0) (eC (.int 4))) (eC (.int 8))) ρ hp = some (.int (near / 4 % 8 : Nat), hp) := fun ρ h => eBin_at (d4 ρ h) rfl (oInt_at (pMod_nat _ 8 (by decide)))
  have m8 : ∀ ρ : Loc, ρ[0]? = some (some (.int near)) → (eBin (oInt pMod) (eV 0) (eC (.int 8))) ρ hp = some (.int (near % 8 : Nat), hp) := fun ρ h => eBin_at (by simp only [eV, h]) rfl (oInt_at (pMod_nat near 8 (by decide)))
  have f2 : ∀ ρ : Loc, ρ[1]? = some (some (.int far)) → (eBin (oInt pDiv) (eV 1) (eC (.int 2))) ρ hp = some (.int (far / 2 : Nat), hp) := fun ρ h => eBin_at (by simp only [eV, h]) rfl (oInt_at (pDiv_nat far 2 (by decide)))
  have fm : ∀ ρ : Loc, ρ[1]? = some (some (.int far)) → (eBin (oInt pMod) (eV 1) (eC (.int 2))) ρ hp = some (.int (far % 2 : Nat), hp) := fun ρ h => eBin_at (by simp only [eV, h]) rfl (oInt_at (pMod_nat far 2 (by decide)))
  have f8 : ∀ ρ : Loc, ρ[1]? = some (some (.int far)) → (eBin (oInt pMod) (eBin (oInt pDiv) (eV 1) (eC (.int 2))) (eC (.int 8))) ρ hp = some (.int (far / 2 % 8 : Nat), hp) := fun ρ h => eBin_at (f2 ρ h) rfl (oInt_at (pMod_nat _ 8 (by decide)))
  have f32 : ∀ ρ : Loc, ρ[1]? = some (some (.int far)) → (eBin (oInt pMod) (eBin (oInt pDiv) (eV 1) (eC (.int 2))) (eC (.int 32768))) ρ hp = some (.int (far / 2 % 32768 : Nat), hp) := fun ρ h => eBin_at (f2 ρ h) rfl (oInt_at (pMod_nat _ 32768 (by decide)))
  by_cases h4 : near % 4 < 2
  · have ht : (tCmp (oCmp fun a b => decide (a < b)) (eBin (oInt pMod) (eV 0) (eC (.int 4))) (eC (.int 2))) [some (.int near), some (.int far), none, none, none, none] hp = some (true, hp) :=
      tCmp_at (m4 _ rfl) rfl (by show some (decide _) = _; congr 1; simp; omega)
    have hv : (eTup [(eBin (oInt pMod) (eBin (oInt pDiv) (eV 0) (eC (.int 4))) (eC (.int 256)))]) [some (.int near), some (.int far), none, none, none, none] hp = some (.tup [.int (near / 4 % 256 : Nat)], hp) :=
      eTup_at (evL_c (d256 _ rfl) rfl) (Nat.le_of_ble_eq_true rfl)
    refine ⟨.lit (near / 4 % 256), Nat.mod_lt _ (by decide), ?_⟩
    rw [sCons_r ((sIf_t ht).trans (sCons_r (sRet_v hv)))]
    rfl
  · have ht : (tCmp (oCmp fun a b => decide (a < b)) (eBin (oInt pMod) (eV 0) (eC (.int 4))) (eC (.int 2))) [some (.int near), some (.int far), none, none, none, none] hp = some (false, hp) :=
      tCmp_at (m4 _ rfl) rfl (by show some (decide _) = _; congr 1; simp; omega)
    have hlen : ∀ r2 r3, ∃ l : Nat, 3 ≤ l ∧ l ≤ 258 ∧ (eIf (tCmp (oCmp fun a b => decide (a > b)) (eBin (oInt pMod) (eV 0) (eC (.int 8))) (eC (.int 5))) (eIdx (eV 2) (eBin (oInt pMod) (eBin (oInt pDiv) (eV 0) (eC (.int 4))) (eC (.int 8)))) (eBin (oAdd) (eC (.int 3)) (eBin (oInt pMod) (eBin (oInt pDiv) (eV 0) (eC (.int 4))) (eC (.int 256)))))
        [some (.int near), some (.int far), some (.lst [.int 3, .int 10, .int 11, .int 12, .int 257, .int 258, .int 130, .int 131]), r2, r3, none] hp = some (.int l, hp) := fun r2 r3 => by
      by_cases h8 : near % 8 > 5
      · obtain ⟨l, l1, l2, e⟩ := ends_at (near / 4 % 8) (Nat.mod_lt _ (by decide)) hp
        have hgt : decide (((near % 8 : Nat) : Int) > 5) = true := decide_eq_true (by omega)
        have hT : (tCmp (oCmp fun a b => decide (a > b)) (eBin (oInt pMod) (eV 0) (eC (.int 8))) (eC (.int 5))) [some (.int near), some (.int far), some (.lst [.int 3, .int 10, .int 11, .int 12, .int 257, .int 258, .int 130, .int 131]), r2, r3, none] hp = some (true, hp) := tCmp_at (m8 _ rfl) rfl (congrArg some hgt)
        have hB : (eIdx (eV 2) (eBin (oInt pMod) (eBin (oInt pDiv) (eV 0) (eC (.int 4))) (eC (.int 8)))) [some (.int near), some (.int far), some (.lst [.int 3, .int 10, .int 11, .int 12, .int 257, .int 258, .int 130, .int 131]), r2, r3, none] hp = some (.int l, hp) := eIdx_at rfl (d8 _ rfl) e
        exact ⟨l, l1, l2, (eIf_t hT).trans hB⟩
      · have hlt : near / 4 % 256 < 256 := Nat.mod_lt _ (by decide)
        have hT : (tCmp (oCmp fun a b => decide (a > b)) (eBin (oInt pMod) (eV 0) (eC (.int 8))) (eC (.int 5))) [some (.int near), some (.int far), some (.lst [.int 3, .int 10, .int 11, .int 12, .int 257, .int 258, .int 130, .int 131]), r2, r3, none] hp = some (false, hp) := tCmp_at (m8 _ rfl) rfl (congrArg some (decide_eq_false (by omega)))
        have hB : (eBin (oAdd) (eC (.int 3)) (eBin (oInt pMod) (eBin (oInt pDiv) (eV 0) (eC (.int 4))) (eC (.int 256)))) [some (.int near), some (.int far), some (.lst [.int 3, .int 10, .int 11, .int 12, .int 257, .int 258, .int 130, .int 131]), r2, r3, none] hp = some (.int ((3 + near / 4 % 256 : Nat) : Int), hp) := eBin_at rfl (d256 _ rfl) (add3 _ hp)
        exact ⟨3 + near / 4 % 256, Nat.le_add_right _ _, by omega, (eIf_f hT).trans hB⟩
    have hback : ∀ r2 r4, ∃ b : Nat, 1 ≤ b ∧ b ≤ 32768 ∧ (eIf (tCmp (oCmp fun a b => a == b) (eBin (oInt pMod) (eV 1) (eC (.int 2))) (eC (.int 1))) (eIdx (eV 3) (eBin (oInt pMod) (eBin (oInt pDiv) (eV 1) (eC (.int 2))) (eC (.int 8)))) (eBin (oAdd) (eC (.int 1)) (eBin (oInt pMod) (eBin (oInt pDiv) (eV 1) (eC (.int 2))) (eC (.int 32768)))))
        [some (.int near), some (.int far), r2, some (.lst [.int 1, .int 4, .int 5, .int 6, .int 7, .int 24576, .int 24577, .int 32768]), r4, none] hp = some (.int b, hp) := fun r2 r4 => by
      by_cases h8 : far % 2 = 1
      · obtain ⟨l, l1, l2, e⟩ := steps_at (far / 2 % 8) (Nat.mod_lt _ (by decide)) hp
        have hT : (tCmp (oCmp fun a b => a == b) (eBin (oInt pMod) (eV 1) (eC (.int 2))) (eC (.int 1))) [some (.int near), some (.int far), r2, some (.lst [.int 1, .int 4, .int 5, .int 6, .int 7, .int 24576, .int 24577, .int 32768]), r4, none] hp = some (true, hp) := tCmp_at (fm _ rfl) rfl (show some (_ == _) = some true by rw [h8]; rfl)
        have hB : (eIdx (eV 3) (eBin (oInt pMod) (eBin (oInt pDiv) (eV 1) (eC (.int 2))) (eC (.int 8)))) [some (.int near), some (.int far), r2, some (.lst [.int 1, .int 4, .int 5, .int 6, .int 7, .int 24576, .int 24577, .int 32768]), r4, none] hp = some (.int l, hp) := eIdx_at rfl (f8 _ rfl) e
        exact ⟨l, l1, l2, (eIf_t hT).trans hB⟩
      · have h0 : far % 2 = 0 := by omega
        have hlt : far / 2 % 32768 < 32768 := Nat.mod_lt _ (by decide)
        have hT : (tCmp (oCmp fun a b => a == b) (eBin (oInt pMod) (eV 1) (eC (.int 2))) (eC (.int 1))) [some (.int near), some (.int far), r2, some (.lst [.int 1, .int 4, .int 5, .int 6, .int 7, .int 24576, .int 24577, .int 32768]), r4, none] hp = some (false, hp) := tCmp_at (fm _ rfl) rfl (show some (_ == _) = some false by rw [h0]; rfl)
        have hB : (eBin (oAdd) (eC (.int 1)) (eBin (oInt pMod) (eBin (oInt pDiv) (eV 1) (eC (.int 2))) (eC (.int 32768)))) [some (.int near), some (.int far), r2, some (.lst [.int 1, .int 4, .int 5, .int 6, .int 7, .int 24576, .int 24577, .int 32768]), r4, none] hp = some (.int ((1 + far / 2 % 32768 : Nat) : Int), hp) := eBin_at rfl (f32 _ rfl) (add1 _ hp)
        exact ⟨1 + far / 2 % 32768, Nat.le_add_right _ _, by omega, (eIf_f hT).trans hB⟩
    obtain ⟨l, l1, l2, el⟩ := hlen (some (.lst [.int 1, .int 4, .int 5, .int 6, .int 7, .int 24576, .int 24577, .int 32768])) none
    obtain ⟨b, b1, b2, eb⟩ := hback (some (.lst [.int 3, .int 10, .int 11, .int 12, .int 257, .int 258, .int 130, .int 131])) (some (.int l))
    refine ⟨.pair l b, ⟨l1, l2, b1, b2⟩, ?_⟩
    have e1 : (eLst [(eC (.int 3)), (eC (.int 10)), (eC (.int 11)), (eC (.int 12)), (eC (.int 257)), (eC (.int 258)), (eC (.int 130)), (eC (.int 131))]) [some (.int near), some (.int far), none, none, none, none] hp = some (.lst [.int 3, .int 10, .int 11, .int 12, .int 257, .int 258, .int 130, .int 131], hp) := rfl
    have e2 : ∀ r, (eLst [(eC (.int 1)), (eC (.int 4)), (eC (.int 5)), (eC (.int 6)), (eC (.int 7)), (eC (.int 24576)), (eC (.int 24577)), (eC (.int 32768))]) [some (.int near), some (.int far), r, none, none, none] hp = some (.lst [.int 1, .int 4, .int 5, .int 6, .int 7, .int 24576, .int 24577, .int 32768], hp) := fun _ => rfl
    have e3 : ∀ r2 r3, (eTup [(eV 4), (eV 5)]) [some (.int near), some (.int far), r2, r3, some (.int l), some (.int b)] hp = some (.tup [.int l, .int b], hp) := fun _ _ => eTup_at (evL_c rfl (evL_c rfl rfl)) (Nat.le_of_ble_eq_true rfl)
    exact (congrArg (Option.map _) ((sCons_n (sIf_f ht)).trans ((sCons_n (sAsg_v e1)).trans ((sCons_n (sAsg_v (e2 _))).trans ((sCons_n (sAsg_v el)).trans ((sCons_n (sAsg_v eb)).trans (sCons_r (sRet_v (e3 _ _))))))))).trans rfl
end Mine
end
section
open PySem PySem.W PyProof.Rows
set_option Elab.async false
set_option linter.unusedVariables false
set_option linter.unusedSimpArgs false
namespace Mine

theorem compL_eq {e : EF} {i : Nat} {ρ : Loc} {hp : Hp} {g : V → V} : ∀ {xs : List V}, (∀ x ∈ xs, e (ρ.set i (some x)) hp = some (g x, hp)) → compL none e i xs ρ hp = some (xs.map g, hp)
  | [], _ => rfl
  | x :: xs, h => by
    rw [compL]
    show ((some (true, hp) : Option (Bool × Hp)).bind _) = _
    rw [Option.bind_some, if_pos rfl, h x (.head _), Option.bind_some, compL_eq (g := g) fun y hy => h y (.tail _ hy)]
    rfl
theorem compL_ex {e : EF} {i : Nat} {ρ : Loc} {hp : Hp} {Q : V → Prop} : ∀ {xs : List V}, (∀ x ∈ xs, ∃ v, e (ρ.set i (some x)) hp = some (v, hp) ∧ Q v) → ∃ vs, compL none e i xs ρ hp = some (vs, hp) ∧ (∀ v ∈ vs, Q v) ∧ vs.length = xs.length
  | [], _ => ⟨[], rfl, fun v h => (by cases h), rfl⟩
  | x :: xs, h => by
    obtain ⟨v, h1, h2⟩ := h x (.head _)
    obtain ⟨vs, h3, h4, h5⟩ := compL_ex (Q := Q) (xs := xs) fun y hy => h y (.tail _ hy)
    refine ⟨v :: vs, ?_, fun u hu => ?_, by simp [h5]⟩
    · rw [compL]
      show ((some (true, hp) : Option (Bool × Hp)).bind _) = _
      rw [Option.bind_some, if_pos rfl, h1, Option.bind_some, h3]
      rfl
    · rcases List.mem_cons.mp hu with rfl | hu
      · exact h2
      · exact h4 u hu
theorem eComp_at {it e : EF} {cap : List (Option Nat)} {t : Option TF} {i : Nat} {ρ : Loc} {hp hp1 hp2 : Hp} {r : V} {xs vs : List V} (h1 : it ρ hp = some (r, hp1)) (h2 : itemsOf r = some xs) (h3 : compL t e i xs (mkLoc cap ρ) hp1 = some (vs, hp2)) (hl : xs.length ≤ lim) :
    eComp it cap t e i ρ hp = some (.lst vs, hp2) := by
  unfold eComp
  rw [h1, Option.bind_some, h2, Option.bind_some, h3, Option.bind_some, if_pos hl]

/-- the cells -/
theorem cells_at {ns : List Int} {ρ : Loc} {hp : Hp} (hl : ns.length ≤ 63) (h0 : ρ[0]? = some (some (.lst (ns.map .int)))) : ∃ cs : List Nat, cs.length ≤ 12 ∧ (∀ x ∈ cs, x < 1000000) ∧
    (eComp (eTake (eV 0) 12) [none, none, none, none] none (eBin (oInt pMod) (eCall bAbs [(eCall bInt [(eV 1)])]) (eBin (oInt pPow) (eC (.int 10)) (eC (.int 6)))) 1) ρ hp = some (.lst (cs.map fun x : Nat => .int x), hp) := by
  refine ⟨(ns.take 12).map fun x => x.natAbs % 1000000, by simp; omega, fun x hx => ?_, ?_⟩
  · obtain ⟨y, _, rfl⟩ := List.mem_map.mp hx
    exact Nat.mod_lt _ (by decide)
  · have h1 : (eTake (eV 0) 12) ρ hp = some (.lst ((ns.take 12).map .int), hp) := by
      have e0 : (eV 0) ρ hp = some (.lst (ns.map .int), hp) := by simp only [eV, h0]
      unfold eTake
      rw [e0, Option.bind_some]
      show ((some (ns.map V.int)).bind _) = _
      rw [Option.bind_some, if_pos (by rw [List.length_map]; exact Nat.le_trans hl (Nat.le_of_ble_eq_true rfl)), List.map_take]
    have hc : compL none (eBin (oInt pMod) (eCall bAbs [(eCall bInt [(eV 1)])]) (eBin (oInt pPow) (eC (.int 10)) (eC (.int 6)))) 1 ((ns.take 12).map .int) (mkLoc [none, none, none, none] ρ) hp
        = some (((ns.take 12).map V.int).map (fun v => match v with | .int x => .int ((x.natAbs % 1000000 : Nat) : Int) | v => v), hp) := by
      refine compL_eq fun x hx => ?_
      obtain ⟨y, _, rfl⟩ := List.mem_map.mp hx
      have hm : mkLoc [none, none, none, none] ρ = [none, none, none, none] := rfl
      rw [hm]
      have hp6 : (eBin (oInt pPow) (eC (.int 10)) (eC (.int 6))) [none, some (V.int y), none, none] hp = some (.int 1000000, hp) := eBin_at rfl rfl (oInt_at (by kernel_rfl))
      have hab : (eCall bAbs [(eCall bInt [(eV 1)])]) [none, some (V.int y), none, none] hp = some (.int (y.natAbs : Nat), hp) := rfl
      exact eBin_at hab hp6 (oInt_at (pMod_nat y.natAbs 1000000 (by decide)))
    refine (eComp_at h1 rfl hc ?_).trans ?_
    · rw [List.length_map, List.length_take]; exact Nat.le_trans (Nat.min_le_left _ _) (Nat.le_of_ble_eq_true rfl)
    · rw [List.map_map, List.map_map]; rfl
end Mine
end
section
open PySem PySem.W PyProof.Rows
set_option Elab.async false
set_option linter.unusedVariables false
set_option linter.unusedSimpArgs false
namespace Mine

theorem toks_of : ∀ {vs : List V}, (∀ v ∈ vs, ∃ tok : Tok, tok.ok ∧ v = tok.v) → ∃ toks : List Tok, vs = toks.map Tok.v ∧ ∀ t ∈ toks, t.ok
  | [], _ => ⟨[], rfl, fun t h => (by cases h)⟩
  | v :: vs, h => by
    obtain ⟨t, h1, rfl⟩ := h v (.head _)
    obtain ⟨ts, rfl, h2⟩ := toks_of fun u hu => h u (.tail _ hu)
    exact ⟨t :: ts, rfl, fun u hu => by rcases List.mem_cons.mp hu with rfl | hu; exact h1; exact h2 u hu⟩
theorem mem_vInts {m : Nat} {x : V} (h : x ∈ vInts m 0 2) : ∃ j : Nat, j < m ∧ x = .int ((2 * j : Nat) : Int) := by
  unfold vInts at h
  obtain ⟨j, hj, rfl⟩ := List.mem_map.mp h
  exact ⟨j, List.mem_range.mp hj, by congr 1; omega⟩
theorem row_at {cs : List Nat} {ρ : Loc} {hp : Hp} (hl : cs.length ≤ 12) (h1 : ρ[1]? = some (some (.lst (cs.map fun x : Nat => .int x)))) : ∃ toks : List Tok, toks.length ≤ 6 ∧ (∀ t ∈ toks, t.ok) ∧
    (eComp (eCall bRange [(eC (.int 0)), (eBin (oInt pSub) (eCall bLen [(eV 1)]) (eC (.int 1))), (eC (.int 2))]) [none, none, none, some 1] none (eCall b_202 [(eIdx (eV 3) (eV 1)), (eIdx (eV 3) (eBin (oAdd) (eV 1) (eC (.int 1))))]) 1) ρ hp = some (.lst (toks.map Tok.v), hp) := by
  have e0 : (eV 1) ρ hp = some (.lst (cs.map fun x : Nat => .int x), hp) := by simp only [eV, h1]
  have hlen : (eCall bLen [(eV 1)]) ρ hp = some (.int (cs.length : Nat), hp) := by
    refine eCall_at (evL_c e0 rfl) ?_
    show ((some (cs.map fun x : Nat => V.int x)).bind fun xs => if xs.length ≤ lim then some (V.int xs.length, hp) else none) = _
    rw [Option.bind_some, List.length_map, if_pos (Nat.le_trans hl (Nat.le_of_ble_eq_true rfl))]
  have hr : (eCall bRange [(eC (.int 0)), (eBin (oInt pSub) (eCall bLen [(eV 1)]) (eC (.int 1))), (eC (.int 2))]) ρ hp = some (.rng 0 (cs.length - 1) 2, hp) :=
    eCall_at (evL_c rfl (evL_c (eBin_at hlen rfl (oInt_at rfl)) (evL_c rfl rfl))) rfl
  obtain ⟨m, hm6, hm, hi⟩ : ∃ m : Nat, m ≤ 6 ∧ 2 * m ≤ cs.length ∧ itemsOf (.rng 0 (cs.length - 1) 2) = some (vInts m 0 2) := by
    refine ⟨(Builtin.Range.rangeSize 0 (cs.length - 1) 2).toNat, ?_, ?_, ?_⟩
    · unfold Builtin.Range.rangeSize; rw [if_pos (by decide)]; split <;> omega
    · unfold Builtin.Range.rangeSize; rw [if_pos (by decide)]; split <;> omega
    · show (if (0 : Int) < 2 ∧ (2 : Int) ≤ 1000 ∧ (0 : Int).natAbs ≤ 2 ^ 40 ∧ ((cs.length : Int) - 1).natAbs ≤ 2 ^ 40 then some (vInts (Builtin.Range.rangeSize 0 (cs.length - 1) 2).toNat 0 2) else none) = _
      rw [if_pos ⟨by decide, by decide, by decide, by omega⟩]
  have hml : mkLoc [none, none, none, some 1] ρ = [none, none, none, some (.lst (cs.map fun x : Nat => .int x))] := by
    unfold mkLoc
    simp only [List.map_cons, List.map_nil, Option.bind_none, Option.bind_some, h1, Option.join_some]
  obtain ⟨vs, c1, c2, c3⟩ := compL_ex (e := eCall b_202 [(eIdx (eV 3) (eV 1)), (eIdx (eV 3) (eBin (oAdd) (eV 1) (eC (.int 1))))]) (i := 1) (ρ := mkLoc [none, none, none, some 1] ρ) (hp := hp) (Q := fun v => ∃ tok : Tok, tok.ok ∧ v = tok.v) (xs := vInts m 0 2) (fun x hx => by
    obtain ⟨j, hj, rfl⟩ := mem_vInts hx
    rw [hml]
    have j1 : 2 * j < cs.length := by omega
    have j2 : 2 * j + 1 < cs.length := by omega
    have k1 : 2 * j < 2 ^ 62 := Nat.lt_of_lt_of_le j1 (Nat.le_trans hl (by decide))
    have k2 : 2 * j + 1 < 2 ^ 62 := Nat.lt_of_lt_of_le j2 (Nat.le_trans hl (by decide))
    have g1 : oIdx (.lst (cs.map fun x : Nat => .int x)) (.int ((2 * j : Nat) : Int)) hp = some (.int (cs[2 * j] : Nat)) := by rw [idx_lst k1, List.getElem?_map, List.getElem?_eq_getElem j1]; rfl
    have g2 : oIdx (.lst (cs.map fun x : Nat => .int x)) (.int ((2 * j + 1 : Nat) : Int)) hp = some (.int (cs[2 * j + 1] : Nat)) := by rw [idx_lst k2, List.getElem?_map, List.getElem?_eq_getElem j2]; rfl
    obtain ⟨tok, t1, t2⟩ := token_at cs[2 * j] cs[2 * j + 1] hp
    have ha : (eBin (oAdd) (eV 1) (eC (.int 1))) [none, some (.int ((2 * j : Nat) : Int)), none, some (.lst (cs.map fun x : Nat => .int x))] hp = some (.int ((2 * j + 1 : Nat) : Int), hp) := eBin_at rfl rfl (by show some _ = some _; congr 3)
    refine ⟨tok.v, eCall_at (evL_c (eIdx_at rfl rfl g1) (evL_c (eIdx_at rfl ha g2) rfl)) t2, tok, t1, rfl⟩)
  obtain ⟨toks, rfl, d2⟩ := toks_of c2
  refine ⟨toks, ?_, d2, eComp_at hr hi c1 ?_⟩
  · have : (vInts m 0 2).length = m := by unfold vInts; simp
    rw [List.length_map, this] at c3
    omega
  · unfold vInts; rw [List.length_map, List.length_range]; exact Nat.le_trans hm6 (Nat.le_of_ble_eq_true rfl)
end Mine
end
section
open PySem PySem.W PyProof.Rows
set_option Elab.async false
set_option linter.unusedVariables false
set_option linter.unusedSimpArgs false
namespace Mine

/-- what a token is told: sign, rest, how many further bits; twice -/
inductive TI where
  | lit (a : Nat) | pair (ls lr lm ds dr dm : Nat)
noncomputable def tri (a b c : Nat) : V := .tup [.int a, .int b, .int c]
/-- all the tables say of x -/
structure LenOk (l ls lr lm : Nat) : Prop where
  tool : ∀ hp : Hp, hp[0]? = some (.ns TF') → b_148 [.obj 172 0, .int l] hp = some (tri ls lr lm, hp)
  told : ∀ hp : Hp, b_195 [.lst (rowsV 257 lenTab), .int l] hp = some (tri ls lr lm, hp)
  lo : 257 ≤ ls
  hi : ls < 286
  more : lm ≤ 13
  rest : lr < 2 ^ lm
structure DistOk (l ls lr lm : Nat) : Prop where
  tool : ∀ hp : Hp, hp[0]? = some (.ns TF') → b_155 [.obj 172 0, .int l] hp = some (tri ls lr lm, hp)
  told : ∀ hp : Hp, b_195 [.lst (rowsV 0 distTab), .int l] hp = some (tri ls lr lm, hp)
  hi : ls < 30
  more : lm ≤ 13
  rest : lr < 2 ^ lm
noncomputable def TI.of : Tok → TI → Prop
  | .lit a, .lit b => a = b ∧ a < 256
  | .pair l d, .pair ls lr lm ds dr dm => LenOk l ls lr lm ∧ DistOk d ds dr dm
  | _, _ => False

noncomputable def nextOf (top : Nat) : Option (Nat × Nat) → Nat
  | some q => q.1
  | none => top + 1
noncomputable def gaps (tab : List (Nat × Nat)) (top : Nat) : Bool := (List.range tab.length).all fun i => match tab[i]? with
  | some p => decide (nextOf top tab[i + 1]? ≤ p.1 + 2 ^ p.2 ∧ p.2 ≤ 13)
  | none => true
theorem gap_at {tab : List (Nat × Nat)} {top x i : Nat} {p : Nat × Nat} (g : gaps tab top = true) (h : At tab x i p) (hx : x ≤ top) : x - p.1 < 2 ^ p.2 ∧ p.2 ≤ 13 := by
  have hi := (List.getElem?_eq_some_iff.mp h.get).1
  have := List.all_eq_true.mp g i (List.mem_range.mpr hi)
  rw [h.get] at this
  dsimp only at this
  have := of_decide_eq_true this
  refine ⟨?_, this.2⟩
  have h1 := this.1
  cases hq : tab[i + 1]? with
  | none =>
    have e : nextOf top tab[i + 1]? = top + 1 := by rw [hq]; rfl
    have := h.le
    omega
  | some q =>
    have e : nextOf top tab[i + 1]? = q.1 := by rw [hq]; rfl
    have := h.next q hq
    have := h.le
    omega
theorem len_ok {l : Nat} (h1 : 3 ≤ l) (h2 : l ≤ 258) : ∃ ls lr lm, LenOk l ls lr lm := by
  obtain ⟨i, p, hA, hi, hs⟩ := search_at (tab := lenTab) (x := l) (by decide) ⟨(3, 0), rfl, h1⟩
  have hg := gap_at (tab := lenTab) (top := 258) (by decide) hA h2
  have hlt : i < 29 := (List.getElem?_eq_some_iff.mp hA.get).1
  exact ⟨257 + i, l - p.1, p.2, fun hp ht => sign_len ht hA hi (hs hp asc_len), fun hp => told_at hA asc_len (by decide), by omega, by omega, hg.2, hg.1⟩
theorem dist_ok {l : Nat} (h1 : 1 ≤ l) (h2 : l ≤ 32768) : ∃ ls lr lm, DistOk l ls lr lm := by
  obtain ⟨i, p, hA, hi, hs⟩ := search_at (tab := distTab) (x := l) (by decide) ⟨(1, 0), rfl, h1⟩
  have hg := gap_at (tab := distTab) (top := 32768) (by decide) hA h2
  have hlt : i < 30 := (List.getElem?_eq_some_iff.mp hA.get).1
  refine ⟨i, l - p.1, p.2, fun hp ht => sign_dist ht hA hi (hs hp asc_dist), fun hp => ?_, hlt, hg.2, hg.1⟩
  have := told_at (s := 0) (hp := hp) hA asc_dist (by decide)
  rw [Nat.zero_add] at this
  exact this
theorem ti_of {t : Tok} (h : t.ok) : ∃ x : TI, TI.of t x := by
  cases t with
  | lit a => exact ⟨.lit a, rfl, h⟩
  | pair l b =>
    obtain ⟨a1, a2, a3, hl⟩ := len_ok h.1 h.2.1
    obtain ⟨b1, b2, b3, hb⟩ := dist_ok h.2.2.1 h.2.2.2
    exact ⟨.pair a1 a2 a3 b1 b2 b3, hl, hb⟩
inductive TIs : List Tok → List TI → Prop
  | nil : TIs [] []
  | cons {t x ts xs} : TI.of t x → TIs ts xs → TIs (t :: ts) (x :: xs)
theorem tis_of : ∀ {ts : List Tok}, (∀ t ∈ ts, t.ok) → ∃ xs, TIs ts xs
  | [], _ => ⟨[], .nil⟩
  | t :: ts, h => by
    obtain ⟨x, hx⟩ := ti_of (h t (.head _))
    obtain ⟨xs, hxs⟩ := tis_of fun u hu => h u (.tail _ hu)
    exact ⟨x :: xs, .cons hx hxs⟩
end Mine
end
section
open PySem PySem.W PyProof.Rows
set_option Elab.async false
set_option linter.unusedVariables false
set_option linter.unusedSimpArgs false
namespace Mine

noncomputable def nats (xs : List Nat) : List V := xs.map fun x : Nat => .int x
noncomputable def inc (xs : List Nat) (i : Nat) : List Nat := xs.set i (xs.getD i 0 + 1)
theorem inc_len (xs : List Nat) (i : Nat) : (inc xs i).length = xs.length := by simp [inc]
theorem nats_len (xs : List Nat) : (nats xs).length = xs.length := by simp [nats]
theorem nats_set (xs : List Nat) (i y : Nat) : (nats xs).set i (.int y) = nats (xs.set i y) := by unfold nats; rw [List.map_set]
theorem nats_get {xs : List Nat} {i : Nat} (h : i < xs.length) : (nats xs)[i]? = some (.int (xs.getD i 0 : Nat)) := by
  unfold nats
  rw [List.getElem?_map, List.getElem?_eq_getElem h, List.getD_eq_getElem?_getD, List.getElem?_eq_getElem h]; rfl
theorem idx_ref {hp : Hp} {m i : Nat} {xs : List V} (h : hp[m]? = some (.list xs)) (hi : i < 2 ^ 62) : oIdx (.ref m) (.int (i : Int)) hp = xs[i]? := by
  show (match hp[m]? with | some (.list xs) => nth xs (i : Int) | some (.acc xs) => nth xs (i : Int) | some (.dict es) => dGet es (i : Int) | _ => none) = _
  rw [h]
  show nth xs (i : Int) = _
  unfold nth
  rw [if_pos ⟨by omega, by exact_mod_cast hi⟩, Int.toNat_natCast]
theorem set_ref {hp : Hp} {m i y : Nat} {xs : List Nat} (h : hp[m]? = some (.list (nats xs))) (hi : i < xs.length) (hl : xs.length ≤ lim) : oSet (.ref m) (.int (i : Int)) (.int (y : Nat)) hp = some (hp.set m (.list (nats (xs.set i y)))) := by
  show (match hp[m]? with | some (.list xs) => if 0 ≤ (i : Int) ∧ (i : Int) < xs.length ∧ xs.length ≤ lim then some (hp.set m (.list (xs.set (i : Int).toNat (.int (y : Nat))))) else none | some (.dict es) => if es.length ≤ lim then some (hp.set m (.dict (dPut es (i : Int) (.int (y : Nat))))) else none | _ => none) = _
  rw [h]
  show (if 0 ≤ (i : Int) ∧ (i : Int) < (nats xs).length ∧ (nats xs).length ≤ lim then some (hp.set m (.list ((nats xs).set (i : Int).toNat (.int (y : Nat))))) else none) = _
  rw [nats_len, if_pos ⟨by omega, by omega, hl⟩, Int.toNat_natCast, nats_set]
/-- xs[i] = xs[i] + 1 -/
theorem inc_at {fo fi : EF} {ρ : Loc} {hp : Hp} {m i : Nat} {xs : List Nat} (ho : ∀ hp, fo ρ hp = some (.ref m, hp)) (hi : fi ρ hp = some (.int (i : Nat), hp)) (h : hp[m]? = some (.list (nats xs))) (hlt : i < xs.length) (hl : xs.length ≤ 1000) :
    sSet fo fi (eBin (oAdd) (eIdx fo fi) (eC (.int 1))) ρ hp = some (.next, ρ, hp.set m (.list (nats (inc xs i)))) := by
  have h62 : i < 2 ^ 62 := Nat.lt_of_lt_of_le hlt (Nat.le_trans hl (by decide))
  have hv : (eBin (oAdd) (eIdx fo fi) (eC (.int 1))) ρ hp = some (.int ((xs.getD i 0 + 1 : Nat) : Int), hp) :=
    eBin_at (eIdx_at (ho hp) hi ((idx_ref h h62).trans (nats_get hlt))) rfl (by show some _ = some _; congr 3)
  unfold sSet
  rw [hv, Option.bind_some, ho, Option.bind_some, hi, Option.bind_some, set_ref h hlt (Nat.le_trans hl (Nat.le_of_ble_eq_true rfl))]
  rfl
end Mine
end
section
open PySem PySem.W PyProof.Rows
set_option Elab.async false
set_option linter.unusedVariables false
set_option linter.unusedSimpArgs false
namespace Mine

theorem app_at {fo fe : EF} {ρ : Loc} {hp : Hp} {m : Nat} {xs : List V} {v : V} (ho : fo ρ hp = some (.ref m, hp)) (he : fe ρ hp = some (v, hp)) (h : hp[m]? = some (.acc xs)) (hl : xs.length ≤ lim) : eApp fo fe ρ hp = some (.none, hp.set m (.acc (xs ++ [v]))) := by
  have h1 : isAcc hp (.ref m) = true := by simp only [isAcc, h]
  have h2 : oApp (.ref m) v hp = some (.none, hp.set m (.acc (xs ++ [v]))) := by simp only [oApp, h, hl, if_true]
  unfold eApp
  rw [ho, Option.bind_some, if_pos h1, he, Option.bind_some, h2]
theorem eV_at {i : Nat} {ρ : Loc} {hp : Hp} {v : V} (h : ρ[i]? = some (some v)) : eV i ρ hp = some (v, hp) := by simp only [eV, h]
theorem len_tup {xs : List V} {ρ : Loc} {hp : Hp} {i : Nat} (h : ρ[i]? = some (some (.tup xs))) (hl : xs.length ≤ lim) : (eCall bLen [(eV i)]) ρ hp = some (.int (xs.length : Nat), hp) := by
  refine eCall_at (evL_c (eV_at h) rfl) ?_
  show (if xs.length ≤ lim then some (V.int xs.length, hp) else none) = _
  rw [if_pos hl]
theorem len_is1 {xs : List V} {ρ : Loc} {hp : Hp} {i : Nat} {b : Bool} (h : ρ[i]? = some (some (.tup xs))) (hl : xs.length ≤ 10) (hb : decide (xs.length = 1) = b) : (tCmp (oCmp fun a b => a == b) (eCall bLen [(eV i)]) (eC (.int 1))) ρ hp = some (b, hp) := by
  refine tCmp_at (len_tup h (Nat.le_trans hl (Nat.le_of_ble_eq_true rfl))) rfl ?_
  show some (((xs.length : Nat) : Int) == 1) = _
  rw [← hb]
  congr 1
  rw [Bool.eq_iff_iff]; simp; omega

theorem lit_case {a : Nat} {ρ : Loc} {hp : Hp} {L : List Nat} {S : List V} (h9 : ρ[9]? = some (some (.tup [.int a]))) (h6 : ρ[6]? = some (some (.ref 5))) (h8 : ρ[8]? = some (some (.ref 7)))
    (g5 : hp[5]? = some (.list (nats L))) (g7 : hp[7]? = some (.acc S)) (ha : a < L.length) (hL : L.length ≤ 1000) (hS : S.length ≤ 100) :
    (sCons (sSet (eV 6) (eIdx (eV 9) (eC (.int 0))) (eBin (oAdd) (eIdx (eV 6) (eIdx (eV 9) (eC (.int 0)))) (eC (.int 1)))) (sCons (sExp (eApp (eV 8) (eTup [(eIdx (eV 9) (eC (.int 0))), (eC .none), (eC .none)]))) sNil)) ρ hp
      = some (.next, ρ, (hp.set 5 (.list (nats (inc L a)))).set 7 (.acc (S ++ [.tup [.int a, .none, .none]]))) := by
  have hi : ∀ hp : Hp, (eIdx (eV 9) (eC (.int 0))) ρ hp = some (.int (a : Nat), hp) := fun hp => eIdx_at (eV_at h9) rfl idx_tup0
  have h1 := inc_at (fo := eV 6) (fi := eIdx (eV 9) (eC (.int 0))) (ρ := ρ) (fun hp => eV_at h6) (hi hp) g5 ha hL
  have g7' : (hp.set 5 (.list (nats (inc L a))))[7]? = some (.acc S) := by rw [set_get' (by decide)]; exact g7
  have h2 : (eTup [(eIdx (eV 9) (eC (.int 0))), (eC .none), (eC .none)]) ρ (hp.set 5 (.list (nats (inc L a)))) = some (.tup [.int a, .none, .none], hp.set 5 (.list (nats (inc L a)))) :=
    eTup_at (evL_c (hi _) (evL_c rfl (evL_c rfl rfl))) (Nat.le_of_ble_eq_true rfl)
  exact (sCons_n h1).trans ((sCons_n (sExp_v (app_at (eV_at h8) h2 g7' (Nat.le_trans hS (Nat.le_of_ble_eq_true rfl))))).trans rfl)
end Mine
end
section
open PySem PySem.W PyProof.Rows
set_option Elab.async false
set_option linter.unusedVariables false
set_option linter.unusedSimpArgs false
namespace Mine

theorem tOr_ff {f g : TF} {ρ : Loc} {hp hp1 hp2 : Hp} (h1 : f ρ hp = some (false, hp1)) (h2 : g ρ hp1 = some (false, hp2)) : tOr f g ρ hp = some (false, hp2) := by
  unfold tOr; rw [h1, Option.bind_some]; exact h2
theorem sSet_at {fo fi fv : EF} {ρ : Loc} {hp hp' : Hp} {o k v : V} (h1 : fv ρ hp = some (v, hp)) (h2 : fo ρ hp = some (o, hp)) (h3 : fi ρ hp = some (k, hp)) (h4 : oSet o k v hp = some hp') : sSet fo fi fv ρ hp = some (.next, ρ, hp') := by
  unfold sSet
  rw [h1, Option.bind_some, h2, Option.bind_some, h3, Option.bind_some, h4]; rfl
theorem asInts_tri (a b c : Nat) : asInts [.int a, .int b, .int c] = some [(a : Int), b, c] := rfl
theorem ne_tri {a b c : Nat} {hp : Hp} : oNeSeq (tri a b c) (tri a b c) hp = some false := by
  show ((some (true, [(a : Int), b, c])).bind fun p => (some (true, [(a : Int), b, c])).bind fun q => if p.1 = q.1 then some (!decide (p.2 = q.2)) else none) = _
  simp
theorem TF_no1 : List.lookup ("length_sign" : Str) TF' = none ∧ List.lookup ("distance_sign" : Str) TF' = none ∧ List.lookup ("counts" : Str) TF' = none ∧ List.lookup ("put_row" : Str) TF' = none := ⟨rfl, rfl, rfl, rfl⟩
theorem noField_T {hp : Hp} {name : Str} (hd : hp[0]? = some (.ns TF')) (hn : List.lookup name TF' = none) : noField 172 name hp (.obj 172 0) = true := by
  simp only [noField, hd, hn]; rfl
theorem eMeth_at {C : Nat} {name : Str} {g : BF} {f : EF} {fs : List EF} {ρ : Loc} {hp hp1 : Hp} {o : V} {vs : List V} {r : Option (V × Hp)} (h1 : f ρ hp = some (o, hp)) (h2 : noField C name hp o = true) (h3 : evL fs ρ hp = some (vs, hp1)) (h4 : g (o :: vs) hp1 = r) : eMeth C name g f fs ρ hp = r := by
  unfold eMeth
  rw [h1, Option.bind_some, if_pos h2, h3, Option.bind_some, h4]

/-- law's heap amid its main loop -/
noncomputable def HL (L D : List Nat) (S : List V) (rest : Hp) : Hp := .ns TF' :: .dead :: .dead :: .acc accRows :: .dead :: .list (nats L) :: .list (nats D) :: .acc S :: rest
noncomputable def RL (a b c : V) (t9 t10 t11 : Option V) (rest : Loc) : Loc := some a :: some b :: some c :: some (.obj 172 0) :: some (.lst (rowsV 257 lenTab)) :: some (.lst (rowsV 0 distTab)) :: some (.ref 5) :: some (.ref 6) :: some (.ref 7) :: t9 :: t10 :: t11 :: rest
noncomputable def stepV : TI → V
  | .lit a => .tup [.int a, .none, .none]
  | .pair ls lr lm ds dr dm => .tup [.int ls, tri ls lr lm, tri ds dr dm]
noncomputable def incL : TI → List Nat → List Nat
  | .lit a, L => inc L a
  | .pair ls _ _ _ _ _, L => inc L ls
noncomputable def incD : TI → List Nat → List Nat
  | .lit _, D => D
  | .pair _ _ _ ds _ _, D => inc D ds
/-- the body of law's main loop -/
noncomputable def bodyA : SF := (sCons (sIf (tCmp (oCmp fun a b => a == b) (eCall bLen [(eV 9)]) (eC (.int 1))) (sCons (sSet (eV 6) (eIdx (eV 9) (eC (.int 0))) (eBin (oAdd) (eIdx (eV 6) (eIdx (eV 9) (eC (.int 0)))) (eC (.int 1)))) (sCons (sExp (eApp (eV 8) (eTup [(eIdx (eV 9) (eC (.int 0))), (eC .none), (eC .none)]))) sNil)) (sCons (sAsg (aTupR [10, 11]) (eTup [(eCall b_195 [(eV 4), (eIdx (eV 9) (eC (.int 0)))]), (eCall b_195 [(eV 5), (eIdx (eV 9) (eC (.int 1)))])])) (sCons (sIf (tOr (tCmp (oNeSeq) (eCall bTuple [(eMeth 172 "length_sign" b_148 (eV 3) [(eIdx (eV 9) (eC (.int 0)))])]) (eV 10)) (tCmp (oNeSeq) (eCall bTuple [(eMeth 172 "distance_sign" b_155 (eV 3) [(eIdx (eV 9) (eC (.int 1)))])]) (eV 11))) (sCons (sRet (eC (.bool false))) sNil) sNil) (sCons (sSet (eV 6) (eIdx (eV 10) (eC (.int 0))) (eBin (oAdd) (eIdx (eV 6) (eIdx (eV 10) (eC (.int 0)))) (eC (.int 1)))) (sCons (sSet (eV 7) (eIdx (eV 11) (eC (.int 0))) (eBin (oAdd) (eIdx (eV 7) (eIdx (eV 11) (eC (.int 0)))) (eC (.int 1)))) (sCons (sExp (eApp (eV 8) (eTup [(eIdx (eV 10) (eC (.int 0))), (eV 10), (eV 11)]))) sNil)))))) sNil)

theorem body_lit {a : Nat} {x y z : V} {t10 t11 : Option V} {rho : Loc} {L D : List Nat} {S : List V} {rest : Hp} (ha : a < 256) (hL : L.length = 286) (hS : S.length ≤ 100) :
    bodyA (RL x y z (some (.tup [.int a])) t10 t11 rho) (HL L D S rest) = some (.next, RL x y z (some (.tup [.int a])) t10 t11 rho, HL (inc L a) D (S ++ [stepV (.lit a)]) rest) := by
  have h1 := len_is1 (ρ := RL x y z (some (.tup [.int a])) t10 t11 rho) (hp := HL L D S rest) (i := 9) (xs := [.int a]) (b := true) rfl (Nat.le_of_ble_eq_true rfl) rfl
  have h2 := lit_case (a := a) (ρ := RL x y z (some (.tup [.int a])) t10 t11 rho) (hp := HL L D S rest) (L := L) (S := S) rfl rfl rfl rfl rfl (by omega) (by omega) hS
  exact (sCons_n ((sIf_t h1).trans h2)).trans rfl
theorem body_pair {l b ls lr lm ds dr dm : Nat} {x y z : V} {t10 t11 : Option V} {rho : Loc} {L D : List Nat} {S : List V} {rest : Hp} (hl : LenOk l ls lr lm) (hd : DistOk b ds dr dm) (hL : L.length = 286) (hD : D.length = 30) (hS : S.length ≤ 100) :
    bodyA (RL x y z (some (.tup [.int l, .int b])) t10 t11 rho) (HL L D S rest) = some (.next, RL x y z (some (.tup [.int l, .int b])) (some (tri ls lr lm)) (some (tri ds dr dm)) rho, HL (inc L ls) (inc D ds) (S ++ [stepV (.pair ls lr lm ds dr dm)]) rest) := by
  have h1 := len_is1 (ρ := RL x y z (some (.tup [.int l, .int b])) t10 t11 rho) (hp := HL L D S rest) (i := 9) (xs := [.int l, .int b]) (b := false) rfl (Nat.le_of_ble_eq_true rfl) rfl
  have i0 : ∀ t10 t11 hp, (eIdx (eV 9) (eC (.int 0))) (RL x y z (some (.tup [.int l, .int b])) t10 t11 rho) hp = some (.int (l : Nat), hp) := fun t10 t11 hp => eIdx_at rfl rfl idx_tup0
  have i1 : ∀ t10 t11 hp, (eIdx (eV 9) (eC (.int 1))) (RL x y z (some (.tup [.int l, .int b])) t10 t11 rho) hp = some (.int (b : Nat), hp) := fun t10 t11 hp => eIdx_at rfl rfl idx_tup1
  have n1 : (eCall b_195 [(eV 4), (eIdx (eV 9) (eC (.int 0)))]) (RL x y z (some (.tup [.int l, .int b])) t10 t11 rho) (HL L D S rest) = some (tri ls lr lm, HL L D S rest) := eCall_at (evL_c rfl (evL_c (i0 _ _ _) rfl)) (hl.told _)
  have n2 : (eCall b_195 [(eV 5), (eIdx (eV 9) (eC (.int 1)))]) (RL x y z (some (.tup [.int l, .int b])) t10 t11 rho) (HL L D S rest) = some (tri ds dr dm, HL L D S rest) := eCall_at (evL_c rfl (evL_c (i1 _ _ _) rfl)) (hd.told _)
  have n3 : (sAsg (aTupR [10, 11]) (eTup [(eCall b_195 [(eV 4), (eIdx (eV 9) (eC (.int 0)))]), (eCall b_195 [(eV 5), (eIdx (eV 9) (eC (.int 1)))])])) (RL x y z (some (.tup [.int l, .int b])) t10 t11 rho) (HL L D S rest) = some (.next, RL x y z (some (.tup [.int l, .int b])) (some (tri ls lr lm)) (some (tri ds dr dm)) rho, HL L D S rest) := by
    unfold sAsg
    rw [eTup_at (evL_c n1 (evL_c n2 rfl)) (Nat.le_of_ble_eq_true rfl)]
    rfl
  have m1 : (eMeth 172 "length_sign" b_148 (eV 3) [(eIdx (eV 9) (eC (.int 0)))]) (RL x y z (some (.tup [.int l, .int b])) (some (tri ls lr lm)) (some (tri ds dr dm)) rho) (HL L D S rest) = some (tri ls lr lm, HL L D S rest) :=
    eMeth_at (o := .obj 172 0) rfl (noField_T rfl TF_no1.1) (evL_c (i0 _ _ _) rfl) (hl.tool _ rfl)
  have m2 : (eMeth 172 "distance_sign" b_155 (eV 3) [(eIdx (eV 9) (eC (.int 1)))]) (RL x y z (some (.tup [.int l, .int b])) (some (tri ls lr lm)) (some (tri ds dr dm)) rho) (HL L D S rest) = some (tri ds dr dm, HL L D S rest) :=
    eMeth_at (o := .obj 172 0) rfl (noField_T rfl TF_no1.2.1) (evL_c (i1 _ _ _) rfl) (hd.tool _ rfl)
  have t1 : (tCmp (oNeSeq) (eCall bTuple [(eMeth 172 "length_sign" b_148 (eV 3) [(eIdx (eV 9) (eC (.int 0)))])]) (eV 10)) (RL x y z (some (.tup [.int l, .int b])) (some (tri ls lr lm)) (some (tri ds dr dm)) rho) (HL L D S rest) = some (false, HL L D S rest) :=
    tCmp_at (eCall_at (evL_c m1 rfl) rfl) rfl ne_tri
  have t2 : (tCmp (oNeSeq) (eCall bTuple [(eMeth 172 "distance_sign" b_155 (eV 3) [(eIdx (eV 9) (eC (.int 1)))])]) (eV 11)) (RL x y z (some (.tup [.int l, .int b])) (some (tri ls lr lm)) (some (tri ds dr dm)) rho) (HL L D S rest) = some (false, HL L D S rest) :=
    tCmp_at (eCall_at (evL_c m2 rfl) rfl) rfl ne_tri
  have j0 : ∀ hp, (eIdx (eV 10) (eC (.int 0))) (RL x y z (some (.tup [.int l, .int b])) (some (tri ls lr lm)) (some (tri ds dr dm)) rho) hp = some (.int (ls : Nat), hp) := fun hp => eIdx_at rfl rfl idx_tup0
  have j1 : ∀ hp, (eIdx (eV 11) (eC (.int 0))) (RL x y z (some (.tup [.int l, .int b])) (some (tri ls lr lm)) (some (tri ds dr dm)) rho) hp = some (.int (ds : Nat), hp) := fun hp => eIdx_at rfl rfl idx_tup0
  have lh := hl.hi
  have dh := hd.hi
  have s1 := inc_at (fo := eV 6) (fi := eIdx (eV 10) (eC (.int 0))) (ρ := RL x y z (some (.tup [.int l, .int b])) (some (tri ls lr lm)) (some (tri ds dr dm)) rho) (hp := HL L D S rest) (m := 5) (xs := L) (fun hp => rfl) (j0 _) rfl (by omega) (by omega)
  have s2 := inc_at (fo := eV 7) (fi := eIdx (eV 11) (eC (.int 0))) (ρ := RL x y z (some (.tup [.int l, .int b])) (some (tri ls lr lm)) (some (tri ds dr dm)) rho) (hp := HL (inc L ls) D S rest) (m := 6) (xs := D) (fun hp => rfl) (j1 _) rfl (by omega) (by omega)
  have s3 : (eTup [(eIdx (eV 10) (eC (.int 0))), (eV 10), (eV 11)]) (RL x y z (some (.tup [.int l, .int b])) (some (tri ls lr lm)) (some (tri ds dr dm)) rho) (HL (inc L ls) (inc D ds) S rest) = some (stepV (.pair ls lr lm ds dr dm), HL (inc L ls) (inc D ds) S rest) :=
    eTup_at (evL_c (j0 _) (evL_c rfl (evL_c rfl rfl))) (Nat.le_of_ble_eq_true rfl)
  have s4 := app_at (fo := eV 8) (ρ := RL x y z (some (.tup [.int l, .int b])) (some (tri ls lr lm)) (some (tri ds dr dm)) rho) (m := 7) rfl s3 rfl (Nat.le_trans hS (Nat.le_of_ble_eq_true rfl))
  exact (sCons_n ((sIf_f h1).trans ((sCons_n n3).trans ((sCons_n ((sIf_f (tOr_ff t1 t2)).trans rfl)).trans ((sCons_n s1).trans ((sCons_n s2).trans ((sCons_n (sExp_v s4)).trans rfl))))))).trans rfl
theorem forL_n {a : V → Loc → Option Loc} {b : SF} {x : V} {xs : List V} {ρ ρ1 ρ2 : Loc} {hp hp2 : Hp} (h1 : a x ρ = some ρ1) (h2 : b ρ1 hp = some (.next, ρ2, hp2)) : forL a b (x :: xs) ρ hp = forL a b xs ρ2 hp2 := by
  rw [forL, h1, Option.bind_some, h2, Option.bind_some]
theorem incL_len (t : TI) (L : List Nat) : (incL t L).length = L.length := by cases t <;> exact inc_len _ _
theorem incD_len (t : TI) (L : List Nat) : (incD t L).length = L.length := by cases t; rfl; exact inc_len _ _
theorem mainLoop {x y z : V} {rho : Loc} {rest : Hp} : ∀ {toks : List Tok} {is : List TI} (h : TIs toks is) (L D : List Nat) (S : List V) (t9 t10 t11 : Option V), L.length = 286 → D.length = 30 → S.length + toks.length ≤ 100 → ∃ t9' t10' t11',
    forL (aVar 9) bodyA (toks.map Tok.v) (RL x y z t9 t10 t11 rho) (HL L D S rest)
      = some (.next, RL x y z t9' t10' t11' rho, HL (is.foldl (fun L t => incL t L) L) (is.foldl (fun D t => incD t D) D) (S ++ is.map stepV) rest) := by
  intro toks is h
  induction h with
  | nil => intro L D S t9 t10 t11 _ _ _; exact ⟨t9, t10, t11, by rw [List.map_nil, List.map_nil, List.append_nil]; rfl⟩
  | cons ht hs ih =>
    rename_i t i ts is
    intro L D S t9 t10 t11 hL hD hS
    rw [List.length_cons] at hS
    have key : ∃ t10' t11', bodyA (RL x y z (some t.v) t10 t11 rho) (HL L D S rest) = some (.next, RL x y z (some t.v) t10' t11' rho, HL (incL i L) (incD i D) (S ++ [stepV i]) rest) := by
      cases t with
      | lit a => cases i with
        | lit b =>
          obtain ⟨rfl, hb⟩ := ht
          exact ⟨t10, t11, body_lit hb hL (by omega)⟩
        | pair => exact ht.elim
      | pair l b => cases i with
        | lit b => exact ht.elim
        | pair ls lr lm ds dr dm => exact ⟨_, _, body_pair ht.1 ht.2 hL hD (by omega)⟩
    obtain ⟨u10, u11, e⟩ := key
    obtain ⟨w9, w10, w11, e2⟩ := ih (incL i L) (incD i D) (S ++ [stepV i]) (some t.v) u10 u11 ((incL_len _ _).trans hL) ((incD_len _ _).trans hD) (by simp; omega)
    refine ⟨w9, w10, w11, ?_⟩
    rw [List.map_cons, forL_n (a := aVar 9) (ρ1 := RL x y z (some t.v) t10 t11 rho) rfl e, e2]
    simp
end Mine
end
section
open PySem PySem.W PyProof.Rows
set_option Elab.async false
set_option linter.unusedVariables false
set_option linter.unusedSimpArgs false
namespace Mine

noncomputable def RC (b : V) (t4 t5 : Option V) : Loc := [some (.obj 172 0), some b, some (.ref 8), some (.ref 9), t4, t5, none, none, none, none]
noncomputable def bodyC : SF := (sCons (sIf (tCmp (oCmp fun a b => a == b) (eCall bLen [(eV 4)]) (eC (.int 1))) (sCons (sSet (eV 2) (eIdx (eV 4) (eC (.int 0))) (eBin (oAdd) (eIdx (eV 2) (eIdx (eV 4) (eC (.int 0)))) (eC (.int 1)))) sNil) (sCons (sAsg (aVar 5) (eIdx (eMeth 172 "length_sign" b_148 (eV 0) [(eIdx (eV 4) (eC (.int 0)))]) (eC (.int 0)))) (sCons (sSet (eV 2) (eV 5) (eBin (oAdd) (eIdx (eV 2) (eV 5)) (eC (.int 1)))) (sCons (sAsg (aVar 5) (eIdx (eMeth 172 "distance_sign" b_155 (eV 0) [(eIdx (eV 4) (eC (.int 1)))]) (eC (.int 0)))) (sCons (sSet (eV 3) (eV 5) (eBin (oAdd) (eIdx (eV 3) (eV 5)) (eC (.int 1)))) sNil))))) sNil)
theorem bodyC_lit {a : Nat} {z : V} {t5 : Option V} {L D : List Nat} {S : List V} {A B : List Nat} (ha : a < 256) (hA : A.length = 286) :
    bodyC (RC z (some (.tup [.int a])) t5) (HL L D S [.list (nats A), .list (nats B)]) = some (.next, RC z (some (.tup [.int a])) t5, HL L D S [.list (nats (inc A a)), .list (nats B)]) := by
  have h1 := len_is1 (ρ := RC z (some (.tup [.int a])) t5) (hp := HL L D S [.list (nats A), .list (nats B)]) (i := 4) (xs := [.int a]) (b := true) rfl (Nat.le_of_ble_eq_true rfl) rfl
  have i0 : ∀ hp, (eIdx (eV 4) (eC (.int 0))) (RC z (some (.tup [.int a])) t5) hp = some (.int (a : Nat), hp) := fun hp => eIdx_at rfl rfl idx_tup0
  have s1 := inc_at (fo := eV 2) (fi := eIdx (eV 4) (eC (.int 0))) (ρ := RC z (some (.tup [.int a])) t5) (hp := HL L D S [.list (nats A), .list (nats B)]) (m := 8) (xs := A) (fun hp => rfl) (i0 _) rfl (by omega) (by omega)
  exact (sCons_n ((sIf_t h1).trans ((sCons_n s1).trans rfl))).trans rfl
theorem bodyC_pair {l b ls lr lm ds dr dm : Nat} {z : V} {t5 : Option V} {L D : List Nat} {S : List V} {A B : List Nat} (hl : LenOk l ls lr lm) (hd : DistOk b ds dr dm) (hA : A.length = 286) (hB : B.length = 30) :
    bodyC (RC z (some (.tup [.int l, .int b])) t5) (HL L D S [.list (nats A), .list (nats B)]) = some (.next, RC z (some (.tup [.int l, .int b])) (some (.int ds)), HL L D S [.list (nats (inc A ls)), .list (nats (inc B ds))]) := by
  have h1 := len_is1 (ρ := RC z (some (.tup [.int l, .int b])) t5) (hp := HL L D S [.list (nats A), .list (nats B)]) (i := 4) (xs := [.int l, .int b]) (b := false) rfl (Nat.le_of_ble_eq_true rfl) rfl
  have i0 : ∀ t5 hp, (eIdx (eV 4) (eC (.int 0))) (RC z (some (.tup [.int l, .int b])) t5) hp = some (.int (l : Nat), hp) := fun t5 hp => eIdx_at rfl rfl idx_tup0
  have i1 : ∀ t5 hp, (eIdx (eV 4) (eC (.int 1))) (RC z (some (.tup [.int l, .int b])) t5) hp = some (.int (b : Nat), hp) := fun t5 hp => eIdx_at rfl rfl idx_tup1
  have m1 : ∀ t5 A B, (eMeth 172 "length_sign" b_148 (eV 0) [(eIdx (eV 4) (eC (.int 0)))]) (RC z (some (.tup [.int l, .int b])) t5) (HL L D S [.list (nats A), .list (nats B)]) = some (tri ls lr lm, HL L D S [.list (nats A), .list (nats B)]) := fun t5 A B =>
    eMeth_at (o := .obj 172 0) rfl (noField_T rfl TF_no1.1) (evL_c (i0 _ _) rfl) (hl.tool _ rfl)
  have m2 : ∀ t5 A B, (eMeth 172 "distance_sign" b_155 (eV 0) [(eIdx (eV 4) (eC (.int 1)))]) (RC z (some (.tup [.int l, .int b])) t5) (HL L D S [.list (nats A), .list (nats B)]) = some (tri ds dr dm, HL L D S [.list (nats A), .list (nats B)]) := fun t5 A B =>
    eMeth_at (o := .obj 172 0) rfl (noField_T rfl TF_no1.2.1) (evL_c (i1 _ _) rfl) (hd.tool _ rfl)
  have a1 : (sAsg (aVar 5) (eIdx (eMeth 172 "length_sign" b_148 (eV 0) [(eIdx (eV 4) (eC (.int 0)))]) (eC (.int 0)))) (RC z (some (.tup [.int l, .int b])) t5) (HL L D S [.list (nats A), .list (nats B)]) = some (.next, RC z (some (.tup [.int l, .int b])) (some (.int ls)), HL L D S [.list (nats A), .list (nats B)]) :=
    sAsg_v (eIdx_at (m1 _ _ _) rfl idx_tup0)
  have a2 : (sAsg (aVar 5) (eIdx (eMeth 172 "distance_sign" b_155 (eV 0) [(eIdx (eV 4) (eC (.int 1)))]) (eC (.int 0)))) (RC z (some (.tup [.int l, .int b])) (some (.int ls))) (HL L D S [.list (nats (inc A ls)), .list (nats B)]) = some (.next, RC z (some (.tup [.int l, .int b])) (some (.int ds)), HL L D S [.list (nats (inc A ls)), .list (nats B)]) :=
    sAsg_v (eIdx_at (m2 _ _ _) rfl idx_tup0)
  have lh := hl.hi
  have dh := hd.hi
  have s1 := inc_at (fo := eV 2) (fi := eV 5) (ρ := RC z (some (.tup [.int l, .int b])) (some (.int ls))) (hp := HL L D S [.list (nats A), .list (nats B)]) (m := 8) (i := ls) (xs := A) (fun hp => rfl) rfl rfl (by omega) (by omega)
  have s2 := inc_at (fo := eV 3) (fi := eV 5) (ρ := RC z (some (.tup [.int l, .int b])) (some (.int ds))) (hp := HL L D S [.list (nats (inc A ls)), .list (nats B)]) (m := 9) (i := ds) (xs := B) (fun hp => rfl) rfl rfl (by omega) (by omega)
  exact (sCons_n ((sIf_f h1).trans ((sCons_n a1).trans ((sCons_n s1).trans ((sCons_n a2).trans ((sCons_n s2).trans rfl)))))).trans rfl
theorem loopC {z : V} {L D : List Nat} {S : List V} : ∀ {toks : List Tok} {is : List TI} (h : TIs toks is) (A B : List Nat) (t4 t5 : Option V), A.length = 286 → B.length = 30 → ∃ t4' t5',
    forL (aVar 4) bodyC (toks.map Tok.v) (RC z t4 t5) (HL L D S [.list (nats A), .list (nats B)])
      = some (.next, RC z t4' t5', HL L D S [.list (nats (is.foldl (fun L t => incL t L) A)), .list (nats (is.foldl (fun D t => incD t D) B))]) := by
  intro toks is h
  induction h with
  | nil => intro A B t4 t5 _ _; exact ⟨t4, t5, rfl⟩
  | cons ht hs ih =>
    rename_i t i ts is
    intro A B t4 t5 hA hB
    have key : ∃ t5', bodyC (RC z (some t.v) t5) (HL L D S [.list (nats A), .list (nats B)]) = some (.next, RC z (some t.v) t5', HL L D S [.list (nats (incL i A)), .list (nats (incD i B))]) := by
      cases t with
      | lit a => cases i with
        | lit b =>
          obtain ⟨rfl, hb⟩ := ht
          exact ⟨t5, bodyC_lit hb hA⟩
        | pair => exact ht.elim
      | pair l b => cases i with
        | lit b => exact ht.elim
        | pair ls lr lm ds dr dm => exact ⟨_, bodyC_pair ht.1 ht.2 hA hB⟩
    obtain ⟨u5, e⟩ := key
    obtain ⟨w4, w5, e2⟩ := ih (incL i A) (incD i B) (some t.v) u5 ((incL_len _ _).trans hA) ((incD_len _ _).trans hB)
    refine ⟨w4, w5, ?_⟩
    rw [List.map_cons, forL_n (a := aVar 4) (ρ1 := RC z (some t.v) t5) rfl e, e2]
    rfl
theorem sFor_at {e : EF} {a : V → Loc → Option Loc} {b : SF} {ρ : Loc} {hp hp1 : Hp} {v : V} {xs : List V} {r : Option (Fl × Loc × Hp)} (h1 : e ρ hp = some (v, hp1)) (h2 : itemsOf v = some xs) (h3 : forL a b xs ρ hp1 = r) : sFor e a b ρ hp = r := by
  unfold sFor; rw [h1, Option.bind_some, h2, Option.bind_some, h3]
theorem nats_rep (n k : Nat) : nats (List.replicate n k) = List.replicate n (.int k) := by unfold nats; rw [List.map_replicate]
theorem repM_at {n : Nat} {ρ : Loc} {hp : Hp} (h : n ≤ 1000) : (eRepM (eC (.int 0)) (eC (.int n))) ρ hp = some (.ref hp.length, hp ++ [.list (nats (List.replicate n 0))]) := by
  have h1 : repL (eC (.int 0)) (eC (.int n)) ρ hp = some (nats (List.replicate n 0), hp) := by
    show (if 0 ≤ (n : Int) ∧ (n : Int) ≤ (lim : Nat) then some (List.replicate (n : Int).toNat (V.int 0), hp) else none) = _
    have : lim = 1000000 := rfl
    rw [if_pos (by omega), Int.toNat_natCast, nats_rep]; rfl
  unfold eRepM
  rw [h1]; rfl
theorem counts_at {toks : List Tok} {is : List TI} (h : TIs toks is) {L D : List Nat} {S : List V} :
    b_162 [.obj 172 0, .lst (toks.map Tok.v)] (HL L D S []) = some (.tup [.lst (nats (is.foldl (fun L t => incL t L) ((List.replicate 286 0).set 256 1))), .lst (nats (is.foldl (fun D t => incD t D) (List.replicate 30 0)))], HL L D S [.dead, .dead]) := by
  unfold b_162 fnF f_162
  have hlen' : ([V.obj 172 0, .lst (toks.map Tok.v)] ++ []).length = [0, 1].length := rfl
  rw [if_pos hlen']
  have hset : setAll [0, 1] ([V.obj 172 0, .lst (toks.map Tok.v)] ++ []) (List.replicate 10 none) = [some (.obj 172 0), some (.lst (toks.map Tok.v)), none, none, none, none, none, none, none, none] := rfl
  rw [hset]
  have a1 := sAsg_v (i := 2) (ρ := [some (.obj 172 0), some (.lst (toks.map Tok.v)), none, none, none, none, none, none, none, none]) (repM_at (n := 286) (ρ := [some (.obj 172 0), some (.lst (toks.map Tok.v)), none, none, none, none, none, none, none, none]) (hp := HL L D S []) (by decide))
  have a2 := sAsg_v (i := 3) (ρ := [some (.obj 172 0), some (.lst (toks.map Tok.v)), some (.ref 8), none, none, none, none, none, none, none]) (repM_at (n := 30) (ρ := [some (.obj 172 0), some (.lst (toks.map Tok.v)), some (.ref 8), none, none, none, none, none, none, none]) (hp := HL L D S [.list (nats (List.replicate 286 0))]) (by decide))
  have a3 : (sSet (eV 2) (eC (.int 256)) (eC (.int 1))) (RC (.lst (toks.map Tok.v)) none none) (HL L D S [.list (nats (List.replicate 286 0)), .list (nats (List.replicate 30 0))]) = some (.next, RC (.lst (toks.map Tok.v)) none none, HL L D S [.list (nats ((List.replicate 286 0).set 256 1)), .list (nats (List.replicate 30 0))]) :=
    sSet_at rfl rfl rfl (set_ref (m := 8) (i := 256) (y := 1) rfl (by rw [List.length_replicate]; decide) (by rw [List.length_replicate]; exact Nat.le_of_ble_eq_true rfl))
  obtain ⟨w4, w5, e⟩ := loopC (z := .lst (toks.map Tok.v)) (L := L) (D := D) (S := S) h ((List.replicate 286 0).set 256 1) (List.replicate 30 0) none none (by rw [List.length_set, List.length_replicate]) (by rw [List.length_replicate])
  have a4 := sFor_at (e := eV 1) (ρ := RC (.lst (toks.map Tok.v)) none none) (v := .lst (toks.map Tok.v)) rfl rfl e
  have a5 : (sRet (eTup [(eFrz (eV 2)), (eFrz (eV 3))])) (RC (.lst (toks.map Tok.v)) w4 w5) (HL L D S [.list (nats (is.foldl (fun L t => incL t L) ((List.replicate 286 0).set 256 1))), .list (nats (is.foldl (fun D t => incD t D) (List.replicate 30 0)))])
      = some (.ret (.tup [.lst (nats (is.foldl (fun L t => incL t L) ((List.replicate 286 0).set 256 1))), .lst (nats (is.foldl (fun D t => incD t D) (List.replicate 30 0)))]), RC (.lst (toks.map Tok.v)) w4 w5, HL L D S [.dead, .dead]) :=
    sRet_v (eTup_at (evL_c rfl (evL_c rfl rfl)) (Nat.le_of_ble_eq_true rfl))
  exact (congrArg (Option.map _) ((sCons_n a1).trans ((sCons_n a2).trans ((sCons_n a3).trans ((sCons_n a4).trans (sCons_r a5)))))).trans rfl
end Mine
end
section
open PySem PySem.W PyProof.Rows
set_option Elab.async false
set_option linter.unusedVariables false
set_option linter.unusedSimpArgs false
namespace Mine

/-! dicts -/
theorem dGet_map {k k' : Int} {v : V} (h : k' ≠ k) : ∀ es : List (Int × V), dGet (es.map fun e => if e.1 = k then (e.1, v) else e) k' = dGet es k'
  | [] => rfl
  | e :: es => by
    have ih := dGet_map (v := v) h es
    unfold dGet at ih ⊢
    rw [List.map_cons, List.find?_cons, List.find?_cons]
    by_cases h1 : e.1 = k
    · have h2 : ¬ e.1 = k' := fun q => h (q.symm.trans h1)
      rw [if_pos h1]
      simp only [h2, decide_false]
      exact ih
    · rw [if_neg h1]
      by_cases h2 : e.1 = k'
      · simp only [h2, decide_true]
      · simp only [h2, decide_false]
        exact ih
theorem dGet_map_self {k : Int} {v : V} : ∀ es : List (Int × V), es.any (fun e => e.1 = k) = true → dGet (es.map fun e => if e.1 = k then (e.1, v) else e) k = some v
  | [], h => by simp at h
  | e :: es, h => by
    unfold dGet
    rw [List.map_cons, List.find?_cons]
    by_cases h1 : e.1 = k
    · rw [if_pos h1]
      simp only [h1, decide_true, Option.map_some]
    · rw [if_neg h1]
      simp only [h1, decide_false]
      rw [List.any_cons] at h
      simp only [h1, decide_false, Bool.false_or] at h
      exact dGet_map_self es h
theorem dGet_app {k : Int} {es fs : List (Int × V)} : dGet (es ++ fs) k = (dGet es k).or (dGet fs k) := by
  unfold dGet
  rw [List.find?_append]
  cases List.find? (fun e => decide (e.1 = k)) es <;> simp
theorem dGet_none {k : Int} {es : List (Int × V)} (h : es.any (fun e => e.1 = k) = false) : dGet es k = none := by
  unfold dGet
  rw [List.find?_eq_none.mpr]
  · rfl
  · intro e he
    rw [List.any_eq_false] at h
    exact h e he
theorem dGet_put {es : List (Int × V)} {k k' : Int} {v : V} : dGet (dPut es k v) k' = if k' = k then some v else dGet es k' := by
  unfold dPut
  by_cases ha : es.any (fun e => e.1 = k) = true
  · rw [if_pos ha]
    by_cases h : k' = k
    · subst h; rw [if_pos rfl, dGet_map_self es ha]
    · rw [if_neg h, dGet_map h]
  · rw [if_neg ha, dGet_app]
    have hf : es.any (fun e => decide (e.1 = k)) = false := (Bool.not_eq_true _).mp ha
    by_cases h : k' = k
    · subst h
      rw [if_pos rfl, dGet_none hf]
      simp [dGet]
    · rw [if_neg h]
      have : dGet [(k, v)] k' = none := by
        unfold dGet
        rw [List.find?_cons]
        have : ¬ k = k' := fun q => h q.symm
        simp [this]
      rw [this, Option.or_none]
theorem dPut_len (es : List (Int × V)) (k : Int) (v : V) : (dPut es k v).length ≤ es.length + 1 := by
  unfold dPut
  split
  · rw [List.length_map]; omega
  · rw [List.length_append]; simp
theorem dPut_new {es : List (Int × V)} {k : Int} {v : V} (h : ∀ e ∈ es, e.1 < k) : dPut es k v = es ++ [(k, v)] := by
  unfold dPut
  rw [if_neg]
  simp only [Bool.not_eq_true, List.any_eq_false, decide_eq_true_eq]
  intro e he
  have := h e he
  omega

/-- the signs that come -/
noncomputable def sgn (n : Nat) (c : Nat → Bool) : List Nat := (List.range n).filter c
theorem sgn_asc (n : Nat) (c : Nat → Bool) : (sgn n c).Pairwise (· < ·) := List.pairwise_lt_range.filter c
noncomputable def esOf (f : Nat → Nat) (l : List Nat) : List (Int × V) := l.map fun s : Nat => ((s : Int), .int (f s : Nat))

theorem putAll_at {m : Nat} : ∀ (l : List Nat) (es : List (Int × V)), l.Pairwise (· < ·) → (∀ e ∈ es, ∀ s ∈ l, e.1 < (s : Int)) → es.length + l.length ≤ 1000 →
    putAll (l.map fun s : Nat => .tup [.int s, .int m]) es = some (es ++ esOf (fun _ => m) l)
  | [], es, _, _, _ => by simp [putAll, esOf]
  | s :: l, es, hp, hb, hl => by
    rw [List.length_cons] at hl
    rw [List.pairwise_cons] at hp
    rw [List.map_cons, putAll, if_pos (Nat.le_trans (by omega : es.length ≤ 1000) (Nat.le_of_ble_eq_true rfl)), dPut_new (fun e he => hb e he s (.head _)), putAll_at l _ hp.2 ?_ (by simp; omega)]
    · simp [esOf]
    · intro e he t ht
      rcases List.mem_append.mp he with he | he
      · exact hb e he t (.tail _ ht)
      · rw [List.mem_singleton] at he
        subst he
        have := hp.1 t ht
        show (s : Int) < (t : Int)
        omega
end Mine
end
section
open PySem PySem.W PyProof.Rows
set_option Elab.async false
set_option linter.unusedVariables false
set_option linter.unusedSimpArgs false
namespace Mine

theorem pPow_nat {a b : Nat} (ha : a ≤ 1000) (hb : b ≤ 1000) : pPow (a : Int) (b : Int) = some ((a ^ b : Nat) : Int) := by
  unfold pPow
  rw [if_pos ⟨by omega, by omega, by rw [Int.natAbs_natCast]; exact Nat.lt_of_le_of_lt ha (by decide)⟩, Int.toNat_natCast]
  norm_cast
theorem tOr_t {f g : TF} {ρ : Loc} {hp hp1 : Hp} (h1 : f ρ hp = some (true, hp1)) : tOr f g ρ hp = some (true, hp1) := by
  unfold tOr; rw [h1]; rfl
theorem len_lst {xs : List V} {ρ : Loc} {hp : Hp} {i : Nat} (h : ρ[i]? = some (some (.lst xs))) (hl : xs.length ≤ 1000) : (eCall bLen [(eV i)]) ρ hp = some (.int (xs.length : Nat), hp) := by
  refine eCall_at (evL_c (eV_at h) rfl) ?_
  show ((some xs).bind fun xs => if xs.length ≤ lim then some (V.int xs.length, hp) else none) = _
  rw [Option.bind_some, if_pos (Nat.le_trans hl (Nat.le_of_ble_eq_true rfl))]

noncomputable def R12 (a b : V) (c d e f : Option V) : Loc := [some a, some b, c, d, e, f, none, none, none, none, none]
theorem many_loop {xs : List V} {b : V} {c e f : Option V} {hp : Hp} (hn : xs.length ≤ 7) : ∀ (r m fuel : Nat), m + r = 3 → 1 ≤ m → r < fuel → ∃ m', 1 ≤ m' ∧ m' ≤ 3 ∧
    whileL (tCmp (oCmp fun a b => decide (a < b)) (eBin (oInt pPow) (eC (.int 2)) (eV 3)) (eCall bLen [(eV 0)])) (sCons (sAsg (aVar 3) (eBin (oAdd) (eV 3) (eC (.int 1)))) sNil) fuel (R12 (.lst xs) b c (some (.int (m : Nat))) e f) hp
      = some (.next, R12 (.lst xs) b c (some (.int (m' : Nat))) e f, hp) := by
  intro r
  induction r with
  | zero =>
    intro m fuel hm h1 hf
    obtain ⟨fuel, rfl⟩ : ∃ k, fuel = k + 1 := ⟨fuel - 1, by omega⟩
    obtain rfl : m = 3 := by omega
    refine ⟨3, by decide, by decide, while_f (tCmp_at (eBin_at rfl rfl (oInt_at (pPow_nat (a := 2) (b := 3) (by decide) (by decide)))) (len_lst rfl (by omega)) ?_)⟩
    show some (decide (((2 ^ 3 : Nat) : Int) < ((xs.length : Nat) : Int))) = _
    congr 1
    exact decide_eq_false (by omega)
  | succ r ih =>
    intro m fuel hm h1 hf
    obtain ⟨fuel, rfl⟩ : ∃ k, fuel = k + 1 := ⟨fuel - 1, by omega⟩
    have hm3 : m ≤ 3 := by omega
    by_cases hc : 2 ^ m < xs.length
    · obtain ⟨m', a, b', e'⟩ := ih (m + 1) fuel (by omega) (by omega) (by omega)
      refine ⟨m', a, b', (while_t (tCmp_at (eBin_at rfl rfl (oInt_at (pPow_nat (a := 2) (b := m) (by decide) (by omega)))) (len_lst rfl (by omega)) ?_) ((sCons_n (sAsg_v (eBin_at rfl rfl rfl))).trans rfl)).trans e'⟩
      show some (decide (((2 ^ m : Nat) : Int) < ((xs.length : Nat) : Int))) = _
      congr 1
      exact decide_eq_true (by exact_mod_cast hc)
    · refine ⟨m, h1, hm3, while_f (tCmp_at (eBin_at rfl rfl (oInt_at (pPow_nat (a := 2) (b := m) (by decide) (by omega)))) (len_lst rfl (by omega)) ?_)⟩
      show some (decide (((2 ^ m : Nat) : Int) < ((xs.length : Nat) : Int))) = _
      congr 1
      exact decide_eq_false (by exact_mod_cast hc)

noncomputable def gLen (n k : Nat) : Nat := if 1 < (if n - 1 < k + 1 then n - 1 else k + 1) then (if n - 1 < k + 1 then n - 1 else k + 1) else 1
theorem gLen_ok {n k : Nat} (h : n ≤ 7) : 1 ≤ gLen n k ∧ gLen n k ≤ 15 := by
  unfold gLen
  by_cases h1 : n - 1 < k + 1
  · simp only [h1, if_true]; split <;> omega
  · simp only [h1, if_false]; split <;> omega
theorem gLen_int (n k : Nat) (hn : 1 ≤ n) : (if (if (n : Int) - 1 < (k : Int) + 1 then (n : Int) - 1 else (k : Int) + 1) > 1 then (if (n : Int) - 1 < (k : Int) + 1 then (n : Int) - 1 else (k : Int) + 1) else 1) = ((gLen n k : Nat) : Int) := by
  unfold gLen
  split <;> split <;> (try split at *) <;> (try split at *) <;> omega

noncomputable def enF (n : Nat) : Nat → List Nat → List (Int × V)
  | _, [] => []
  | i, s :: l => ((s : Int), .int (gLen n i : Nat)) :: enF n (i + 1) l
noncomputable def bodyE : SF := (sCons (sSet (eV 2) (eV 4) (eCall bMax2 [(eC (.int 1)), (eCall bMin2 [(eBin (oAdd) (eV 5) (eC (.int 1))), (eBin (oInt pSub) (eCall bLen [(eV 0)]) (eC (.int 1)))])])) sNil)
theorem set_dict {hp : Hp} {m : Nat} {k : Int} {v : V} {es : List (Int × V)} (h : hp[m]? = some (.dict es)) (hl : es.length ≤ 100000) : oSet (.ref m) (.int k) v hp = some (hp.set m (.dict (dPut es k v))) := by
  show (match hp[m]? with | some (.list xs) => if 0 ≤ k ∧ k < xs.length ∧ xs.length ≤ lim then some (hp.set m (.list (xs.set k.toNat v))) else none | some (.dict es) => if es.length ≤ lim then some (hp.set m (.dict (dPut es k v))) else none | _ => none) = _
  rw [h]
  show (if es.length ≤ lim then some (hp.set m (.dict (dPut es k v))) else none) = _
  rw [if_pos (Nat.le_trans hl (Nat.le_of_ble_eq_true rfl))]
theorem set_dict' {hp : Hp} {k : Int} {v : V} {es : List (Int × V)} (hl : es.length ≤ 100000) : oSet (.ref hp.length) (.int k) v (hp ++ [.dict es]) = some (hp ++ [.dict (dPut es k v)]) := by
  rw [set_dict (es := es) (by rw [List.getElem?_append_right (Nat.le_refl _), Nat.sub_self]; rfl) hl]
  congr 1
  rw [List.set_append_right _ _ (Nat.le_refl _), Nat.sub_self]; rfl
theorem enum_loop {xs : List V} {b : V} {d : Option V} {hp : Hp} (hn1 : 1 ≤ xs.length) (hn : xs.length ≤ 7) : ∀ (l : List Nat) (i : Nat) (es : List (Int × V)) (e f : Option V), l.Pairwise (· < ·) → (∀ e ∈ es, ∀ s ∈ l, e.1 < (s : Int)) → es.length + l.length ≤ 1000 → ∃ e' f',
    forL (aTup [5, 4]) bodyE (enumV i (nats l)) (R12 (.lst xs) b (some (.ref hp.length)) d e f) (hp ++ [.dict es])
      = some (.next, R12 (.lst xs) b (some (.ref hp.length)) d e' f', hp ++ [.dict (es ++ enF xs.length i l)]) := by
  intro l
  induction l with
  | nil => intro i es e f _ _ _; exact ⟨e, f, by rw [enF, List.append_nil]; rfl⟩
  | cons s l ih =>
    intro i es e f hp' hb hl
    rw [List.length_cons] at hl
    rw [List.pairwise_cons] at hp'
    obtain ⟨e', f', h⟩ := ih (i + 1) (es ++ [((s : Int), .int (gLen xs.length i : Nat))]) (some (.int s)) (some (.int i)) hp'.2 (by
      intro e he t ht
      rcases List.mem_append.mp he with he | he
      · exact hb e he t (.tail _ ht)
      · rw [List.mem_singleton] at he
        subst he
        have := hp'.1 t ht
        show (s : Int) < (t : Int)
        omega) (by simp; omega)
    refine ⟨e', f', ?_⟩
    have hv : (eCall bMax2 [(eC (.int 1)), (eCall bMin2 [(eBin (oAdd) (eV 5) (eC (.int 1))), (eBin (oInt pSub) (eCall bLen [(eV 0)]) (eC (.int 1)))])]) (R12 (.lst xs) b (some (.ref hp.length)) d (some (.int s)) (some (.int i))) (hp ++ [.dict es]) = some (.int (gLen xs.length i : Nat), hp ++ [.dict es]) := by
      refine eCall_at (evL_c rfl (evL_c (eCall_at (evL_c (eBin_at rfl rfl rfl) (evL_c (eBin_at (len_lst rfl (by omega)) rfl (oInt_at rfl)) rfl)) rfl) rfl)) ?_
      rw [← gLen_int _ _ hn1]
      rfl
    have hset := set_dict' (hp := hp) (k := (s : Int)) (v := .int (gLen xs.length i : Nat)) (es := es) (by omega)
    rw [dPut_new (fun e he => hb e he s (.head _))] at hset
    have hb1 : bodyE (R12 (.lst xs) b (some (.ref hp.length)) d (some (.int s)) (some (.int i))) (hp ++ [.dict es]) = some (.next, R12 (.lst xs) b (some (.ref hp.length)) d (some (.int s)) (some (.int i)), hp ++ [.dict (es ++ [((s : Int), .int (gLen xs.length i : Nat))])]) :=
      (sCons_n (sSet_at hv rfl rfl hset)).trans rfl
    have e1 : enumV i (nats (s :: l)) = .tup [.int i, .int s] :: enumV (i + 1) (nats l) := rfl
    rw [e1, forL_n (a := aTup [5, 4]) (ρ1 := R12 (.lst xs) b (some (.ref hp.length)) d (some (.int s)) (some (.int i))) rfl hb1, h, enF, List.append_assoc]
    rfl
theorem enF_eq {n : Nat} {c : Nat → Bool} : ∀ (k a : Nat), enF n ((List.range a).countP c) ((List.range' a k).filter c) = esOf (fun s => gLen n ((List.range s).countP c)) ((List.range' a k).filter c)
  | 0, a => rfl
  | k + 1, a => by
    have ih := enF_eq (n := n) (c := c) k (a + 1)
    have hc : (List.range (a + 1)).countP c = (List.range a).countP c + if c a = true then 1 else 0 := by
      rw [List.range_succ, List.countP_append, List.countP_cons, List.countP_nil, Nat.zero_add]
    rw [List.range'_succ, List.filter_cons]
    by_cases h : c a = true
    · rw [if_pos h] at hc
      rw [if_pos h, enF, ← hc, ih]; rfl
    · rw [if_neg h] at hc
      rw [if_neg h, ← Nat.add_zero (List.countP c (List.range a)), ← hc]
      exact ih

theorem lengths_at {n : Nat} {c : Nat → Bool} {sp : Int} {hp : Hp} (hs : (sgn n c).length ≤ 7) : ∃ (f : Nat → Nat) (x : O), (∀ s, 1 ≤ f s ∧ f s ≤ 15) ∧
    b_212 [.lst (nats (sgn n c)), .int sp] hp = some (.dct (esOf f (sgn n c)), hp ++ [x]) := by
  have hl : (nats (sgn n c)).length = (sgn n c).length := nats_len _
  unfold b_212 fnF f_212
  have hlen' : ([V.lst (nats (sgn n c)), .int sp] ++ []).length = [0, 1].length := rfl
  rw [if_pos hlen']
  have hset : setAll [0, 1] ([V.lst (nats (sgn n c)), .int sp] ++ []) (List.replicate 11 none) = R12 (.lst (nats (sgn n c))) (.int sp) none none none none := rfl
  rw [hset]
  have a1 : (sAsg (aVar 2) eDict) (R12 (.lst (nats (sgn n c))) (.int sp) none none none none) hp = some (.next, R12 (.lst (nats (sgn n c))) (.int sp) (some (.ref hp.length)) none none none, hp ++ [.dict []]) := rfl
  by_cases h0 : sp = 0
  · subst h0
    obtain ⟨m, m1, m3, em⟩ := many_loop (xs := nats (sgn n c)) (b := .int 0) (c := some (.ref hp.length)) (e := none) (f := none) (hp := hp ++ [.dict []]) (by omega) 2 1 64 rfl (by decide) (by decide)
    have t1 : (tOr (tCmp (oCmp fun a b => a == b) (eV 1) (eC (.int 0))) (tCmp (oCmp fun a b => decide (a > b)) (eCall bLen [(eV 0)]) (eC (.int 12)))) (R12 (.lst (nats (sgn n c))) (.int 0) (some (.ref hp.length)) none none none) (hp ++ [.dict []]) = some (true, hp ++ [.dict []]) := tOr_t (tCmp_at rfl rfl rfl)
    have hc : (eComp (eV 0) [none, none, some 3] none (eTup [(eV 1), (eV 2)]) 1) (R12 (.lst (nats (sgn n c))) (.int 0) (some (.ref hp.length)) (some (.int m)) none none) (hp ++ [.dict []]) = some (.lst ((sgn n c).map fun s : Nat => .tup [.int s, .int m]), hp ++ [.dict []]) := by
      refine (eComp_at (xs := nats (sgn n c)) rfl rfl (compL_eq (g := fun v => .tup [v, .int m]) fun x hx => ?_) ?_).trans ?_
      · exact eTup_at (evL_c rfl (evL_c rfl rfl)) (Nat.le_of_ble_eq_true rfl)
      · exact Nat.le_trans (by omega : _ ≤ 7) (Nat.le_of_ble_eq_true rfl)
      · unfold nats; rw [List.map_map]; rfl
    have hd : (eDictC (eComp (eV 0) [none, none, some 3] none (eTup [(eV 1), (eV 2)]) 1)) (R12 (.lst (nats (sgn n c))) (.int 0) (some (.ref hp.length)) (some (.int m)) none none) (hp ++ [.dict []]) = some (.dct (esOf (fun _ => m) (sgn n c)), hp ++ [.dict []]) := by
      unfold eDictC
      rw [hc, Option.bind_some]
      show (putAll _ []).map _ = _
      rw [putAll_at (m := m) (sgn n c) [] (sgn_asc n c) (fun e he => by cases he) (by simp; omega)]
      rfl
    refine ⟨fun _ => m, .dict [], fun _ => ⟨m1, Nat.le_trans m3 (by decide)⟩, ?_⟩
    have e1 : (sAsg (aVar 3) (eC (.int 1))) (R12 (.lst (nats (sgn n c))) (.int 0) (some (.ref hp.length)) none none none) (hp ++ [.dict []]) = some (.next, R12 (.lst (nats (sgn n c))) (.int 0) (some (.ref hp.length)) (some (.int 1)) none none, hp ++ [.dict []]) := rfl
    exact (congrArg (Option.map _) ((sCons_n a1).trans (sCons_r ((sIf_t t1).trans ((sCons_n e1).trans ((sCons_n em).trans (sCons_r (sRet_v hd)))))))).trans rfl
  · have t1 : (tOr (tCmp (oCmp fun a b => a == b) (eV 1) (eC (.int 0))) (tCmp (oCmp fun a b => decide (a > b)) (eCall bLen [(eV 0)]) (eC (.int 12)))) (R12 (.lst (nats (sgn n c))) (.int sp) (some (.ref hp.length)) none none none) (hp ++ [.dict []]) = some (false, hp ++ [.dict []]) := by
      refine tOr_ff (tCmp_at rfl rfl ?_) (tCmp_at (len_lst rfl (by omega)) rfl ?_)
      · show some (sp == 0) = _
        congr 1
        exact beq_eq_false_iff_ne.mpr h0
      · show some (decide ((((nats (sgn n c)).length : Nat) : Int) > 12)) = _
        congr 1
        exact decide_eq_false (by omega)
    have hen : ∃ e' f', forL (aTup [5, 4]) bodyE (enumV 0 (nats (sgn n c))) (R12 (.lst (nats (sgn n c))) (.int sp) (some (.ref hp.length)) none none none) (hp ++ [.dict []])
        = some (.next, R12 (.lst (nats (sgn n c))) (.int sp) (some (.ref hp.length)) none e' f', hp ++ [.dict (esOf (fun s => gLen (sgn n c).length ((List.range s).countP c)) (sgn n c))]) := by
      by_cases hz : (sgn n c).length = 0
      · have : sgn n c = [] := List.eq_nil_of_length_eq_zero hz
        rw [this]
        exact ⟨none, none, rfl⟩
      · obtain ⟨e', f', h⟩ := enum_loop (xs := nats (sgn n c)) (b := .int sp) (d := none) (hp := hp) (by omega) (by omega) (sgn n c) 0 [] none none (sgn_asc n c) (fun e he => by cases he) (by simp; omega)
        refine ⟨e', f', h.trans ?_⟩
        have := enF_eq (n := (sgn n c).length) (c := c) n 0
        rw [hl, List.nil_append]
        unfold sgn at this ⊢
        rw [List.range_eq_range']
        rw [List.range_eq_range'] at this
        exact congrArg (fun es => some (Fl.next, _, hp ++ [O.dict es])) this
    obtain ⟨e', f', hen⟩ := hen
    refine ⟨fun s => gLen (sgn n c).length ((List.range s).countP c), .dead, fun s => gLen_ok hs, ?_⟩
    have a2 : (sEnum (eV 0) (aTup [5, 4]) bodyE) (R12 (.lst (nats (sgn n c))) (.int sp) (some (.ref hp.length)) none none none) (hp ++ [.dict []]) = _ := hen
    have a3 : (sRet (eFrz (eV 2))) (R12 (.lst (nats (sgn n c))) (.int sp) (some (.ref hp.length)) none e' f') (hp ++ [.dict (esOf (fun s => gLen (sgn n c).length ((List.range s).countP c)) (sgn n c))])
        = some (.ret (.dct (esOf (fun s => gLen (sgn n c).length ((List.range s).countP c)) (sgn n c))), R12 (.lst (nats (sgn n c))) (.int sp) (some (.ref hp.length)) none e' f', hp ++ [.dead]) := by
      refine sRet_v ?_
      show oFrz (.ref hp.length) (hp ++ [.dict _]) = _
      unfold oFrz
      dsimp only
      rw [List.getElem?_append_right (Nat.le_refl _), Nat.sub_self]
      show some (V.dct _, (hp ++ [O.dict _]).set hp.length .dead) = _
      rw [List.set_append_right _ _ (Nat.le_refl _), Nat.sub_self]; rfl
    exact (congrArg (Option.map _) ((sCons_n a1).trans ((sCons_n ((sIf_f t1).trans rfl)).trans ((sCons_n a2).trans (sCons_r a3))))).trans rfl
end Mine
end
section
open PySem PySem.W PyProof.Rows
set_option Elab.async false
set_option linter.unusedVariables false
set_option linter.unusedSimpArgs false
namespace Mine

/-! canonical codes: F tells the length of each sign, 0 for none -/
noncomputable def rk (F : Nat → Nat) (l a : Nat) : Nat := (List.range a).countP fun s => decide (F s = l)
noncomputable def firstOf (F : Nat → Nat) (n : Nat) : Nat → Nat
  | 0 => 0
  | l + 1 => if l = 0 then 0 else 2 * (firstOf F n l + rk F l n)
noncomputable def codeOf (F : Nat → Nat) (n s : Nat) : Nat := firstOf F n (F s) + rk F (F s) s
noncomputable def bitsM (c j : Nat) : List Nat := (List.range j).map fun k => c / 2 ^ (j - 1 - k) % 2
noncomputable def sgF (F : Nat → Nat) (n : Nat) : List Nat := sgn n fun s => decide (0 < F s)
noncomputable def esF (F : Nat → Nat) (n : Nat) : List (Int × V) := esOf F (sgF F n)

theorem rk_succ (F : Nat → Nat) (l a : Nat) : rk F l (a + 1) = rk F l a + if F a = l then 1 else 0 := by
  unfold rk
  rw [List.range_succ, List.countP_append, List.countP_cons, List.countP_nil, Nat.zero_add]
  simp
theorem rk_le {F : Nat → Nat} {l n : Nat} (hl : 0 < l) : rk F l n ≤ (sgF F n).length := by
  unfold rk sgF sgn
  rw [← List.countP_eq_length_filter]
  refine List.countP_mono_left fun s _ h => ?_
  simp only [decide_eq_true_eq] at h ⊢
  omega
theorem first_le {F : Nat → Nat} {n : Nat} (h : (sgF F n).length ≤ 7) : ∀ l, firstOf F n l + 14 ≤ 14 * 2 ^ l
  | 0 => by simp [firstOf]
  | l + 1 => by
    have ih := first_le h l
    rw [firstOf]
    split
    · rename_i h0; subst h0; decide
    · rename_i h0
      have := rk_le (F := F) (l := l) (n := n) (Nat.pos_of_ne_zero h0)
      rw [Nat.pow_succ]
      omega
theorem first_lt {F : Nat → Nat} {n l : Nat} (h : (sgF F n).length ≤ 7) (hl : l ≤ 18) : firstOf F n l ≤ 4000000 := by
  have := first_le h l
  have h2 : 2 ^ l ≤ 2 ^ 18 := Nat.pow_le_pow_right (by decide) hl
  have h3 : (2 : Nat) ^ 18 = 262144 := rfl
  omega

theorem dGet_esOf {F : Nat → Nat} {s : Nat} : ∀ l : List Nat, dGet (esOf F l) s = if s ∈ l then some (.int (F s : Nat)) else none
  | [] => rfl
  | t :: l => by
    have ih := dGet_esOf (F := F) (s := s) l
    unfold dGet esOf at ih ⊢
    rw [List.map_cons, List.find?_cons]
    by_cases h : t = s
    · subst h
      simp
    · have h1 : ¬ ((t : Nat) : Int) = (s : Int) := by omega
      simp only [h1, decide_false]
      rw [ih]
      have : s ∈ t :: l ↔ s ∈ l := by
        rw [List.mem_cons]
        constructor
        · rintro (rfl | q)
          · exact (h rfl).elim
          · exact q
        · exact .inr
      simp only [this]
theorem mem_sgF {F : Nat → Nat} {n s : Nat} : s ∈ sgF F n ↔ s < n ∧ 0 < F s := by
  unfold sgF sgn
  rw [List.mem_filter, List.mem_range, decide_eq_true_eq]
theorem asc_keys {F : Nat → Nat} : ∀ {l : List Nat}, l.Pairwise (· < ·) → lks_asc ((esOf F l).map (·.1)) = true
  | [], _ => rfl
  | s :: l, h => by
    rw [List.pairwise_cons] at h
    show (((esOf F l).map (·.1)).all (fun b => decide ((s : Int) ≤ b)) && lks_asc ((esOf F l).map (·.1))) = true
    rw [Bool.and_eq_true]
    refine ⟨?_, asc_keys h.2⟩
    rw [List.all_eq_true]
    intro b hb
    unfold esOf at hb
    rw [List.map_map] at hb
    obtain ⟨t, ht, rfl⟩ := List.mem_map.mp hb
    have := h.1 t ht
    exact decide_eq_true (by show (s : Int) ≤ (t : Int); omega)
theorem sorted_at {F : Nat → Nat} {n : Nat} {ρ : Loc} {hp : Hp} (h : (sgF F n).length ≤ 7) (h0 : ρ[0]? = some (some (.dct (esF F n)))) : (eCall bSorted [(eV 0)]) ρ hp = some (.lst (nats (sgF F n)), hp) := by
  refine eCall_at (evL_c (eV_at h0) rfl) ?_
  show ((some (esF F n)).bind fun es => if lks_asc (es.map (·.1)) = true ∧ es.length < 64 then some (V.lst (es.map fun e => .int e.1), hp) else none) = _
  rw [Option.bind_some, if_pos ⟨asc_keys (sgn_asc _ _), by unfold esF esOf; rw [List.length_map]; omega⟩]
  unfold esF esOf nats
  rw [List.map_map]
  rfl

/-- law's code of a sign, as a list of bits -/
noncomputable def bitsV (F : Nat → Nat) (n s : Nat) : V := .lst (nats (bitsM (codeOf F n s) (F s)))
theorem bitsComp {num m : Nat} {a b : V} {t4 : Option V} {hp : Hp} {ρ : Loc} (h3 : ρ[3]? = some (some (.int m))) (h2 : ρ[2]? = some (some (.int num))) (hm : m ≤ 20) :
    (eComp (eCall bRange [(eV 3)]) [none, none, some 3, some 2] none (eBin (oInt pMod) (eBin (oInt pDiv) (eV 3) (eBin (oInt pPow) (eC (.int 2)) (eBin (oInt pSub) (eBin (oInt pSub) (eV 2) (eC (.int 1))) (eV 1)))) (eC (.int 2))) 1) ρ hp
      = some (.lst (nats (bitsM num m)), hp) := by
  have hml : mkLoc [none, none, some 3, some 2] ρ = [none, none, some (.int m), some (.int num)] := by
    unfold mkLoc
    simp only [List.map_cons, List.map_nil, Option.bind_none, Option.bind_some, h2, h3, Option.join_some]
  have hr : (eCall bRange [(eV 3)]) ρ hp = some (.rng 0 m 1, hp) := eCall_at (evL_c (eV_at h3) rfl) rfl
  have hi := items_range m (Nat.le_trans hm (by decide))
  have hc : compL none (eBin (oInt pMod) (eBin (oInt pDiv) (eV 3) (eBin (oInt pPow) (eC (.int 2)) (eBin (oInt pSub) (eBin (oInt pSub) (eV 2) (eC (.int 1))) (eV 1)))) (eC (.int 2))) 1 (vInts m 0 1) (mkLoc [none, none, some 3, some 2] ρ) hp
      = some ((vInts m 0 1).map (fun v => match v with | .int k => .int ((num / 2 ^ (m - 1 - k.toNat) % 2 : Nat) : Int) | v => v), hp) := by
    refine compL_eq fun x hx => ?_
    unfold vInts at hx
    obtain ⟨k, hk, rfl⟩ := List.mem_map.mp hx
    have hk := List.mem_range.mp hk
    have ek : (0 : Int) + (k : Nat) * 1 = (k : Int) := by omega
    rw [ek, hml]
    have hs1 : pSub (m : Int) 1 = some ((m - 1 : Nat) : Int) := by unfold pSub; congr 1; omega
    have hs2 : pSub ((m - 1 : Nat) : Int) (k : Int) = some ((m - 1 - k : Nat) : Int) := by unfold pSub; congr 1; omega
    have hpw : 2 ^ (m - 1 - k) < 1073741824 := Nat.lt_of_le_of_lt (Nat.pow_le_pow_right (by decide) (by omega : m - 1 - k ≤ 20)) (by decide)
    have hd := pDiv_nat num (2 ^ (m - 1 - k)) ⟨Nat.pow_pos (by decide), hpw⟩
    exact eBin_at (eBin_at rfl (eBin_at rfl (eBin_at (eBin_at rfl rfl (oInt_at hs1)) rfl (oInt_at hs2)) (oInt_at (pPow_nat (a := 2) (by decide) (by omega)))) (oInt_at hd)) rfl (oInt_at (pMod_nat _ 2 (by decide)))
  refine (eComp_at hr hi hc ?_).trans ?_
  · unfold vInts; rw [List.length_map, List.length_range]; exact Nat.le_trans hm (Nat.le_of_ble_eq_true rfl)
  · unfold vInts nats bitsM
    rw [List.map_map, List.map_map]
    congr 3
    refine List.map_congr_left fun k hk => ?_
    show V.int ((num / 2 ^ (m - 1 - ((0 : Int) + (k : Nat) * 1).toNat) % 2 : Nat) : Int) = V.int ((num / 2 ^ (m - 1 - k) % 2 : Nat) : Int)
    have ek : ((0 : Int) + (k : Nat) * 1).toNat = k := by omega
    rw [ek]

noncomputable def R7 (a b : V) (num m : Nat) (t4 : Option V) : Loc := [some a, some b, some (.int num), some (.int m), t4, none, none]
noncomputable def DoneTo (F : Nat → Nat) (n m a : Nat) (found : List (Int × V)) : Prop := ∀ s, s < n → 0 < F s → (F s < m ∨ (F s = m ∧ s < a)) → dGet found s = some (bitsV F n s)
noncomputable def bodyI : SF := (sCons (sIf (tCmp (oCmp fun a b => a == b) (eIdx (eV 0) (eV 4)) (eV 3)) (sCons (sSet (eV 1) (eV 4) (eComp (eCall bRange [(eV 3)]) [none, none, some 3, some 2] none (eBin (oInt pMod) (eBin (oInt pDiv) (eV 3) (eBin (oInt pPow) (eC (.int 2)) (eBin (oInt pSub) (eBin (oInt pSub) (eV 2) (eC (.int 1))) (eV 1)))) (eC (.int 2))) 1)) (sCons (sAsg (aVar 2) (eBin (oAdd) (eV 2) (eC (.int 1)))) sNil)) sNil) sNil)
theorem codes_inner {F : Nat → Nat} {n m : Nat} {hp : Hp} (hm1 : 1 ≤ m) (hm : m ≤ 15) : ∀ (k a : Nat) (found : List (Int × V)) (t4 : Option V), a + k = n → DoneTo F n m a found → found.length + k ≤ 90000 → ∃ found' t4',
    forL (aVar 4) bodyI (nats ((List.range' a k).filter fun s => decide (0 < F s))) (R7 (.dct (esF F n)) (.ref hp.length) (firstOf F n m + rk F m a) m t4) (hp ++ [.dict found])
      = some (.next, R7 (.dct (esF F n)) (.ref hp.length) (firstOf F n m + rk F m n) m t4', hp ++ [.dict found']) ∧ DoneTo F n m n found' ∧ found'.length ≤ found.length + k := by
  intro k
  induction k with
  | zero =>
    intro a found t4 ha hd hl
    obtain rfl : a = n := by omega
    exact ⟨found, t4, rfl, hd, Nat.le_refl _⟩
  | succ k ih =>
    intro a found t4 ha hd hl
    rw [List.range'_succ, List.filter_cons]
    by_cases h0 : 0 < F a
    · rw [if_pos (decide_eq_true h0)]
      have hmem : a ∈ sgF F n := mem_sgF.mpr ⟨by omega, h0⟩
      have hget : ∀ hp, oIdx (.dct (esF F n)) (.int (a : Nat)) hp = some (.int (F a : Nat)) := fun hp => by
        show dGet (esF F n) (a : Int) = _
        unfold esF
        rw [dGet_esOf, if_pos hmem]
      have hi : ∀ num hp, (eIdx (eV 0) (eV 4)) (R7 (.dct (esF F n)) (.ref hp.length) num m (some (.int a))) hp = some (.int (F a : Nat), hp) := fun num hp => eIdx_at rfl rfl (hget _)
      have e1 : nats (a :: (List.range' (a + 1) k).filter fun s => decide (0 < F s)) = .int a :: nats ((List.range' (a + 1) k).filter fun s => decide (0 < F s)) := rfl
      rw [e1]
      by_cases hf : F a = m
      · have hset := set_dict' (hp := hp) (k := (a : Int)) (v := bitsV F n a) (es := found) (by omega)
        have hb : bodyI (R7 (.dct (esF F n)) (.ref hp.length) (firstOf F n m + rk F m a) m (some (.int a))) (hp ++ [.dict found])
            = some (.next, R7 (.dct (esF F n)) (.ref hp.length) (firstOf F n m + rk F m (a + 1)) m (some (.int a)), hp ++ [.dict (dPut found a (bitsV F n a))]) := by
          have t1 : (tCmp (oCmp fun a b => a == b) (eIdx (eV 0) (eV 4)) (eV 3)) (R7 (.dct (esF F n)) (.ref hp.length) (firstOf F n m + rk F m a) m (some (.int a))) (hp ++ [.dict found]) = some (true, hp ++ [.dict found]) := by
            refine tCmp_at (eIdx_at rfl rfl (hget _)) rfl ?_
            show some (((F a : Nat) : Int) == ((m : Nat) : Int)) = _
            rw [hf]; simp
          have hv : (eComp (eCall bRange [(eV 3)]) [none, none, some 3, some 2] none (eBin (oInt pMod) (eBin (oInt pDiv) (eV 3) (eBin (oInt pPow) (eC (.int 2)) (eBin (oInt pSub) (eBin (oInt pSub) (eV 2) (eC (.int 1))) (eV 1)))) (eC (.int 2))) 1) (R7 (.dct (esF F n)) (.ref hp.length) (firstOf F n m + rk F m a) m (some (.int a))) (hp ++ [.dict found]) = some (bitsV F n a, hp ++ [.dict found]) := by
            have := bitsComp (num := firstOf F n m + rk F m a) (m := m) (a := .none) (b := .none) (t4 := none) (hp := hp ++ [.dict found]) (ρ := R7 (.dct (esF F n)) (.ref hp.length) (firstOf F n m + rk F m a) m (some (.int a))) rfl rfl (by omega)
            rw [this]
            unfold bitsV codeOf
            rw [hf]
          have hadd : (sAsg (aVar 2) (eBin (oAdd) (eV 2) (eC (.int 1)))) (R7 (.dct (esF F n)) (.ref hp.length) (firstOf F n m + rk F m a) m (some (.int a))) (hp ++ [.dict (dPut found a (bitsV F n a))]) = some (.next, R7 (.dct (esF F n)) (.ref hp.length) (firstOf F n m + rk F m (a + 1)) m (some (.int a)), hp ++ [.dict (dPut found a (bitsV F n a))]) := by
            rw [sAsg_v (eBin_at (v := .int ((firstOf F n m + rk F m a + 1 : Nat) : Int)) rfl rfl rfl), rk_succ, if_pos hf]
            rfl
          exact (sCons_n ((sIf_t t1).trans ((sCons_n (sSet_at hv rfl rfl hset)).trans ((sCons_n hadd).trans rfl)))).trans rfl
        obtain ⟨found', t4', h1, h2, h3⟩ := ih (a + 1) (dPut found a (bitsV F n a)) (some (.int a)) (by omega) (by
          intro s hs hs0 hc
          rw [dGet_put]
          by_cases hsa : s = a
          · subst hsa; rw [if_pos rfl]
          · rw [if_neg (by omega)]
            exact hd s hs hs0 (by omega)) (by have := dPut_len found a (bitsV F n a); omega)
        refine ⟨found', t4', ?_, h2, by have := dPut_len found a (bitsV F n a); omega⟩
        rw [forL_n (a := aVar 4) (ρ1 := R7 (.dct (esF F n)) (.ref hp.length) (firstOf F n m + rk F m a) m (some (.int a))) rfl hb, h1]
      · have hb : bodyI (R7 (.dct (esF F n)) (.ref hp.length) (firstOf F n m + rk F m a) m (some (.int a))) (hp ++ [.dict found])
            = some (.next, R7 (.dct (esF F n)) (.ref hp.length) (firstOf F n m + rk F m (a + 1)) m (some (.int a)), hp ++ [.dict found]) := by
          have t1 : (tCmp (oCmp fun a b => a == b) (eIdx (eV 0) (eV 4)) (eV 3)) (R7 (.dct (esF F n)) (.ref hp.length) (firstOf F n m + rk F m a) m (some (.int a))) (hp ++ [.dict found]) = some (false, hp ++ [.dict found]) := by
            refine tCmp_at (eIdx_at rfl rfl (hget _)) rfl ?_
            show some (((F a : Nat) : Int) == ((m : Nat) : Int)) = _
            congr 1
            exact beq_eq_false_iff_ne.mpr (by omega)
          rw [rk_succ, if_neg hf, Nat.add_zero]
          exact (sCons_n ((sIf_f t1).trans rfl)).trans rfl
        obtain ⟨found', t4', h1, h2, h3⟩ := ih (a + 1) found (some (.int a)) (by omega) (by
          intro s hs hs0 hc
          refine hd s hs hs0 ?_
          by_cases hsa : s = a
          · subst hsa; omega
          · omega) (by omega)
        refine ⟨found', t4', ?_, h2, by omega⟩
        rw [forL_n (a := aVar 4) (ρ1 := R7 (.dct (esF F n)) (.ref hp.length) (firstOf F n m + rk F m a) m (some (.int a))) rfl hb, h1]
    · rw [if_neg (by simpa using h0)]
      obtain ⟨found', t4', h1, h2, h3⟩ := ih (a + 1) found t4 (by omega) (by
        intro s hs hs0 hc
        refine hd s hs hs0 ?_
        by_cases hsa : s = a
        · subst hsa; omega
        · omega) (by omega)
      refine ⟨found', t4', ?_, h2, by omega⟩
      rw [rk_succ, if_neg (by omega : ¬ F a = m), Nat.add_zero] at h1
      exact h1
end Mine
end
section
open PySem PySem.W PyProof.Rows
set_option Elab.async false
set_option linter.unusedVariables false
set_option linter.unusedSimpArgs false
namespace Mine

theorem items_range1 (m : Nat) (h : m ≤ 1000) : itemsOf (.rng 1 ((m : Int) + 1) 1) = some (vInts m 1 1) := by
  have : Builtin.Range.rangeSize 1 ((m : Int) + 1) 1 = m := by
    unfold Builtin.Range.rangeSize
    rw [if_pos (by decide)]
    split <;> omega
  show (if (0 : Int) < 1 ∧ (1 : Int) ≤ 1000 ∧ (1 : Int).natAbs ≤ 2 ^ 40 ∧ ((m : Int) + 1).natAbs ≤ 2 ^ 40 then some (vInts (Builtin.Range.rangeSize 1 ((m : Int) + 1) 1).toNat 1 1) else none) = _
  rw [this, if_pos ⟨by decide, by decide, by decide, by omega⟩]
  simp
noncomputable def R7' (a b : V) (num : Nat) (t3 t4 : Option V) : Loc := [some a, some b, some (.int num), t3, t4, none, none]
noncomputable def bodyO : SF := (sCons (sAsg (aVar 2) (eBin (oInt pMul) (eV 2) (eC (.int 2)))) (sCons (sFor (eCall bSorted [(eV 0)]) (aVar 4) bodyI) sNil))
theorem codes_outer {F : Nat → Nat} {n : Nat} {hp : Hp} (h7 : (sgF F n).length ≤ 7) (hn : n ≤ 300) : ∀ (r m e : Nat) (found : List (Int × V)) (t3 t4 : Option V), m + r = 16 → 1 ≤ m → 2 * e = firstOf F n m → DoneTo F n m 0 found → found.length ≤ m * n → ∃ e' found' t3' t4',
    forL (aVar 3) bodyO (vInts r m 1) (R7' (.dct (esF F n)) (.ref hp.length) e t3 t4) (hp ++ [.dict found])
      = some (.next, R7' (.dct (esF F n)) (.ref hp.length) e' t3' t4', hp ++ [.dict found']) ∧ DoneTo F n 16 0 found' := by
  intro r
  induction r with
  | zero =>
    intro m e found t3 t4 hm h1 he hd hl
    obtain rfl : m = 16 := by omega
    exact ⟨e, found, t3, t4, rfl, hd⟩
  | succ r ih =>
    intro m e found t3 t4 hm h1 he hd hl
    have hmul : m * n ≤ 16 * 300 := Nat.mul_le_mul (by omega) hn
    obtain ⟨found', t4', i1, i2, i3⟩ := codes_inner (F := F) (n := n) (m := m) (hp := hp) h1 (by omega) n 0 found t4 (by omega) hd (by omega)
    have hf := first_lt h7 (by omega : m ≤ 18)
    have a1 : (sAsg (aVar 2) (eBin (oInt pMul) (eV 2) (eC (.int 2)))) (R7' (.dct (esF F n)) (.ref hp.length) e (some (.int m)) t4) (hp ++ [.dict found]) = some (.next, R7 (.dct (esF F n)) (.ref hp.length) (firstOf F n m + rk F m 0) m t4, hp ++ [.dict found]) := by
      have hmul : pMul (e : Int) 2 = some ((firstOf F n m : Nat) : Int) := by
        unfold pMul
        rw [if_pos (by rw [Int.natAbs_natCast]; omega)]
        congr 1
        omega
      rw [sAsg_v (eBin_at rfl rfl (oInt_at hmul))]
      rfl
    rw [← List.range_eq_range'] at i1
    have hb : bodyO (R7' (.dct (esF F n)) (.ref hp.length) e (some (.int m)) t4) (hp ++ [.dict found]) = some (.next, R7' (.dct (esF F n)) (.ref hp.length) (firstOf F n m + rk F m n) (some (.int m)) t4', hp ++ [.dict found']) :=
      (sCons_n a1).trans ((sCons_n (sFor_at (sorted_at h7 rfl) rfl i1)).trans rfl)
    obtain ⟨e', found'', t3', t4'', j1, j2⟩ := ih (m + 1) (firstOf F n m + rk F m n) found' (some (.int m)) t4' (by omega) (by omega) (by rw [firstOf, if_neg (by omega)]) (fun s hs hs0 hc => i2 s hs hs0 (by omega)) (by rw [Nat.succ_mul]; omega)
    refine ⟨e', found'', t3', t4'', ?_, j2⟩
    rw [vInts_succ, forL_n (a := aVar 3) (ρ1 := R7' (.dct (esF F n)) (.ref hp.length) e (some (.int m)) t4) rfl hb]
    have : ((m : Int) + 1) = ((m + 1 : Nat) : Int) := by norm_cast
    rw [this]
    exact j1
theorem frz_last {hp : Hp} {es : List (Int × V)} : oFrz (.ref hp.length) (hp ++ [.dict es]) = some (.dct es, hp ++ [.dead]) := by
  unfold oFrz
  dsimp only
  rw [List.getElem?_append_right (Nat.le_refl _), Nat.sub_self]
  show some (V.dct _, (hp ++ [O.dict _]).set hp.length .dead) = _
  rw [List.set_append_right _ _ (Nat.le_refl _), Nat.sub_self]; rfl
theorem codes_at {F : Nat → Nat} {n : Nat} {hp : Hp} (h7 : (sgF F n).length ≤ 7) (hF : ∀ s, F s ≤ 15) (hn : n ≤ 300) : ∃ found, b_207 [.dct (esF F n)] hp = some (.dct found, hp ++ [.dead]) ∧ ∀ s, s < n → 0 < F s → dGet found s = some (bitsV F n s) := by
  obtain ⟨e', found', t3', t4', h1, h2⟩ := codes_outer (F := F) (n := n) (hp := hp) h7 hn 15 1 0 [] none none rfl (Nat.le_refl _) rfl (fun s hs hs0 hc => by omega) (Nat.zero_le _)
  refine ⟨found', ?_, fun s hs hs0 => h2 s hs hs0 (.inl (by have := hF s; omega))⟩
  unfold b_207 fnF f_207
  have hlen' : ([V.dct (esF F n)] ++ []).length = [0].length := rfl
  rw [if_pos hlen']
  have hset : setAll [0] ([V.dct (esF F n)] ++ []) (List.replicate 7 none) = [some (.dct (esF F n)), none, none, none, none, none, none] := rfl
  rw [hset]
  have a1 : (sAsg (aTup [1, 2]) (eTup [eDict, (eC (.int 0))])) [some (.dct (esF F n)), none, none, none, none, none, none] hp = some (.next, R7' (.dct (esF F n)) (.ref hp.length) 0 none none, hp ++ [.dict []]) := by
    unfold sAsg
    rw [eTup_at (vs := [.ref hp.length, .int 0]) (evL_c rfl (evL_c rfl rfl)) (Nat.le_of_ble_eq_true rfl)]
    rfl
  have a2 : (sFor (eCall bRange [(eC (.int 1)), (eC (.int 16))]) (aVar 3) bodyO) (R7' (.dct (esF F n)) (.ref hp.length) 0 none none) (hp ++ [.dict []]) = _ :=
    sFor_at (v := .rng 1 16 1) rfl (items_range1 15 (by decide)) h1
  have a3 : (sRet (eFrz (eV 1))) (R7' (.dct (esF F n)) (.ref hp.length) e' t3' t4') (hp ++ [.dict found']) = some (.ret (.dct found'), R7' (.dct (esF F n)) (.ref hp.length) e' t3' t4', hp ++ [.dead]) :=
    sRet_v frz_last
  exact (congrArg (Option.map _) ((sCons_n a1).trans ((sCons_n a2).trans (sCons_r a3)))).trans rfl
end Mine
end
section
open PySem PySem.W PyProof.Rows
set_option Elab.async false
set_option linter.unusedVariables false
set_option linter.unusedSimpArgs false
namespace Mine

theorem ap0 {hp : Hp} {x : O} {r : List O} : (hp ++ x :: r)[hp.length]? = some x := by
  rw [List.getElem?_append_right (Nat.le_refl _), Nat.sub_self]; rfl
theorem ap1 {hp : Hp} {x y : O} {r : List O} : (hp ++ x :: y :: r)[hp.length + 1]? = some y := by
  rw [List.getElem?_append_right (by omega), Nat.add_sub_cancel_left]; rfl
theorem ap2 {hp : Hp} {x y z : O} {r : List O} : (hp ++ x :: y :: z :: r)[hp.length + 2]? = some z := by
  rw [List.getElem?_append_right (by omega), Nat.add_sub_cancel_left]; rfl
theorem st0 {hp : Hp} {x w : O} {r : List O} : (hp ++ x :: r).set hp.length w = hp ++ w :: r := by
  rw [List.set_append_right _ _ (Nat.le_refl _), Nat.sub_self]; rfl
theorem st1 {hp : Hp} {x y w : O} {r : List O} : (hp ++ x :: y :: r).set (hp.length + 1) w = hp ++ x :: w :: r := by
  rw [List.set_append_right _ _ (by omega), Nat.add_sub_cancel_left]; rfl
theorem st2 {hp : Hp} {x y z w : O} {r : List O} : (hp ++ x :: y :: z :: r).set (hp.length + 2) w = hp ++ x :: y :: w :: r := by
  rw [List.set_append_right _ _ (by omega), Nat.add_sub_cancel_left]; rfl
theorem getD_set {xs : List Nat} {i j y : Nat} (hi : i < xs.length) : (xs.set i y).getD j 0 = if i = j then y else xs.getD j 0 := by
  rw [List.getD_eq_getElem?_getD, List.getD_eq_getElem?_getD, List.getElem?_set]
  by_cases h : i = j
  · subst h; rw [if_pos rfl, if_pos hi, if_pos rfl]; rfl
  · rw [if_neg h, if_neg h]
theorem asInts_nats : ∀ xs : List Nat, asInts (nats xs) = some (xs.map fun x : Nat => (x : Int))
  | [] => rfl
  | x :: xs => by
    show (asInts (nats xs)).map ((x : Int) :: ·) = _
    rw [asInts_nats xs]; rfl
theorem max_nats : ∀ (xs : List Nat) (a : Nat), (∀ x ∈ a :: xs, x ≤ 15) → ∃ M : Nat, M ≤ 15 ∧ (xs.map fun x : Nat => (x : Int)).foldl max (a : Int) = (M : Int) ∧ ∀ x ∈ a :: xs, x ≤ M
  | [], a, h => ⟨a, h a (.head _), rfl, fun x hx => by rw [List.mem_singleton.mp hx]; exact Nat.le_refl _⟩
  | b :: xs, a, h => by
    obtain ⟨M, h1, h2, h3⟩ := max_nats xs (max a b) fun x hx => by
      rcases List.mem_cons.mp hx with rfl | hx
      · have := h a (.head _); have := h b (.tail _ (.head _)); omega
      · exact h x (.tail _ (.tail _ hx))
    refine ⟨M, h1, ?_, ?_⟩
    · rw [List.map_cons, List.foldl_cons, ← h2]
      have : max (a : Int) (b : Int) = ((max a b : Nat) : Int) := by omega
      rw [this]
    · intro x hx
      have hm := h3 _ (.head _)
      rcases List.mem_cons.mp hx with rfl | hx
      · omega
      · rcases List.mem_cons.mp hx with rfl | hx
        · omega
        · exact h3 x (.tail _ hx)
theorem max_at {xs : List Nat} {i : Nat} {ρ : Loc} {hp : Hp} (hne : 0 < xs.length) (hx : ∀ x ∈ xs, x ≤ 15) (h0 : ρ[i]? = some (some (.lst (nats xs)))) : ∃ M : Nat, M ≤ 15 ∧ (∀ x ∈ xs, x ≤ M) ∧ (eCall bMax [(eV i)]) ρ hp = some (.int M, hp) := by
  obtain ⟨a, xs, rfl⟩ : ∃ a l, xs = a :: l := by
    cases xs with
    | nil => simp at hne
    | cons a l => exact ⟨a, l, rfl⟩
  obtain ⟨M, h1, h2, h3⟩ := max_nats xs a hx
  refine ⟨M, h1, h3, eCall_at (evL_c (eV_at h0) rfl) ?_⟩
  show ((some (nats (a :: xs))).bind fun xs => (asInts xs).bind fun ns => ns.max?.map fun m => (V.int m, hp)) = _
  rw [Option.bind_some, asInts_nats, Option.bind_some, List.map_cons, List.max?_cons', Option.map_some, h2]

noncomputable def R9 (xs : List Nat) (b : V) (t2 t3 t4 t5 : Option V) : Loc := [some (.lst (nats xs)), some b, t2, t3, t4, t5, none, none, none]
noncomputable def bodyK1 : SF := (sCons (sIf (tCmp (oCmp fun a b => decide (a > b)) (eV 2) (eC (.int 0))) (sCons (sSet (eV 1) (eV 2) (eBin (oAdd) (eIdx (eV 1) (eV 2)) (eC (.int 1)))) sNil) sNil) sNil)
theorem gt_case {ρ : Loc} {hp : Hp} {i : Nat} {a k : Nat} (h : ρ[i]? = some (some (.int a))) {b : Bool} (hb : decide (k < a) = b) : (tCmp (oCmp fun a b => decide (a > b)) (eV i) (eC (.int k))) ρ hp = some (b, hp) := by
  refine tCmp_at (eV_at h) rfl ?_
  show some (decide ((a : Int) > (k : Int))) = _
  rw [← hb]
  congr 1
  rw [decide_eq_decide]; omega
theorem loopK1 {F : Nat → Nat} {ls : List Nat} {M : Nat} {hp : Hp} (hM : M ≤ 15) (hF : ∀ s, F s ≤ M) {t3 t4 t5 : Option V} : ∀ (k a : Nat) (A : List Nat) (t2 : Option V), A.length = M + 2 → (∀ l, 1 ≤ l → A.getD l 0 = if l ≤ M then rk F l a else 0) → ∃ A' t2', A'.length = M + 2 ∧ (∀ l, 1 ≤ l → A'.getD l 0 = if l ≤ M then rk F l (a + k) else 0) ∧
    forL (aVar 2) bodyK1 (nats ((List.range' a k).map F)) (R9 ls (.ref hp.length) t2 t3 t4 t5) (hp ++ [.list (nats A)]) = some (.next, R9 ls (.ref hp.length) t2' t3 t4 t5, hp ++ [.list (nats A')]) := by
  intro k
  induction k with
  | zero => intro a A t2 h1 h2; exact ⟨A, t2, h1, h2, rfl⟩
  | succ k ih =>
    intro a A t2 h1 h2
    have e1 : nats ((List.range' a (k + 1)).map F) = .int (F a : Nat) :: nats ((List.range' (a + 1) k).map F) := by rw [List.range'_succ]; rfl
    have hFa := hF a
    by_cases h0 : 0 < F a
    · have hb : bodyK1 (R9 ls (.ref hp.length) (some (.int (F a : Nat))) t3 t4 t5) (hp ++ [.list (nats A)]) = some (.next, R9 ls (.ref hp.length) (some (.int (F a : Nat))) t3 t4 t5, hp ++ [.list (nats (inc A (F a)))]) := by
        have hs := inc_at (fo := eV 1) (fi := eV 2) (ρ := R9 ls (.ref hp.length) (some (.int (F a : Nat))) t3 t4 t5) (hp := hp ++ [.list (nats A)]) (m := hp.length) (i := F a) (xs := A) (fun hp => rfl) rfl ap0 (by omega) (by omega)
        rw [st0] at hs
        exact (sCons_n ((sIf_t (gt_case (k := 0) rfl (decide_eq_true h0))).trans ((sCons_n hs).trans rfl))).trans rfl
      obtain ⟨A', t2', g1, g2, g3⟩ := ih (a + 1) (inc A (F a)) (some (.int (F a : Nat))) ((inc_len _ _).trans h1) (by
        intro l hl
        unfold inc
        rw [getD_set (by omega), rk_succ, h2 l hl]
        by_cases hq : F a = l
        · subst hq
          rw [if_pos rfl, if_pos rfl, h2 _ hl, if_pos hFa, if_pos hFa]
        · rw [if_neg hq, if_neg hq, Nat.add_zero])
      refine ⟨A', t2', g1, fun l hl => by rw [g2 l hl, show a + 1 + k = a + (k + 1) by omega], ?_⟩
      rw [e1, forL_n (a := aVar 2) (ρ1 := R9 ls (.ref hp.length) (some (.int (F a : Nat))) t3 t4 t5) rfl hb, g3]
    · have hb : bodyK1 (R9 ls (.ref hp.length) (some (.int (F a : Nat))) t3 t4 t5) (hp ++ [.list (nats A)]) = some (.next, R9 ls (.ref hp.length) (some (.int (F a : Nat))) t3 t4 t5, hp ++ [.list (nats A)]) :=
        (sCons_n ((sIf_f (gt_case (k := 0) rfl (decide_eq_false h0))).trans rfl)).trans rfl
      obtain ⟨A', t2', g1, g2, g3⟩ := ih (a + 1) A (some (.int (F a : Nat))) h1 (by
        intro l hl
        rw [rk_succ, h2 l hl, if_neg (by omega : ¬ F a = l), Nat.add_zero])
      refine ⟨A', t2', g1, fun l hl => by rw [g2 l hl, show a + 1 + k = a + (k + 1) by omega], ?_⟩
      rw [e1, forL_n (a := aVar 2) (ρ1 := R9 ls (.ref hp.length) (some (.int (F a : Nat))) t3 t4 t5) rfl hb, g3]

noncomputable def bodyK2 : SF := (sCons (sAsg (aVar 4) (eBin (oInt pShl) (eBin (oAdd) (eV 4) (eIf (tCmp (oCmp fun a b => decide (a > b)) (eV 2) (eC (.int 1))) (eIdx (eV 1) (eBin (oInt pSub) (eV 2) (eC (.int 1)))) (eC (.int 0)))) (eC (.int 1)))) (sCons (sSet (eV 3) (eV 2) (eV 4)) sNil))
theorem pShl1 {a : Nat} (h : a ≤ 100000000) : pShl (a : Int) 1 = some ((2 * a : Nat) : Int) := by
  unfold pShl
  rw [if_pos ⟨by decide, by decide, by rw [Int.natAbs_natCast]; omega⟩]
  congr 1
  show (a : Int) * 2 ^ 1 = _
  omega
theorem loopK2 {F : Nat → Nat} {n : Nat} {ls : List Nat} {M : Nat} {hp : Hp} {A : List Nat} (h7 : (sgF F n).length ≤ 7) (hM : M ≤ 15) (hA : A.length = M + 2) (hA2 : ∀ l, 1 ≤ l → A.getD l 0 = if l ≤ M then rk F l n else 0) (t5 : Option V) :
    ∀ (r l : Nat) (B : List Nat) (t2 : Option V), l + r = M + 2 → 1 ≤ l → B.length = M + 2 → (∀ j, 1 ≤ j → j < l → B.getD j 0 = firstOf F n j) → ∃ B' t2' c', B'.length = M + 2 ∧ (∀ j, 1 ≤ j → j < M + 2 → B'.getD j 0 = firstOf F n j) ∧
    forL (aVar 2) bodyK2 (vInts r l 1) (R9 ls (.ref hp.length) t2 (some (.ref (hp.length + 1))) (some (.int (firstOf F n (l - 1) : Nat))) t5) (hp ++ [.list (nats A), .list (nats B)])
      = some (.next, R9 ls (.ref hp.length) t2' (some (.ref (hp.length + 1))) c' t5, hp ++ [.list (nats A), .list (nats B')]) := by
  intro r
  induction r with
  | zero =>
    intro l B t2 hl h1 hB hB2
    exact ⟨B, t2, _, hB, fun j j1 j2 => hB2 j j1 (by omega), rfl⟩
  | succ r ih =>
    intro l B t2 hl h1 hB hB2
    obtain ⟨B', t2', c', g1, g2, g3⟩ := ih (l + 1) (B.set l (firstOf F n l)) (some (.int l)) (by omega) (by omega) (by rw [List.length_set]; exact hB) (by
      intro j j1 j2
      rw [getD_set (by omega)]
      by_cases hj : l = j
      · subst hj; rw [if_pos rfl]
      · rw [if_neg hj]; exact hB2 j j1 (by omega))
    refine ⟨B', t2', c', g1, g2, ?_⟩
    have hlt := first_lt h7 (by omega : l ≤ 18)
    have hlt1 := first_lt h7 (by omega : l - 1 ≤ 18)
    have hv : (eIf (tCmp (oCmp fun a b => decide (a > b)) (eV 2) (eC (.int 1))) (eIdx (eV 1) (eBin (oInt pSub) (eV 2) (eC (.int 1)))) (eC (.int 0))) (R9 ls (.ref hp.length) (some (.int l)) (some (.ref (hp.length + 1))) (some (.int (firstOf F n (l - 1) : Nat))) t5) (hp ++ [.list (nats A), .list (nats B)])
        = some (.int ((if 1 < l then rk F (l - 1) n else 0 : Nat) : Int), hp ++ [.list (nats A), .list (nats B)]) := by
      by_cases hgt : 1 < l
      · rw [if_pos hgt]
        refine (eIf_t (gt_case (i := 2) (k := 1) rfl (decide_eq_true hgt))).trans ?_
        have hs : pSub (l : Int) 1 = some ((l - 1 : Nat) : Int) := by unfold pSub; congr 1; omega
        have hlen : l - 1 < A.length := by omega
        refine eIdx_at rfl (eBin_at rfl rfl (oInt_at hs)) ((idx_ref ap0 (Nat.lt_of_lt_of_le hlen (by rw [hA]; exact Nat.le_trans (by omega : M + 2 ≤ 17) (by decide)))).trans ((nats_get hlen).trans ?_))
        rw [hA2 (l - 1) (by omega), if_pos (by omega)]
      · rw [if_neg hgt]
        refine (eIf_f (gt_case (i := 2) (k := 1) rfl (decide_eq_false hgt))).trans ?_
        rfl
    have hsum : 2 * (firstOf F n (l - 1) + (if 1 < l then rk F (l - 1) n else 0)) = firstOf F n l := by
      obtain ⟨k, rfl⟩ : ∃ k, l = k + 1 := ⟨l - 1, by omega⟩
      rw [Nat.add_sub_cancel, firstOf]
      by_cases hk : k = 0
      · subst hk; rfl
      · rw [if_pos (by omega), if_neg hk]
    have a1 : (sAsg (aVar 4) (eBin (oInt pShl) (eBin (oAdd) (eV 4) (eIf (tCmp (oCmp fun a b => decide (a > b)) (eV 2) (eC (.int 1))) (eIdx (eV 1) (eBin (oInt pSub) (eV 2) (eC (.int 1)))) (eC (.int 0)))) (eC (.int 1)))) (R9 ls (.ref hp.length) (some (.int l)) (some (.ref (hp.length + 1))) (some (.int (firstOf F n (l - 1) : Nat))) t5) (hp ++ [.list (nats A), .list (nats B)])
        = some (.next, R9 ls (.ref hp.length) (some (.int l)) (some (.ref (hp.length + 1))) (some (.int (firstOf F n l : Nat))) t5, hp ++ [.list (nats A), .list (nats B)]) := by
      rw [sAsg_v (eBin_at (eBin_at rfl hv (add_nat _ _ _)) rfl (oInt_at (pShl1 (by omega)))), hsum]
      rfl
    have a2 : (sSet (eV 3) (eV 2) (eV 4)) (R9 ls (.ref hp.length) (some (.int l)) (some (.ref (hp.length + 1))) (some (.int (firstOf F n l : Nat))) t5) (hp ++ [.list (nats A), .list (nats B)])
        = some (.next, R9 ls (.ref hp.length) (some (.int l)) (some (.ref (hp.length + 1))) (some (.int (firstOf F n l : Nat))) t5, hp ++ [.list (nats A), .list (nats (B.set l (firstOf F n l)))]) := by
      have hs := set_ref (hp := hp ++ [.list (nats A), .list (nats B)]) (m := hp.length + 1) (i := l) (y := firstOf F n l) ap1 (by omega) (by rw [hB]; exact Nat.le_trans (by omega : M + 2 ≤ 17) (Nat.le_of_ble_eq_true rfl))
      rw [st1] at hs
      exact sSet_at rfl rfl rfl hs
    have hb : bodyK2 (R9 ls (.ref hp.length) (some (.int l)) (some (.ref (hp.length + 1))) (some (.int (firstOf F n (l - 1) : Nat))) t5) (hp ++ [.list (nats A), .list (nats B)])
        = some (.next, R9 ls (.ref hp.length) (some (.int l)) (some (.ref (hp.length + 1))) (some (.int (firstOf F n (l + 1 - 1) : Nat))) t5, hp ++ [.list (nats A), .list (nats (B.set l (firstOf F n l)))]) :=
      (sCons_n a1).trans ((sCons_n a2).trans rfl)
    rw [vInts_succ, forL_n (a := aVar 2) (ρ1 := R9 ls (.ref hp.length) (some (.int l)) (some (.ref (hp.length + 1))) (some (.int (firstOf F n (l - 1) : Nat))) t5) rfl hb]
    have : ((l : Int) + 1) = ((l + 1 : Nat) : Int) := by norm_cast
    rw [this]
    exact g3

noncomputable def codeD (F : Nat → Nat) (n s : Nat) : Nat := if F s = 0 then 0 else codeOf F n s
noncomputable def bodyK3 : SF := (sCons (sIf (tCmp (oCmp fun a b => a == b) (eV 2) (eC (.int 0))) (sCons (sExp (eApp (eV 5) (eC (.int 0)))) sNil) (sCons (sExp (eApp (eV 5) (eIdx (eV 3) (eV 2)))) (sCons (sSet (eV 3) (eV 2) (eBin (oAdd) (eIdx (eV 3) (eV 2)) (eC (.int 1)))) sNil))) sNil)
theorem eq0_case {ρ : Loc} {hp : Hp} {i : Nat} {a : Nat} (h : ρ[i]? = some (some (.int a))) {b : Bool} (hb : decide (a = 0) = b) : (tCmp (oCmp fun a b => a == b) (eV i) (eC (.int 0))) ρ hp = some (b, hp) := by
  refine tCmp_at (eV_at h) rfl ?_
  show some ((a : Int) == 0) = _
  rw [← hb]
  congr 1
  rw [Bool.eq_iff_iff]; simp
theorem loopK3 {F : Nat → Nat} {n : Nat} {ls : List Nat} {M : Nat} {hp : Hp} {A : List Nat} {t4 : Option V} (hM : M ≤ 15) (hF : ∀ s, F s ≤ M) : ∀ (k a : Nat) (B : List Nat) (t2 : Option V), a + k ≤ 1000 → B.length = M + 2 → (∀ l, 1 ≤ l → l < M + 2 → B.getD l 0 = firstOf F n l + rk F l a) → ∃ B' t2',
    forL (aVar 2) bodyK3 (nats ((List.range' a k).map F)) (R9 ls (.ref hp.length) t2 (some (.ref (hp.length + 1))) t4 (some (.ref (hp.length + 2)))) (hp ++ [.list (nats A), .list (nats B), .acc (nats ((List.range a).map (codeD F n)))])
      = some (.next, R9 ls (.ref hp.length) t2' (some (.ref (hp.length + 1))) t4 (some (.ref (hp.length + 2))), hp ++ [.list (nats A), .list (nats B'), .acc (nats ((List.range (a + k)).map (codeD F n)))]) := by
  intro k
  induction k with
  | zero => intro a B t2 _ h1 h2; exact ⟨B, t2, rfl⟩
  | succ k ih =>
    intro a B t2 hak h1 h2
    have e1 : nats ((List.range' a (k + 1)).map F) = .int (F a : Nat) :: nats ((List.range' (a + 1) k).map F) := by rw [List.range'_succ]; rfl
    have e2 : nats ((List.range (a + 1)).map (codeD F n)) = nats ((List.range a).map (codeD F n)) ++ [.int (codeD F n a : Nat)] := by
      rw [List.range_succ]; unfold nats; rw [List.map_append, List.map_append]; rfl
    have hFa := hF a
    have hlen : (nats ((List.range a).map (codeD F n))).length ≤ lim := by
      rw [nats_len, List.length_map, List.length_range]; exact Nat.le_trans (by omega : a ≤ 1000) (Nat.le_of_ble_eq_true rfl)
    by_cases h0 : F a = 0
    · have hb : bodyK3 (R9 ls (.ref hp.length) (some (.int (F a : Nat))) (some (.ref (hp.length + 1))) t4 (some (.ref (hp.length + 2)))) (hp ++ [.list (nats A), .list (nats B), .acc (nats ((List.range a).map (codeD F n)))])
          = some (.next, R9 ls (.ref hp.length) (some (.int (F a : Nat))) (some (.ref (hp.length + 1))) t4 (some (.ref (hp.length + 2))), hp ++ [.list (nats A), .list (nats B), .acc (nats ((List.range (a + 1)).map (codeD F n)))]) := by
        have hs := app_at (fo := eV 5) (fe := eC (.int 0)) (ρ := R9 ls (.ref hp.length) (some (.int (F a : Nat))) (some (.ref (hp.length + 1))) t4 (some (.ref (hp.length + 2)))) (hp := hp ++ [.list (nats A), .list (nats B), .acc (nats ((List.range a).map (codeD F n)))]) rfl rfl ap2 hlen
        rw [st2] at hs
        have hc : codeD F n a = 0 := by unfold codeD; rw [if_pos h0]
        rw [e2, hc]
        exact (sCons_n ((sIf_t (eq0_case rfl (decide_eq_true h0))).trans ((sCons_n (sExp_v hs)).trans rfl))).trans rfl
      obtain ⟨B', t2', g⟩ := ih (a + 1) B (some (.int (F a : Nat))) (by omega) h1 (fun l l1 l2 => by rw [rk_succ, if_neg (by omega : ¬ F a = l), Nat.add_zero]; exact h2 l l1 l2)
      refine ⟨B', t2', ?_⟩
      rw [e1, forL_n (a := aVar 2) (ρ1 := R9 ls (.ref hp.length) (some (.int (F a : Nat))) (some (.ref (hp.length + 1))) t4 (some (.ref (hp.length + 2)))) rfl hb, g, show a + 1 + k = a + (k + 1) by omega]
    · have hFl : F a < B.length := by omega
      have h62 : F a < 2 ^ 62 := Nat.lt_of_lt_of_le hFl (by rw [h1]; exact Nat.le_trans (by omega : M + 2 ≤ 17) (by decide))
      have hb : bodyK3 (R9 ls (.ref hp.length) (some (.int (F a : Nat))) (some (.ref (hp.length + 1))) t4 (some (.ref (hp.length + 2)))) (hp ++ [.list (nats A), .list (nats B), .acc (nats ((List.range a).map (codeD F n)))])
          = some (.next, R9 ls (.ref hp.length) (some (.int (F a : Nat))) (some (.ref (hp.length + 1))) t4 (some (.ref (hp.length + 2))), hp ++ [.list (nats A), .list (nats (inc B (F a))), .acc (nats ((List.range (a + 1)).map (codeD F n)))]) := by
        have hc : B.getD (F a) 0 = codeD F n a := by unfold codeD codeOf; rw [if_neg h0, h2 _ (by omega) (by omega)]
        have hv : (eIdx (eV 3) (eV 2)) (R9 ls (.ref hp.length) (some (.int (F a : Nat))) (some (.ref (hp.length + 1))) t4 (some (.ref (hp.length + 2)))) (hp ++ [.list (nats A), .list (nats B), .acc (nats ((List.range a).map (codeD F n)))]) = some (.int (codeD F n a : Nat), hp ++ [.list (nats A), .list (nats B), .acc (nats ((List.range a).map (codeD F n)))]) := by
          rw [← hc]
          exact eIdx_at rfl rfl ((idx_ref ap1 h62).trans (nats_get hFl))
        have hs := app_at (fo := eV 5) (ρ := R9 ls (.ref hp.length) (some (.int (F a : Nat))) (some (.ref (hp.length + 1))) t4 (some (.ref (hp.length + 2)))) (hp := hp ++ [.list (nats A), .list (nats B), .acc (nats ((List.range a).map (codeD F n)))]) rfl hv ap2 hlen
        rw [st2, ← e2] at hs
        have hi := inc_at (fo := eV 3) (fi := eV 2) (ρ := R9 ls (.ref hp.length) (some (.int (F a : Nat))) (some (.ref (hp.length + 1))) t4 (some (.ref (hp.length + 2)))) (hp := hp ++ [.list (nats A), .list (nats B), .acc (nats ((List.range (a + 1)).map (codeD F n)))]) (m := hp.length + 1) (i := F a) (xs := B) (fun hp => rfl) rfl ap1 hFl (by omega)
        rw [st1] at hi
        exact (sCons_n ((sIf_f (eq0_case rfl (decide_eq_false h0))).trans ((sCons_n (sExp_v hs)).trans ((sCons_n hi).trans rfl)))).trans rfl
      obtain ⟨B', t2', g⟩ := ih (a + 1) (inc B (F a)) (some (.int (F a : Nat))) (by omega) ((inc_len _ _).trans h1) (by
        intro l l1 l2
        unfold inc
        rw [getD_set hFl, rk_succ]
        by_cases hq : F a = l
        · subst hq; rw [if_pos rfl, if_pos rfl, h2 _ l1 l2, Nat.add_assoc]
        · rw [if_neg hq, if_neg hq, Nat.add_zero]; exact h2 l l1 l2)
      refine ⟨B', t2', ?_⟩
      rw [e1, forL_n (a := aVar 2) (ρ1 := R9 ls (.ref hp.length) (some (.int (F a : Nat))) (some (.ref (hp.length + 1))) t4 (some (.ref (hp.length + 2)))) rfl hb, g, show a + 1 + k = a + (k + 1) by omega]
end Mine
end
section
open PySem PySem.W PyProof.Rows
set_option Elab.async false
set_option linter.unusedVariables false
set_option linter.unusedSimpArgs false
namespace Mine

theorem repM_gen {n : Nat} {g : EF} {ρ : Loc} {hp : Hp} (hg : g ρ hp = some (.int n, hp)) (h : n ≤ 1000) : (eRepM (eC (.int 0)) g) ρ hp = some (.ref hp.length, hp ++ [.list (nats (List.replicate n 0))]) := by
  have h1 : repL (eC (.int 0)) g ρ hp = some (nats (List.replicate n 0), hp) := by
    unfold repL
    show ((g ρ hp).bind _) = _
    rw [hg]
    show (if 0 ≤ (n : Int) ∧ (n : Int) ≤ (lim : Nat) then some (List.replicate (n : Int).toNat (V.int 0), hp) else none) = _
    have : lim = 1000000 := rfl
    rw [if_pos (by omega), Int.toNat_natCast, nats_rep]; rfl
  unfold eRepM
  rw [h1]; rfl
theorem getD_rep {n j : Nat} : (List.replicate n 0).getD j 0 = 0 := by
  rw [List.getD_eq_getElem?_getD, List.getElem?_replicate]
  split <;> rfl
theorem ne_nil {xs : List Nat} {hp : Hp} (h : 0 < xs.length) : oNeSeq (.lst (nats xs)) (.lst []) hp = some true := by
  show (((some (nats xs)).bind fun xs => (asInts xs).map fun ns => (false, ns)).bind fun p => (some (false, ([] : List Int))).bind fun q => if p.1 = q.1 then some (!decide (p.2 = q.2)) else none) = _
  rw [Option.bind_some, asInts_nats, Option.map_some, Option.bind_some, Option.bind_some, if_pos rfl]
  cases xs with
  | nil => simp at h
  | cons x xs => simp
theorem canonical_at {F : Nat → Nat} {n : Nat} {hp : Hp} (h7 : (sgF F n).length ≤ 7) (hF : ∀ s, F s ≤ 15) (h0 : ∀ s, n ≤ s → F s = 0) (hn0 : 0 < n) (hn : n ≤ 300) :
    ∃ x y, b_127 [.lst (nats ((List.range n).map F))] hp = some (.lst (nats ((List.range n).map (codeD F n))), hp ++ [x, y, .dead]) := by
  have hlen : ((List.range n).map F).length = n := by rw [List.length_map, List.length_range]
  unfold b_127 fnF f_127
  have hlen' : ([V.lst (nats ((List.range n).map F))] ++ []).length = [0].length := rfl
  rw [if_pos hlen']
  have hset : setAll [0] ([V.lst (nats ((List.range n).map F))] ++ []) (List.replicate 9 none) = [some (.lst (nats ((List.range n).map F))), none, none, none, none, none, none, none, none] := rfl
  rw [hset]
  obtain ⟨M, m1, m2, m3⟩ := max_at (xs := (List.range n).map F) (i := 0) (ρ := [some (.lst (nats ((List.range n).map F))), none, none, none, none, none, none, none, none]) (hp := hp) (by omega) (fun x hx => by obtain ⟨s, _, rfl⟩ := List.mem_map.mp hx; exact hF s) rfl
  have hFM : ∀ s, F s ≤ M := fun s => by
    by_cases hs : s < n
    · exact m2 _ (List.mem_map.mpr ⟨s, List.mem_range.mpr hs, rfl⟩)
    · rw [h0 s (by omega)]; exact Nat.zero_le _
  have a1 : (sAsg (aVar 1) (eRepM (eC (.int 0)) (eIf (tCmp (oNeSeq) (eV 0) (eLst [])) (eBin (oAdd) (eCall bMax [(eV 0)]) (eC (.int 2))) (eC (.int 2))))) [some (.lst (nats ((List.range n).map F))), none, none, none, none, none, none, none, none] hp
      = some (.next, R9 ((List.range n).map F) (.ref hp.length) none none none none, hp ++ [.list (nats (List.replicate (M + 2) 0))]) := by
    have t1 : (tCmp (oNeSeq) (eV 0) (eLst [])) [some (.lst (nats ((List.range n).map F))), none, none, none, none, none, none, none, none] hp = some (true, hp) := tCmp_at rfl rfl (ne_nil (by omega))
    have e1 : (eIf (tCmp (oNeSeq) (eV 0) (eLst [])) (eBin (oAdd) (eCall bMax [(eV 0)]) (eC (.int 2))) (eC (.int 2))) [some (.lst (nats ((List.range n).map F))), none, none, none, none, none, none, none, none] hp = some (.int ((M + 2 : Nat) : Int), hp) :=
      (eIf_t t1).trans (eBin_at m3 rfl rfl)
    exact sAsg_v (repM_gen e1 (by omega))
  obtain ⟨A, t2, A1, A2, a2⟩ := loopK1 (ls := (List.range n).map F) (hp := hp) (t3 := none) (t4 := none) (t5 := none) m1 hFM n 0 (List.replicate (M + 2) 0) none List.length_replicate (fun l hl => by rw [getD_rep]; unfold rk; simp)
  rw [Nat.zero_add] at A2
  rw [← List.range_eq_range'] at a2
  have a2' := sFor_at (e := eV 0) (ρ := R9 ((List.range n).map F) (.ref hp.length) none none none none) (v := .lst (nats ((List.range n).map F))) rfl rfl a2
  have lenA : (eCall bLen [(eV 1)]) (R9 ((List.range n).map F) (.ref hp.length) t2 none none none) (hp ++ [.list (nats A)]) = some (.int ((M + 2 : Nat) : Int), hp ++ [.list (nats A)]) := by
    refine eCall_at (evL_c rfl rfl) ?_
    show ((match (hp ++ [O.list (nats A)])[hp.length]? with | some (.list xs) => some xs | some (.acc xs) => some xs | _ => none).bind fun xs => if xs.length ≤ lim then some (V.int xs.length, hp ++ [O.list (nats A)]) else none) = _
    rw [ap0]
    show (if (nats A).length ≤ lim then some (V.int (nats A).length, _) else none) = _
    rw [nats_len, A1, if_pos (Nat.le_trans (by omega : M + 2 ≤ 17) (Nat.le_of_ble_eq_true rfl))]
  have a3 : (sAsg (aVar 3) (eRepM (eC (.int 0)) (eCall bLen [(eV 1)]))) (R9 ((List.range n).map F) (.ref hp.length) t2 none none none) (hp ++ [.list (nats A)])
      = some (.next, R9 ((List.range n).map F) (.ref hp.length) t2 (some (.ref (hp.length + 1))) none none, hp ++ [.list (nats A), .list (nats (List.replicate (M + 2) 0))]) := by
    rw [sAsg_v (repM_gen lenA (by omega)), List.append_assoc, List.length_append]
    rfl
  have a4 : (sAsg (aVar 4) (eC (.int 0))) (R9 ((List.range n).map F) (.ref hp.length) t2 (some (.ref (hp.length + 1))) none none) (hp ++ [.list (nats A), .list (nats (List.replicate (M + 2) 0))])
      = some (.next, R9 ((List.range n).map F) (.ref hp.length) t2 (some (.ref (hp.length + 1))) (some (.int (firstOf F n (1 - 1) : Nat))) none, hp ++ [.list (nats A), .list (nats (List.replicate (M + 2) 0))]) := rfl
  obtain ⟨B, t2', c', B1, B2, a5⟩ := loopK2 (ls := (List.range n).map F) (hp := hp) (A := A) h7 m1 A1 A2 none (M + 1) 1 (List.replicate (M + 2) 0) t2 (by omega) (Nat.le_refl _) List.length_replicate (fun j j1 j2 => by omega)
  have hrng : (eCall bRange [(eC (.int 1)), (eCall bLen [(eV 1)])]) (R9 ((List.range n).map F) (.ref hp.length) t2 (some (.ref (hp.length + 1))) (some (.int (firstOf F n (1 - 1) : Nat))) none) (hp ++ [.list (nats A), .list (nats (List.replicate (M + 2) 0))])
      = some (.rng 1 (((M + 1 : Nat) : Int) + 1) 1, hp ++ [.list (nats A), .list (nats (List.replicate (M + 2) 0))]) := by
    have : (eCall bLen [(eV 1)]) (R9 ((List.range n).map F) (.ref hp.length) t2 (some (.ref (hp.length + 1))) (some (.int (firstOf F n (1 - 1) : Nat))) none) (hp ++ [.list (nats A), .list (nats (List.replicate (M + 2) 0))]) = some (.int (((M + 1 : Nat) : Int) + 1), hp ++ [.list (nats A), .list (nats (List.replicate (M + 2) 0))]) := by
      refine eCall_at (evL_c rfl rfl) ?_
      show ((match (hp ++ [O.list (nats A), O.list (nats (List.replicate (M + 2) 0))])[hp.length]? with | some (.list xs) => some xs | some (.acc xs) => some xs | _ => none).bind fun xs => if xs.length ≤ lim then some (V.int xs.length, hp ++ [O.list (nats A), O.list (nats (List.replicate (M + 2) 0))]) else none) = _
      rw [ap0]
      show (if (nats A).length ≤ lim then some (V.int (nats A).length, _) else none) = _
      rw [nats_len, A1, if_pos (Nat.le_trans (by omega : M + 2 ≤ 17) (Nat.le_of_ble_eq_true rfl))]
      rfl
    exact eCall_at (evL_c rfl (evL_c this rfl)) rfl
  have a5' := sFor_at hrng (items_range1 (M + 1) (by omega)) a5
  have a6 : (sAsg (aVar 5) (eMut [])) (R9 ((List.range n).map F) (.ref hp.length) t2' (some (.ref (hp.length + 1))) c' none) (hp ++ [.list (nats A), .list (nats B)])
      = some (.next, R9 ((List.range n).map F) (.ref hp.length) t2' (some (.ref (hp.length + 1))) c' (some (.ref (hp.length + 2))), hp ++ [.list (nats A), .list (nats B), .acc (nats ((List.range 0).map (codeD F n)))]) := by
    have : (eMut []) (R9 ((List.range n).map F) (.ref hp.length) t2' (some (.ref (hp.length + 1))) c' none) (hp ++ [.list (nats A), .list (nats B)]) = some (.ref (hp ++ [O.list (nats A), O.list (nats B)]).length, (hp ++ [O.list (nats A), O.list (nats B)]) ++ [.acc []]) := rfl
    rw [sAsg_v this, List.append_assoc, List.length_append]
    rfl
  obtain ⟨B', t2'', a7⟩ := loopK3 (n := n) (ls := (List.range n).map F) (hp := hp) (A := A) (t4 := c') m1 hFM n 0 B t2' (by omega) B1 (fun l l1 l2 => by
    have : rk F l 0 = 0 := by unfold rk; simp
    rw [this, Nat.add_zero]
    exact B2 l l1 l2)
  rw [Nat.zero_add, ← List.range_eq_range'] at a7
  have a7' := sFor_at (e := eV 0) (ρ := R9 ((List.range n).map F) (.ref hp.length) t2' (some (.ref (hp.length + 1))) c' (some (.ref (hp.length + 2)))) (v := .lst (nats ((List.range n).map F))) rfl rfl a7
  have a8 : (sRet (eFrz (eV 5))) (R9 ((List.range n).map F) (.ref hp.length) t2'' (some (.ref (hp.length + 1))) c' (some (.ref (hp.length + 2)))) (hp ++ [.list (nats A), .list (nats B'), .acc (nats ((List.range n).map (codeD F n)))])
      = some (.ret (.lst (nats ((List.range n).map (codeD F n)))), R9 ((List.range n).map F) (.ref hp.length) t2'' (some (.ref (hp.length + 1))) c' (some (.ref (hp.length + 2))), hp ++ [.list (nats A), .list (nats B'), .dead]) := by
    refine sRet_v ?_
    show oFrz (.ref (hp.length + 2)) _ = _
    unfold oFrz
    dsimp only
    rw [ap2]
    show some (V.lst _, (hp ++ [O.list (nats A), O.list (nats B'), O.acc _]).set (hp.length + 2) .dead) = _
    rw [st2]
  refine ⟨.list (nats A), .list (nats B'), ?_⟩
  exact (congrArg (Option.map _) ((sCons_n a1).trans ((sCons_n a2').trans ((sCons_n a3).trans ((sCons_n a4).trans ((sCons_n a5').trans ((sCons_n a6).trans ((sCons_n a7').trans (sCons_r a8))))))))).trans rfl
end Mine
end
section
open PySem PySem.W PyProof.Rows
set_option Elab.async false
set_option linter.unusedVariables false
set_option linter.unusedSimpArgs false
namespace Mine

/-! bits, lowest first -/
noncomputable def val : List Nat → Nat
  | [] => 0
  | b :: r => b + 2 * val r
theorem val_app : ∀ a b : List Nat, val (a ++ b) = val a + val b * 2 ^ a.length
  | [], b => by simp [val]
  | x :: a, b => by
    rw [List.cons_append, val, val, val_app a b, List.length_cons, Nat.pow_succ, Nat.mul_add, Nat.add_assoc]
    congr 2
    rw [Nat.mul_comm (2 ^ a.length) 2, ← Nat.mul_assoc, ← Nat.mul_assoc, Nat.mul_comm 2 (val b)]
noncomputable def lowB (c m : Nat) : List Nat := (List.range m).map fun k => c / 2 ^ k % 2
theorem lowB_len (c m : Nat) : (lowB c m).length = m := by unfold lowB; rw [List.length_map, List.length_range]
theorem bitsM_len (c m : Nat) : (bitsM c m).length = m := by unfold bitsM; rw [List.length_map, List.length_range]
theorem lowB_succ (c m : Nat) : lowB c (m + 1) = c % 2 :: lowB (c / 2) m := by
  unfold lowB
  rw [List.range_succ_eq_map, List.map_cons, List.map_map, Nat.pow_zero, Nat.div_one]
  congr 1
  refine List.map_congr_left fun k hk => ?_
  show c / 2 ^ (k + 1) % 2 = _
  rw [Nat.div_div_eq_div_mul, Nat.pow_succ']
theorem val_lowB : ∀ (m c : Nat), c < 2 ^ m → val (lowB c m) = c
  | 0, c, h => by
    have : c = 0 := by simpa using h
    subst this; rfl
  | m + 1, c, h => by
    rw [lowB_succ, val, val_lowB m (c / 2) (by rw [Nat.pow_succ] at h; omega)]
    omega
theorem bitsM_succ (c m : Nat) : bitsM c (m + 1) = c / 2 ^ m % 2 :: bitsM c m := by
  unfold bitsM
  rw [List.range_succ_eq_map, List.map_cons, List.map_map]
  congr 1
  refine List.map_congr_left fun k hk => ?_
  show c / 2 ^ (m + 1 - 1 - (k + 1)) % 2 = _
  rw [show m + 1 - 1 - (k + 1) = m - 1 - k by omega]
theorem val_bitsM (c : Nat) : ∀ m, val (bitsM c m) = revN c m
  | 0 => rfl
  | m + 1 => by rw [bitsM_succ, val, val_bitsM c m, revN]; omega

noncomputable def bitsTI (FL FD : Nat → Nat) : TI → List Nat
  | .lit a => bitsM (codeOf FL 286 a) (FL a)
  | .pair ls lr lm ds dr dm => bitsM (codeOf FL 286 ls) (FL ls) ++ lowB lr lm ++ bitsM (codeOf FD 30 ds) (FD ds) ++ lowB dr dm
theorem bitsD (F : Nat → Nat) (n s : Nat) : bitsM (codeD F n s) (F s) = bitsM (codeOf F n s) (F s) := by
  unfold codeD
  by_cases h : F s = 0
  · rw [h]; rfl
  · rw [if_neg h]

/-! the writer, over lists of bits -/
noncomputable def WB (hp : Hp) (d k : Nat) (B : List Nat) : Prop := Wr hp d k (val B) B.length
theorem WB.app {hp : Hp} {d k : Nat} {B : List Nat} (w : WB hp d k B) (r : List O) : WB (hp ++ r) d k B :=
  ⟨w.ne, by rw [List.getElem?_append_left (List.getElem?_eq_some_iff.mp w.ns).1]; exact w.ns, by rw [List.getElem?_append_left (List.getElem?_eq_some_iff.mp w.byt).1]; exact w.byt, w.lt⟩
theorem WB.put {hp : Hp} {d k num many : Nat} {B : List Nat} (w : WB hp d k B) (hn : num < 2 ^ many) (hm : many ≤ 40) (hL : B.length ≤ 100000) :
    ∃ hp', b_57 [.obj 109 d, .int num, .int many] hp = some (.none, hp') ∧ WB hp' d k (B ++ lowB num many) ∧ Else d k hp hp' := by
  obtain ⟨hp', h1, h2, h3⟩ := Wr.put w hn hm hL
  refine ⟨hp', h1, ?_, h3⟩
  unfold WB
  rw [val_app, val_lowB many num hn, List.length_append, lowB_len]
  exact h2
theorem WB.putCode {hp : Hp} {d k code many : Nat} {B : List Nat} (w : WB hp d k B) (hm : many ≤ 40) (hL : B.length ≤ 100000) :
    ∃ hp', b_64 [.obj 109 d, .int code, .int many] hp = some (.none, hp') ∧ WB hp' d k (B ++ bitsM code many) ∧ Else d k hp hp' := by
  obtain ⟨hp', h1, h2, h3⟩ := Wr.putCode (code := code) w hm hL
  refine ⟨hp', h1, ?_, h3⟩
  unfold WB
  rw [val_app, val_bitsM, List.length_append, bitsM_len]
  exact h2

noncomputable def RP (d : Nat) (row : V) (LL DL LC DC : List Nat) (t7 t8 t9 t10 : Option V) : Loc :=
  [some (.obj 172 0), some (.obj 109 d), some row, some (.lst (nats LL)), some (.lst (nats DL)), some (.lst (nats LC)), some (.lst (nats DC)), t7, t8, t9, t10, none, none, none]
noncomputable def bodyP : SF := (sCons (sIf (tCmp (oCmp fun a b => a == b) (eCall bLen [(eV 7)]) (eC (.int 1))) (sCons (sExp (eMeth 109 "put_code" b_64 (eV 1) [(eIdx (eV 5) (eIdx (eV 7) (eC (.int 0)))), (eIdx (eV 3) (eIdx (eV 7) (eC (.int 0))))])) sNil) (sCons (sAsg (aTup [8, 9, 10]) (eMeth 172 "length_sign" b_148 (eV 0) [(eIdx (eV 7) (eC (.int 0)))])) (sCons (sExp (eMeth 109 "put_code" b_64 (eV 1) [(eIdx (eV 5) (eV 8)), (eIdx (eV 3) (eV 8))])) (sCons (sExp (eMeth 109 "put" b_57 (eV 1) [(eV 9), (eV 10)])) (sCons (sAsg (aTup [8, 9, 10]) (eMeth 172 "distance_sign" b_155 (eV 0) [(eIdx (eV 7) (eC (.int 1)))])) (sCons (sExp (eMeth 109 "put_code" b_64 (eV 1) [(eIdx (eV 6) (eV 8)), (eIdx (eV 4) (eV 8))])) (sCons (sExp (eMeth 109 "put" b_57 (eV 1) [(eV 9), (eV 10)])) sNil))))))) sNil)
theorem idx_tabF {F : Nat → Nat} {n i : Nat} {hp : Hp} (h : i < n) (hn : n ≤ 1000) : oIdx (.lst (nats ((List.range n).map F))) (.int (i : Nat)) hp = some (.int (F i : Nat)) := by
  rw [idx_lst (Nat.lt_of_lt_of_le h (Nat.le_trans hn (by decide)))]
  unfold nats
  rw [List.getElem?_map, List.getElem?_map, List.getElem?_range h]
  rfl
section
variable {d k : Nat} {row : V} {FL FD : Nat → Nat} {t8 t9 t10 : Option V} {hp : Hp} {B : List Nat}
theorem bodyP_lit {a : Nat} (ha : a < 256) (hFL : ∀ s, FL s ≤ 15) (w : WB hp d k B) (hB : B.length ≤ 90000) : ∃ hp',
    bodyP (RP d row ((List.range 286).map FL) ((List.range 30).map FD) ((List.range 286).map (codeD FL 286)) ((List.range 30).map (codeD FD 30)) (some (.tup [.int a])) t8 t9 t10) hp
      = some (.next, RP d row ((List.range 286).map FL) ((List.range 30).map FD) ((List.range 286).map (codeD FL 286)) ((List.range 30).map (codeD FD 30)) (some (.tup [.int a])) t8 t9 t10, hp') ∧ WB hp' d k (B ++ bitsTI FL FD (.lit a)) ∧ Else d k hp hp' := by
  obtain ⟨hp', h1, h2, h3⟩ := w.putCode (code := codeD FL 286 a) (many := FL a) (by have := hFL a; omega) (by omega)
  rw [bitsD] at h2
  refine ⟨hp', ?_, h2, h3⟩
  have c1 := len_is1 (ρ := RP d row ((List.range 286).map FL) ((List.range 30).map FD) ((List.range 286).map (codeD FL 286)) ((List.range 30).map (codeD FD 30)) (some (.tup [.int a])) t8 t9 t10) (hp := hp) (i := 7) (xs := [.int a]) (b := true) rfl (Nat.le_of_ble_eq_true rfl) rfl
  have i0 : (eIdx (eV 7) (eC (.int 0))) (RP d row ((List.range 286).map FL) ((List.range 30).map FD) ((List.range 286).map (codeD FL 286)) ((List.range 30).map (codeD FD 30)) (some (.tup [.int a])) t8 t9 t10) hp = some (.int (a : Nat), hp) := eIdx_at rfl rfl idx_tup0
  have m1 := eMeth_at (C := 109) (name := "put_code") (g := b_64) (f := eV 1) (fs := [(eIdx (eV 5) (eIdx (eV 7) (eC (.int 0)))), (eIdx (eV 3) (eIdx (eV 7) (eC (.int 0))))]) (ρ := RP d row ((List.range 286).map FL) ((List.range 30).map FD) ((List.range 286).map (codeD FL 286)) ((List.range 30).map (codeD FD 30)) (some (.tup [.int a])) t8 t9 t10) (hp := hp) (o := .obj 109 d) rfl (noField_W w.ns W_no.2.1)
    (evL_c (eIdx_at rfl i0 (idx_tabF (by omega) (by decide))) (evL_c (eIdx_at rfl i0 (idx_tabF (by omega) (by decide))) rfl)) h1
  exact (sCons_n ((sIf_t c1).trans ((sCons_n (sExp_v m1)).trans rfl))).trans rfl
theorem bodyP_pair {l b ls lr lm ds dr dm : Nat} (hl : LenOk l ls lr lm) (hd : DistOk b ds dr dm) (hFL : ∀ s, FL s ≤ 15) (hFD : ∀ s, FD s ≤ 15) (w : WB hp d k B) (hB : B.length ≤ 90000) (d0 : d ≠ 0) (k0 : k ≠ 0) (ht : hp[0]? = some (.ns TF')) : ∃ hp' t8' t9' t10',
    bodyP (RP d row ((List.range 286).map FL) ((List.range 30).map FD) ((List.range 286).map (codeD FL 286)) ((List.range 30).map (codeD FD 30)) (some (.tup [.int l, .int b])) t8 t9 t10) hp
      = some (.next, RP d row ((List.range 286).map FL) ((List.range 30).map FD) ((List.range 286).map (codeD FL 286)) ((List.range 30).map (codeD FD 30)) (some (.tup [.int l, .int b])) t8' t9' t10', hp') ∧ WB hp' d k (B ++ bitsTI FL FD (.pair ls lr lm ds dr dm)) ∧ Else d k hp hp' := by
  have hlm := hl.more
  have hdm := hd.more
  have hlh := hl.hi
  have hdh := hd.hi
  have f1 := hFL ls
  have f2 := hFD ds
  obtain ⟨hp1, p1, w1, e1⟩ := w.putCode (code := codeD FL 286 ls) (many := FL ls) (by omega) (by omega)
  rw [bitsD] at w1
  have b1 : (B ++ bitsM (codeOf FL 286 ls) (FL ls)).length ≤ 90015 := by rw [List.length_append, bitsM_len]; omega
  obtain ⟨hp2, p2, w2, e2⟩ := w1.put (num := lr) (many := lm) hl.rest (by omega) (by omega)
  have b2 : (B ++ bitsM (codeOf FL 286 ls) (FL ls) ++ lowB lr lm).length ≤ 90030 := by rw [List.length_append, lowB_len]; omega
  obtain ⟨hp3, p3, w3, e3⟩ := w2.putCode (code := codeD FD 30 ds) (many := FD ds) (by omega) (by omega)
  rw [bitsD] at w3
  have b3 : (B ++ bitsM (codeOf FL 286 ls) (FL ls) ++ lowB lr lm ++ bitsM (codeOf FD 30 ds) (FD ds)).length ≤ 90045 := by rw [List.length_append, bitsM_len]; omega
  obtain ⟨hp4, p4, w4, e4⟩ := w3.put (num := dr) (many := dm) hd.rest (by omega) (by omega)
  have ht2 : hp2[0]? = some (.ns TF') := by rw [(e1.trans e2).2 0 (Ne.symm d0) (Ne.symm k0)]; exact ht
  refine ⟨hp4, some (.int ds), some (.int dr), some (.int dm), ?_, ?_, ((e1.trans e2).trans e3).trans e4⟩
  · have c1 := len_is1 (ρ := RP d row ((List.range 286).map FL) ((List.range 30).map FD) ((List.range 286).map (codeD FL 286)) ((List.range 30).map (codeD FD 30)) (some (.tup [.int l, .int b])) t8 t9 t10) (hp := hp) (i := 7) (xs := [.int l, .int b]) (b := false) rfl (Nat.le_of_ble_eq_true rfl) rfl
    have i0 : ∀ t8 t9 t10 hp, (eIdx (eV 7) (eC (.int 0))) (RP d row ((List.range 286).map FL) ((List.range 30).map FD) ((List.range 286).map (codeD FL 286)) ((List.range 30).map (codeD FD 30)) (some (.tup [.int l, .int b])) t8 t9 t10) hp = some (.int (l : Nat), hp) := fun _ _ _ hp => eIdx_at rfl rfl idx_tup0
    have i1 : ∀ t8 t9 t10 hp, (eIdx (eV 7) (eC (.int 1))) (RP d row ((List.range 286).map FL) ((List.range 30).map FD) ((List.range 286).map (codeD FL 286)) ((List.range 30).map (codeD FD 30)) (some (.tup [.int l, .int b])) t8 t9 t10) hp = some (.int (b : Nat), hp) := fun _ _ _ hp => eIdx_at rfl rfl idx_tup1
    have s1 : (sAsg (aTup [8, 9, 10]) (eMeth 172 "length_sign" b_148 (eV 0) [(eIdx (eV 7) (eC (.int 0)))])) (RP d row ((List.range 286).map FL) ((List.range 30).map FD) ((List.range 286).map (codeD FL 286)) ((List.range 30).map (codeD FD 30)) (some (.tup [.int l, .int b])) t8 t9 t10) hp
        = some (.next, RP d row ((List.range 286).map FL) ((List.range 30).map FD) ((List.range 286).map (codeD FL 286)) ((List.range 30).map (codeD FD 30)) (some (.tup [.int l, .int b])) (some (.int ls)) (some (.int lr)) (some (.int lm)), hp) := by
      unfold sAsg
      rw [eMeth_at (o := .obj 172 0) (vs := [.int l]) rfl (noField_T ht TF_no1.1) (evL_c (i0 _ _ _ _) rfl) (hl.tool _ ht)]
      rfl
    have s2 := eMeth_at (C := 109) (name := "put_code") (g := b_64) (f := eV 1) (fs := [(eIdx (eV 5) (eV 8)), (eIdx (eV 3) (eV 8))]) (ρ := RP d row ((List.range 286).map FL) ((List.range 30).map FD) ((List.range 286).map (codeD FL 286)) ((List.range 30).map (codeD FD 30)) (some (.tup [.int l, .int b])) (some (.int ls)) (some (.int lr)) (some (.int lm))) (hp := hp) (o := .obj 109 d) rfl (noField_W w.ns W_no.2.1)
      (evL_c (eIdx_at rfl rfl (idx_tabF hlh (by decide))) (evL_c (eIdx_at rfl rfl (idx_tabF hlh (by decide))) rfl)) p1
    have s3 := eMeth_at (C := 109) (name := "put") (g := b_57) (f := eV 1) (fs := [(eV 9), (eV 10)]) (ρ := RP d row ((List.range 286).map FL) ((List.range 30).map FD) ((List.range 286).map (codeD FL 286)) ((List.range 30).map (codeD FD 30)) (some (.tup [.int l, .int b])) (some (.int ls)) (some (.int lr)) (some (.int lm))) (hp := hp1) (o := .obj 109 d) rfl (noField_W w1.ns W_no.1)
      (evL_c rfl (evL_c rfl rfl)) p2
    have s4 : (sAsg (aTup [8, 9, 10]) (eMeth 172 "distance_sign" b_155 (eV 0) [(eIdx (eV 7) (eC (.int 1)))])) (RP d row ((List.range 286).map FL) ((List.range 30).map FD) ((List.range 286).map (codeD FL 286)) ((List.range 30).map (codeD FD 30)) (some (.tup [.int l, .int b])) (some (.int ls)) (some (.int lr)) (some (.int lm))) hp2
        = some (.next, RP d row ((List.range 286).map FL) ((List.range 30).map FD) ((List.range 286).map (codeD FL 286)) ((List.range 30).map (codeD FD 30)) (some (.tup [.int l, .int b])) (some (.int ds)) (some (.int dr)) (some (.int dm)), hp2) := by
      unfold sAsg
      rw [eMeth_at (o := .obj 172 0) (vs := [.int b]) rfl (noField_T ht2 TF_no1.2.1) (evL_c (i1 _ _ _ _) rfl) (hd.tool _ ht2)]
      rfl
    have s5 := eMeth_at (C := 109) (name := "put_code") (g := b_64) (f := eV 1) (fs := [(eIdx (eV 6) (eV 8)), (eIdx (eV 4) (eV 8))]) (ρ := RP d row ((List.range 286).map FL) ((List.range 30).map FD) ((List.range 286).map (codeD FL 286)) ((List.range 30).map (codeD FD 30)) (some (.tup [.int l, .int b])) (some (.int ds)) (some (.int dr)) (some (.int dm))) (hp := hp2) (o := .obj 109 d) rfl (noField_W w2.ns W_no.2.1)
      (evL_c (eIdx_at rfl rfl (idx_tabF hdh (by decide))) (evL_c (eIdx_at rfl rfl (idx_tabF hdh (by decide))) rfl)) p3
    have s6 := eMeth_at (C := 109) (name := "put") (g := b_57) (f := eV 1) (fs := [(eV 9), (eV 10)]) (ρ := RP d row ((List.range 286).map FL) ((List.range 30).map FD) ((List.range 286).map (codeD FL 286)) ((List.range 30).map (codeD FD 30)) (some (.tup [.int l, .int b])) (some (.int ds)) (some (.int dr)) (some (.int dm))) (hp := hp3) (o := .obj 109 d) rfl (noField_W w3.ns W_no.1)
      (evL_c rfl (evL_c rfl rfl)) p4
    exact (sCons_n ((sIf_f c1).trans ((sCons_n s1).trans ((sCons_n (sExp_v s2)).trans ((sCons_n (sExp_v s3)).trans ((sCons_n s4).trans ((sCons_n (sExp_v s5)).trans ((sCons_n (sExp_v s6)).trans rfl)))))))).trans rfl
  · have : B ++ bitsTI FL FD (.pair ls lr lm ds dr dm) = B ++ bitsM (codeOf FL 286 ls) (FL ls) ++ lowB lr lm ++ bitsM (codeOf FD 30 ds) (FD ds) ++ lowB dr dm := by
      unfold bitsTI; simp only [List.append_assoc]
    rw [this]
    exact w4
end
end Mine
end
section
open PySem PySem.W PyProof.Rows
set_option Elab.async false
set_option linter.unusedVariables false
set_option linter.unusedSimpArgs false
namespace Mine

noncomputable abbrev RPF (d : Nat) (row : V) (FL FD : Nat → Nat) (t7 t8 t9 t10 : Option V) : Loc := RP d row ((List.range 286).map FL) ((List.range 30).map FD) ((List.range 286).map (codeD FL 286)) ((List.range 30).map (codeD FD 30)) t7 t8 t9 t10
theorem bitsTI_len {FL FD : Nat → Nat} {t : Tok} {i : TI} (h : TI.of t i) (hFL : ∀ s, FL s ≤ 15) (hFD : ∀ s, FD s ≤ 15) : (bitsTI FL FD i).length ≤ 60 := by
  cases t with
  | lit a => cases i with
    | lit b => unfold bitsTI; rw [bitsM_len]; have := hFL b; omega
    | pair => exact h.elim
  | pair l b => cases i with
    | lit b => exact h.elim
    | pair ls lr lm ds dr dm =>
      have h1 := h.1.more
      have h2 := h.2.more
      have := hFL ls
      have := hFD ds
      unfold bitsTI
      simp only [List.length_append, bitsM_len, lowB_len]
      omega
noncomputable def allB (FL FD : Nat → Nat) : List TI → List Nat → List Nat
  | [], B => B
  | i :: is, B => allB FL FD is (B ++ bitsTI FL FD i)
theorem loopP {d k : Nat} {row : V} {FL FD : Nat → Nat} (hFL : ∀ s, FL s ≤ 15) (hFD : ∀ s, FD s ≤ 15) (d0 : d ≠ 0) (k0 : k ≠ 0) : ∀ {toks : List Tok} {is : List TI} (h : TIs toks is) (B : List Nat) (hp : Hp) (t7 t8 t9 t10 : Option V), WB hp d k B → hp[0]? = some (.ns TF') → B.length + 60 * toks.length ≤ 80000 → ∃ hp' t7' t8' t9' t10',
    forL (aVar 7) bodyP (toks.map Tok.v) (RPF d row FL FD t7 t8 t9 t10) hp = some (.next, RPF d row FL FD t7' t8' t9' t10', hp') ∧ WB hp' d k (allB FL FD is B) ∧ Else d k hp hp' ∧ (allB FL FD is B).length ≤ B.length + 60 * toks.length := by
  intro toks is h
  induction h with
  | nil => intro B hp t7 t8 t9 t10 w ht hB; exact ⟨hp, t7, t8, t9, t10, rfl, w, .refl, Nat.le_refl _⟩
  | cons ht hs ih =>
    rename_i t i ts is
    intro B hp t7 t8 t9 t10 w h0 hB
    rw [List.length_cons] at hB
    have hlen := bitsTI_len ht hFL hFD
    have key : ∃ hp' t8' t9' t10', bodyP (RPF d row FL FD (some t.v) t8 t9 t10) hp = some (.next, RPF d row FL FD (some t.v) t8' t9' t10', hp') ∧ WB hp' d k (B ++ bitsTI FL FD i) ∧ Else d k hp hp' := by
      cases t with
      | lit a => cases i with
        | lit b =>
          obtain ⟨rfl, hb⟩ := ht
          obtain ⟨hp', a1, a2, a3⟩ := bodyP_lit (d := d) (k := k) (row := row) (FL := FL) (FD := FD) (t8 := t8) (t9 := t9) (t10 := t10) hb hFL w (by omega)
          exact ⟨hp', t8, t9, t10, a1, a2, a3⟩
        | pair => exact ht.elim
      | pair l b => cases i with
        | lit b => exact ht.elim
        | pair ls lr lm ds dr dm =>
          exact bodyP_pair (d := d) (k := k) (row := row) (FL := FL) (FD := FD) (t8 := t8) (t9 := t9) (t10 := t10) ht.1 ht.2 hFL hFD w (by omega) d0 k0 h0
    obtain ⟨hp1, u8, u9, u10, e1, e2, e3⟩ := key
    obtain ⟨hp2, v7, v8, v9, v10, g1, g2, g3, g4⟩ := ih (B ++ bitsTI FL FD i) hp1 (some t.v) u8 u9 u10 e2 (by rw [e3.2 0 (Ne.symm d0) (Ne.symm k0)]; exact h0) (by rw [List.length_append]; omega)
    refine ⟨hp2, v7, v8, v9, v10, ?_, g2, e3.trans g3, ?_⟩
    · rw [List.map_cons, forL_n (a := aVar 7) (ρ1 := RPF d row FL FD (some t.v) t8 t9 t10) rfl e1, g1]
    · rw [List.length_append] at g4
      rw [allB, List.length_cons]
      omega
noncomputable def endB (FL FD : Nat → Nat) (is : List TI) : List Nat := allB FL FD is [] ++ bitsM (codeOf FL 286 256) (FL 256)
theorem put_row_at {d k : Nat} {FL FD : Nat → Nat} (h7L : (sgF FL 286).length ≤ 7) (h7D : (sgF FD 30).length ≤ 7) (hFL : ∀ s, FL s ≤ 15) (hFD : ∀ s, FD s ≤ 15) (h0L : ∀ s, 286 ≤ s → FL s = 0) (h0D : ∀ s, 30 ≤ s → FD s = 0) (d0 : d ≠ 0) (k0 : k ≠ 0)
    {toks : List Tok} {is : List TI} (h : TIs toks is) (hl : toks.length ≤ 6) {hp : Hp} (w : WB hp d k []) (ht : hp[0]? = some (.ns TF')) : ∃ hp',
    b_169 [.obj 172 0, .obj 109 d, .lst (toks.map Tok.v), .lst (nats ((List.range 286).map FL)), .lst (nats ((List.range 30).map FD))] hp = some (.none, hp') ∧ WB hp' d k (endB FL FD is) ∧ (endB FL FD is).length ≤ 400 := by
  unfold b_169 fnF f_169
  have hlen' : ([V.obj 172 0, .obj 109 d, .lst (toks.map Tok.v), .lst (nats ((List.range 286).map FL)), .lst (nats ((List.range 30).map FD))] ++ []).length = [0, 1, 2, 3, 4].length := rfl
  rw [if_pos hlen']
  have hset : setAll [0, 1, 2, 3, 4] ([V.obj 172 0, .obj 109 d, .lst (toks.map Tok.v), .lst (nats ((List.range 286).map FL)), .lst (nats ((List.range 30).map FD))] ++ []) (List.replicate 14 none) = [some (.obj 172 0), some (.obj 109 d), some (.lst (toks.map Tok.v)), some (.lst (nats ((List.range 286).map FL))), some (.lst (nats ((List.range 30).map FD))), none, none, none, none, none, none, none, none, none] := rfl
  rw [hset]
  obtain ⟨x1, y1, c1⟩ := canonical_at (F := FL) (n := 286) (hp := hp) h7L hFL h0L (by decide) (by decide)
  obtain ⟨x2, y2, c2⟩ := canonical_at (F := FD) (n := 30) (hp := hp ++ [x1, y1, .dead]) h7D hFD h0D (by decide) (by decide)
  have a1 : (sAsg (aVar 5) (eCall b_127 [(eV 3)])) [some (.obj 172 0), some (.obj 109 d), some (.lst (toks.map Tok.v)), some (.lst (nats ((List.range 286).map FL))), some (.lst (nats ((List.range 30).map FD))), none, none, none, none, none, none, none, none, none] hp = _ := sAsg_v (eCall_at (evL_c rfl rfl) c1)
  have a2 : (sAsg (aVar 6) (eCall b_127 [(eV 4)])) [some (.obj 172 0), some (.obj 109 d), some (.lst (toks.map Tok.v)), some (.lst (nats ((List.range 286).map FL))), some (.lst (nats ((List.range 30).map FD))), some (.lst (nats ((List.range 286).map (codeD FL 286)))), none, none, none, none, none, none, none, none] (hp ++ [x1, y1, .dead]) = _ := sAsg_v (eCall_at (evL_c rfl rfl) c2)
  have w2 : WB (hp ++ [x1, y1, .dead] ++ [x2, y2, .dead]) d k [] := (w.app _).app _
  have ht2 : (hp ++ [x1, y1, .dead] ++ [x2, y2, .dead])[0]? = some (.ns TF') := by
    have hl0 : 0 < hp.length := (List.getElem?_eq_some_iff.mp ht).1
    rw [List.getElem?_append_left (by rw [List.length_append]; omega), List.getElem?_append_left hl0]; exact ht
  obtain ⟨hp3, v7, v8, v9, v10, g1, g2, g3, g4⟩ := loopP (d := d) (k := k) (row := .lst (toks.map Tok.v)) hFL hFD d0 k0 h [] _ none none none none w2 ht2 (by simp; omega)
  have a3 := sFor_at (e := eV 2) (ρ := RPF d (.lst (toks.map Tok.v)) FL FD none none none none) (v := .lst (toks.map Tok.v)) rfl rfl g1
  obtain ⟨hp4, p1, p2, p3⟩ := g2.putCode (code := codeD FL 286 256) (many := FL 256) (by have := hFL 256; omega) (by simp at g4; omega)
  rw [bitsD] at p2
  have s4 := eMeth_at (C := 109) (name := "put_code") (g := b_64) (f := eV 1) (fs := [(eIdx (eV 5) (eC (.int 256))), (eIdx (eV 3) (eC (.int 256)))]) (ρ := RPF d (.lst (toks.map Tok.v)) FL FD v7 v8 v9 v10) (hp := hp3) (o := .obj 109 d) rfl (noField_W g2.ns W_no.2.1)
    (evL_c (eIdx_at rfl rfl (idx_tabF (i := 256) (by decide) (by decide))) (evL_c (eIdx_at rfl rfl (idx_tabF (i := 256) (by decide) (by decide))) rfl)) p1
  refine ⟨hp4, ?_, p2, ?_⟩
  · exact (congrArg (Option.map _) ((sCons_n a1).trans ((sCons_n a2).trans ((sCons_n a3).trans ((sCons_n (sExp_v s4)).trans rfl))))).trans rfl
  · unfold endB
    rw [List.length_append, bitsM_len]
    have := hFL 256
    simp at g4
    omega
end Mine
end
section
open PySem PySem.W PyProof.Rows
set_option Elab.async false
set_option linter.unusedVariables false
set_option linter.unusedSimpArgs false
namespace Mine

theorem bits_at {c m : Nat} {hp : Hp} (hm : m ≤ 20) : b_217 [.int c, .int m] hp = some (.lst (nats (lowB c m)), hp) := by
  unfold b_217 fnF f_217
  have hlen' : ([V.int c, .int m] ++ []).length = [0, 1].length := rfl
  rw [if_pos hlen']
  have hset : setAll [0, 1] ([V.int c, .int m] ++ []) (List.replicate 3 none) = [some (.int c), some (.int m), none] := rfl
  rw [hset]
  have hr : (eCall bRange [(eV 1)]) [some (.int c), some (.int m), none] hp = some (.rng 0 m 1, hp) := eCall_at (evL_c rfl rfl) rfl
  have hi := items_range m (Nat.le_trans hm (by decide))
  have hml : mkLoc [none, none, some 0] [some (.int c), some (.int m), none] = [none, none, some (.int c)] := rfl
  have hc : compL none (eBin (oInt pMod) (eBin (oInt pDiv) (eV 2) (eBin (oInt pPow) (eC (.int 2)) (eV 1))) (eC (.int 2))) 1 (vInts m 0 1) (mkLoc [none, none, some 0] [some (.int c), some (.int m), none]) hp
      = some ((vInts m 0 1).map (fun v => match v with | .int k => .int ((c / 2 ^ k.toNat % 2 : Nat) : Int) | v => v), hp) := by
    refine compL_eq fun x hx => ?_
    unfold vInts at hx
    obtain ⟨k, hk, rfl⟩ := List.mem_map.mp hx
    have hk := List.mem_range.mp hk
    have ek : (0 : Int) + (k : Nat) * 1 = (k : Int) := by omega
    rw [ek, hml]
    have hpw : 2 ^ k < 1073741824 := Nat.lt_of_le_of_lt (Nat.pow_le_pow_right (by decide) (by omega : k ≤ 20)) (by decide)
    have hd := pDiv_nat c (2 ^ k) ⟨Nat.pow_pos (by decide), hpw⟩
    exact eBin_at (eBin_at rfl (eBin_at rfl rfl (oInt_at (pPow_nat (a := 2) (by decide) (by omega)))) (oInt_at hd)) rfl (oInt_at (pMod_nat _ 2 (by decide)))
  have he : (eComp (eCall bRange [(eV 1)]) [none, none, some 0] none (eBin (oInt pMod) (eBin (oInt pDiv) (eV 2) (eBin (oInt pPow) (eC (.int 2)) (eV 1))) (eC (.int 2))) 1) [some (.int c), some (.int m), none] hp = some (.lst (nats (lowB c m)), hp) := by
    refine (eComp_at hr hi hc ?_).trans ?_
    · unfold vInts; rw [List.length_map, List.length_range]; exact Nat.le_trans hm (Nat.le_of_ble_eq_true rfl)
    · unfold vInts nats lowB
      rw [List.map_map, List.map_map]
      congr 3
      refine List.map_congr_left fun k hk => ?_
      show V.int ((c / 2 ^ ((0 : Int) + (k : Nat) * 1).toNat % 2 : Nat) : Int) = V.int ((c / 2 ^ k % 2 : Nat) : Int)
      have ek : ((0 : Int) + (k : Nat) * 1).toNat = k := by omega
      rw [ek]
  exact (congrArg (Option.map _) (sCons_r (sRet_v he))).trans rfl

theorem add_lst {xs ys : List Nat} {hp : Hp} (h : xs.length + ys.length ≤ 100000) : oAdd (.lst (nats xs)) (.lst (nats ys)) hp = some (.lst (nats (xs ++ ys)), hp) := by
  show ((some (nats xs)).bind fun xs => (some (nats ys)).bind fun ys => if xs.length + ys.length ≤ lim then some (V.lst (xs ++ ys), hp) else none) = _
  rw [Option.bind_some, Option.bind_some, nats_len, nats_len, if_pos (Nat.le_trans h (Nat.le_of_ble_eq_true rfl))]
  unfold nats
  rw [List.map_append]
noncomputable def RB (x y z : V) (t9 t10 t11 told spr t14 : Option V) (lots codes : V) (B : List Nat) (rest : Loc) : Loc :=
  RL x y z t9 t10 t11 (told :: spr :: t14 :: some lots :: some codes :: some (.lst (nats B)) :: rest)
noncomputable def bodyB : SF := (sCons (sAsg (aVar 17) (eBin (oAdd) (eV 17) (eIdx (eIdx (eV 16) (eC (.int 0))) (eV 14)))) (sCons (sIf (tCmp (oIsNot) (eV 10) (eC .none)) (sCons (sAsg (aVar 17) (eBin (oAdd) (eBin (oAdd) (eBin (oAdd) (eV 17) (eCall b_217 [(eIdx (eV 10) (eC (.int 1))), (eIdx (eV 10) (eC (.int 2)))])) (eIdx (eIdx (eV 16) (eC (.int 1))) (eIdx (eV 11) (eC (.int 0))))) (eCall b_217 [(eIdx (eV 11) (eC (.int 1))), (eIdx (eV 11) (eC (.int 2)))]))) sNil) sNil) sNil))
/-- each sign that comes has a length -/
noncomputable def PosI (FL FD : Nat → Nat) : TI → Prop
  | .lit a => a < 286 ∧ 0 < FL a
  | .pair ls _ lm ds _ dm => (ls < 286 ∧ 0 < FL ls) ∧ (ds < 30 ∧ 0 < FD ds) ∧ lm ≤ 20 ∧ dm ≤ 20
section
variable {x y z : V} {t9 t10 t11 told spr t14 : Option V} {lots : V} {f0 f1 : List (Int × V)} {B : List Nat} {rest : Loc} {FL FD : Nat → Nat} {hp : Hp}
theorem idx_code {s : Nat} {F : Nat → Nat} {n : Nat} {f : List (Int × V)} (h : dGet f s = some (bitsV F n s)) : oIdx (.dct f) (.int (s : Nat)) hp = some (.lst (nats (bitsM (codeOf F n s) (F s)))) := h
theorem idx_l0 {a : V} {r : List V} {hp : Hp} : oIdx (.lst (a :: r)) (.int 0) hp = some a := (idx_lst (k := 0) (by decide)).trans (by simp)
theorem idx_l1 {a b : V} {r : List V} {hp : Hp} : oIdx (.lst (a :: b :: r)) (.int 1) hp = some b := (idx_lst (k := 1) (by decide)).trans (by simp)
theorem idx_tup2 {a b c : V} {r : List V} {hp : Hp} : oIdx (.tup (a :: b :: c :: r)) (.int 2) hp = some c := (idx_tup (k := 2) (by decide)).trans (by simp)
theorem bodyB_lit {a : Nat} (hFL : ∀ s, FL s ≤ 15) (h : dGet f0 a = some (bitsV FL 286 a)) (hB : B.length ≤ 90000) :
    bodyB (RB x y z t9 (some .none) (some .none) told spr (some (.int a)) lots (.lst [.dct f0, .dct f1]) B rest) hp
      = some (.next, RB x y z t9 (some .none) (some .none) told spr (some (.int a)) lots (.lst [.dct f0, .dct f1]) (B ++ bitsTI FL FD (.lit a)) rest, hp) := by
  have hf := hFL a
  have a1 : (sAsg (aVar 17) (eBin (oAdd) (eV 17) (eIdx (eIdx (eV 16) (eC (.int 0))) (eV 14)))) (RB x y z t9 (some .none) (some .none) told spr (some (.int a)) lots (.lst [.dct f0, .dct f1]) B rest) hp
      = some (.next, RB x y z t9 (some .none) (some .none) told spr (some (.int a)) lots (.lst [.dct f0, .dct f1]) (B ++ bitsTI FL FD (.lit a)) rest, hp) :=
    sAsg_v (eBin_at rfl (eIdx_at (eIdx_at rfl rfl idx_l0) rfl (idx_code h)) (add_lst (by rw [bitsM_len]; omega)))
  have t1 : (tCmp (oIsNot) (eV 10) (eC .none)) (RB x y z t9 (some .none) (some .none) told spr (some (.int a)) lots (.lst [.dct f0, .dct f1]) (B ++ bitsTI FL FD (.lit a)) rest) hp = some (false, hp) := rfl
  exact (sCons_n a1).trans ((sCons_n ((sIf_f t1).trans rfl)).trans rfl)
theorem bodyB_pair {ls lr lm ds dr dm : Nat} (hFL : ∀ s, FL s ≤ 15) (hFD : ∀ s, FD s ≤ 15) (h0 : dGet f0 ls = some (bitsV FL 286 ls)) (h1 : dGet f1 ds = some (bitsV FD 30 ds)) (hlm : lm ≤ 20) (hdm : dm ≤ 20) (hB : B.length ≤ 90000) :
    bodyB (RB x y z t9 (some (tri ls lr lm)) (some (tri ds dr dm)) told spr (some (.int ls)) lots (.lst [.dct f0, .dct f1]) B rest) hp
      = some (.next, RB x y z t9 (some (tri ls lr lm)) (some (tri ds dr dm)) told spr (some (.int ls)) lots (.lst [.dct f0, .dct f1]) (B ++ bitsTI FL FD (.pair ls lr lm ds dr dm)) rest, hp) := by
  have hf := hFL ls
  have hg := hFD ds
  have a1 : (sAsg (aVar 17) (eBin (oAdd) (eV 17) (eIdx (eIdx (eV 16) (eC (.int 0))) (eV 14)))) (RB x y z t9 (some (tri ls lr lm)) (some (tri ds dr dm)) told spr (some (.int ls)) lots (.lst [.dct f0, .dct f1]) B rest) hp
      = some (.next, RB x y z t9 (some (tri ls lr lm)) (some (tri ds dr dm)) told spr (some (.int ls)) lots (.lst [.dct f0, .dct f1]) (B ++ bitsM (codeOf FL 286 ls) (FL ls)) rest, hp) :=
    sAsg_v (eBin_at rfl (eIdx_at (eIdx_at rfl rfl idx_l0) rfl (idx_code h0)) (add_lst (by rw [bitsM_len]; omega)))
  have t1 : (tCmp (oIsNot) (eV 10) (eC .none)) (RB x y z t9 (some (tri ls lr lm)) (some (tri ds dr dm)) told spr (some (.int ls)) lots (.lst [.dct f0, .dct f1]) (B ++ bitsM (codeOf FL 286 ls) (FL ls)) rest) hp = some (true, hp) := rfl
  have n1 : (eCall b_217 [(eIdx (eV 10) (eC (.int 1))), (eIdx (eV 10) (eC (.int 2)))]) (RB x y z t9 (some (tri ls lr lm)) (some (tri ds dr dm)) told spr (some (.int ls)) lots (.lst [.dct f0, .dct f1]) (B ++ bitsM (codeOf FL 286 ls) (FL ls)) rest) hp = some (.lst (nats (lowB lr lm)), hp) :=
    eCall_at (evL_c (eIdx_at rfl rfl idx_tup1) (evL_c (eIdx_at rfl rfl idx_tup2) rfl)) (bits_at hlm)
  have n2 : (eCall b_217 [(eIdx (eV 11) (eC (.int 1))), (eIdx (eV 11) (eC (.int 2)))]) (RB x y z t9 (some (tri ls lr lm)) (some (tri ds dr dm)) told spr (some (.int ls)) lots (.lst [.dct f0, .dct f1]) (B ++ bitsM (codeOf FL 286 ls) (FL ls)) rest) hp = some (.lst (nats (lowB dr dm)), hp) :=
    eCall_at (evL_c (eIdx_at rfl rfl idx_tup1) (evL_c (eIdx_at rfl rfl idx_tup2) rfl)) (bits_at hdm)
  have n3 : (eIdx (eIdx (eV 16) (eC (.int 1))) (eIdx (eV 11) (eC (.int 0)))) (RB x y z t9 (some (tri ls lr lm)) (some (tri ds dr dm)) told spr (some (.int ls)) lots (.lst [.dct f0, .dct f1]) (B ++ bitsM (codeOf FL 286 ls) (FL ls)) rest) hp = some (.lst (nats (bitsM (codeOf FD 30 ds) (FD ds))), hp) :=
    eIdx_at (eIdx_at rfl rfl idx_l1) (eIdx_at rfl rfl idx_tup0) (idx_code h1)
  have a2 := sAsg_v (i := 17) (eBin_at (eBin_at (eBin_at (f := eV 17) (ρ := RB x y z t9 (some (tri ls lr lm)) (some (tri ds dr dm)) told spr (some (.int ls)) lots (.lst [.dct f0, .dct f1]) (B ++ bitsM (codeOf FL 286 ls) (FL ls)) rest) rfl n1 (add_lst (by rw [List.length_append, bitsM_len, lowB_len]; omega))) n3 (add_lst (by rw [List.length_append, List.length_append, bitsM_len, lowB_len, bitsM_len]; omega))) n2 (add_lst (by rw [List.length_append, List.length_append, List.length_append, bitsM_len, lowB_len, bitsM_len, lowB_len]; omega)))
  have : B ++ bitsTI FL FD (.pair ls lr lm ds dr dm) = B ++ bitsM (codeOf FL 286 ls) (FL ls) ++ lowB lr lm ++ bitsM (codeOf FD 30 ds) (FD ds) ++ lowB dr dm := by
    unfold bitsTI; simp only [List.append_assoc]
  rw [this]
  exact (sCons_n a1).trans ((sCons_n ((sIf_t t1).trans ((sCons_n a2).trans rfl))).trans rfl)
end
theorem loopB {x y z : V} {t9 told spr : Option V} {lots : V} {f0 f1 : List (Int × V)} {rest : Loc} {FL FD : Nat → Nat} {hp : Hp} (hFL : ∀ s, FL s ≤ 15) (hFD : ∀ s, FD s ≤ 15) (g0 : ∀ s, s < 286 → 0 < FL s → dGet f0 s = some (bitsV FL 286 s)) (g1 : ∀ s, s < 30 → 0 < FD s → dGet f1 s = some (bitsV FD 30 s)) :
    ∀ (is : List TI) (B : List Nat) (t10 t11 t14 : Option V), (∀ i ∈ is, PosI FL FD i) → B.length + 70 * is.length ≤ 80000 → ∃ t10' t11' t14',
      forL (aTup [14, 10, 11]) bodyB (is.map stepV) (RB x y z t9 t10 t11 told spr t14 lots (.lst [.dct f0, .dct f1]) B rest) hp
        = some (.next, RB x y z t9 t10' t11' told spr t14' lots (.lst [.dct f0, .dct f1]) (allB FL FD is B) rest, hp)
  | [], B, t10, t11, t14, _, _ => ⟨t10, t11, t14, rfl⟩
  | i :: is, B, t10, t11, t14, hp', hB => by
    rw [List.length_cons] at hB
    have hi := hp' i (.head _)
    cases i with
    | lit a =>
      have hb := bodyB_lit (x := x) (y := y) (z := z) (t9 := t9) (told := told) (spr := spr) (lots := lots) (f1 := f1) (rest := rest) (FL := FL) (FD := FD) (hp := hp) hFL (g0 a hi.1 hi.2) (by omega : B.length ≤ 90000)
      have hf := hFL a
      obtain ⟨u10, u11, u14, e⟩ := loopB (x := x) (y := y) (z := z) (t9 := t9) (told := told) (spr := spr) (lots := lots) (rest := rest) (hp := hp) hFL hFD g0 g1 is (B ++ bitsTI FL FD (.lit a)) (some .none) (some .none) (some (.int a)) (fun j hj => hp' j (.tail _ hj)) (by unfold bitsTI; rw [List.length_append, bitsM_len]; omega)
      refine ⟨u10, u11, u14, ?_⟩
      rw [List.map_cons, forL_n (a := aTup [14, 10, 11]) (ρ1 := RB x y z t9 (some .none) (some .none) told spr (some (.int a)) lots (.lst [.dct f0, .dct f1]) B rest) rfl hb, e]
      rfl
    | pair ls lr lm ds dr dm =>
      have hb := bodyB_pair (x := x) (y := y) (z := z) (t9 := t9) (told := told) (spr := spr) (lots := lots) (rest := rest) (FL := FL) (FD := FD) (hp := hp) (lr := lr) (dr := dr) hFL hFD (g0 ls hi.1.1 hi.1.2) (g1 ds hi.2.1.1 hi.2.1.2) hi.2.2.1 hi.2.2.2 (by omega : B.length ≤ 90000)
      have hf := hFL ls
      have hg := hFD ds
      have q1 := hi.2.2.1
      have q2 := hi.2.2.2
      obtain ⟨u10, u11, u14, e⟩ := loopB (x := x) (y := y) (z := z) (t9 := t9) (told := told) (spr := spr) (lots := lots) (rest := rest) (hp := hp) hFL hFD g0 g1 is (B ++ bitsTI FL FD (.pair ls lr lm ds dr dm)) (some (tri ls lr lm)) (some (tri ds dr dm)) (some (.int ls)) (fun j hj => hp' j (.tail _ hj)) (by unfold bitsTI; simp only [List.length_append, bitsM_len, lowB_len]; omega)
      refine ⟨u10, u11, u14, ?_⟩
      rw [List.map_cons, forL_n (a := aTup [14, 10, 11]) (ρ1 := RB x y z t9 (some (tri ls lr lm)) (some (tri ds dr dm)) told spr (some (.int ls)) lots (.lst [.dct f0, .dct f1]) B rest) rfl hb, e]
      rfl
theorem allB_app {FL FD : Nat → Nat} : ∀ (is js : List TI) (B : List Nat), allB FL FD (is ++ js) B = allB FL FD js (allB FL FD is B)
  | [], js, B => rfl
  | i :: is, js, B => allB_app is js _
end Mine
end
section
open PySem PySem.W PyProof.Rows
set_option Elab.async false
set_option linter.unusedVariables false
set_option linter.unusedSimpArgs false
namespace Mine

noncomputable def isBit (C : List Nat) : Prop := ∀ b ∈ C, b < 2
theorem isBit.app {A B : List Nat} (a : isBit A) (b : isBit B) : isBit (A ++ B) := fun x hx => (List.mem_append.mp hx).elim (a x) (b x)
theorem isBit_M (c m : Nat) : isBit (bitsM c m) := fun b hb => by
  obtain ⟨k, _, rfl⟩ := List.mem_map.mp hb; exact Nat.mod_lt _ (by decide)
theorem isBit_L (c m : Nat) : isBit (lowB c m) := fun b hb => by
  obtain ⟨k, _, rfl⟩ := List.mem_map.mp hb; exact Nat.mod_lt _ (by decide)
theorem isBit_T (FL FD : Nat → Nat) (i : TI) : isBit (bitsTI FL FD i) := by
  cases i with
  | lit a => exact isBit_M _ _
  | pair => exact (((isBit_M _ _).app (isBit_L _ _)).app (isBit_M _ _)).app (isBit_L _ _)
theorem isBit_all (FL FD : Nat → Nat) : ∀ (is : List TI) (B : List Nat), isBit B → isBit (allB FL FD is B)
  | [], B, h => h
  | i :: is, B, h => isBit_all FL FD is _ (h.app (isBit_T FL FD i))
theorem isBit_rep (n : Nat) : isBit (List.replicate n 0) := fun b hb => by rw [(List.mem_replicate.mp hb).2]; decide
theorem val_lt : ∀ {C : List Nat}, isBit C → val C < 2 ^ C.length
  | [], _ => by simp [val]
  | b :: C, h => by
    have h1 := h b (.head _)
    have h2 := val_lt (C := C) fun x hx => h x (.tail _ hx)
    rw [val, List.length_cons, Nat.pow_succ]
    omega
theorem val_rep : ∀ n : Nat, val (List.replicate n 0) = 0
  | 0 => rfl
  | n + 1 => by rw [List.replicate_succ, val, val_rep n]
theorem sum_val : ∀ (D : List Nat) (m : Nat), D.length = m → ((List.range m).map fun j => D.getD j 0 * 2 ^ j).sum = val D
  | [], m, h => by subst h; rfl
  | b :: D, m, h => by
    obtain ⟨m, rfl⟩ : ∃ k, m = k + 1 := ⟨D.length, by rw [← h, List.length_cons]⟩
    have hl : D.length = m := by rw [List.length_cons] at h; omega
    have ih := sum_val D m hl
    rw [List.range_succ_eq_map, List.map_cons, List.map_map, List.sum_cons, val, ← ih]
    have e1 : (b :: D).getD 0 0 * 2 ^ 0 = b := by simp
    rw [e1]
    congr 1
    have : ∀ l : List Nat, (l.map ((fun j => (b :: D).getD j 0 * 2 ^ j) ∘ Nat.succ)).sum = 2 * (l.map fun j => D.getD j 0 * 2 ^ j).sum := by
      intro l
      induction l with
      | nil => rfl
      | cons j l ih =>
        rw [List.map_cons, List.sum_cons, List.map_cons, List.sum_cons, ih, Nat.mul_add]
        congr 1
        show (b :: D).getD (j + 1) 0 * 2 ^ (j + 1) = _
        have : (b :: D).getD (j + 1) 0 = D.getD j 0 := by simp [List.getD_eq_getElem?_getD]
        rw [this, Nat.pow_succ', Nat.mul_left_comm]
    exact this _
theorem chunk {C : List Nat} (h : isBit C) {i : Nat} (hi : 8 * i + 8 ≤ C.length) : val ((C.drop (8 * i)).take 8) = val C / 256 ^ i % 256 := by
  have e1 : val C = val (C.take (8 * i)) + val (C.drop (8 * i)) * 2 ^ (8 * i) := by
    have h1 := val_app (C.take (8 * i)) (C.drop (8 * i))
    rw [List.take_append_drop, List.length_take, Nat.min_eq_left (by omega)] at h1
    exact h1
  have l1 : val (C.take (8 * i)) < 2 ^ (8 * i) := by
    have := val_lt (C := C.take (8 * i)) fun b hb => h b (List.mem_of_mem_take hb)
    rw [List.length_take, Nat.min_eq_left (by omega)] at this
    exact this
  have e256 : (256 : Nat) ^ i = 2 ^ (8 * i) := by rw [Nat.pow_mul]
  have e2 : val C / 256 ^ i = val (C.drop (8 * i)) := by
    rw [e256, e1, Nat.add_mul_div_right _ _ (Nat.pow_pos (by decide)), Nat.div_eq_of_lt l1, Nat.zero_add]
  have e3 : val (C.drop (8 * i)) = val ((C.drop (8 * i)).take 8) + val ((C.drop (8 * i)).drop 8) * 2 ^ 8 := by
    have h1 := val_app ((C.drop (8 * i)).take 8) ((C.drop (8 * i)).drop 8)
    rw [List.take_append_drop, List.length_take, List.length_drop, Nat.min_eq_left (by omega)] at h1
    exact h1
  have l2 : val ((C.drop (8 * i)).take 8) < 2 ^ 8 := by
    have := val_lt (C := (C.drop (8 * i)).take 8) fun b hb => h b (List.mem_of_mem_drop (List.mem_of_mem_take hb))
    rw [List.length_take, List.length_drop, Nat.min_eq_left (by omega)] at this
    exact this
  rw [e2, e3]
  have : (2 : Nat) ^ 8 = 256 := rfl
  rw [this] at l2 ⊢
  rw [Nat.add_mul_mod_self_right, Nat.mod_eq_of_lt l2]
theorem getD_chunk {C : List Nat} {i j : Nat} (hj : j < 8) : ((C.drop (8 * i)).take 8).getD j 0 = C.getD (8 * i + j) 0 := by
  rw [List.getD_eq_getElem?_getD, List.getD_eq_getElem?_getD, List.getElem?_take, if_pos hj, List.getElem?_drop]
theorem leB_eq : ∀ (q N : Nat), leB N q = (List.range q).map fun i => (N / 256 ^ i % 256).toUInt8
  | 0, N => rfl
  | q + 1, N => by
    rw [leB, leB_eq q, List.range_succ_eq_map, List.map_cons, List.map_map, Nat.pow_zero, Nat.div_one]
    congr 1
    refine List.map_congr_left fun i _ => ?_
    show _ = (N / 256 ^ (i + 1) % 256).toUInt8
    rw [Nat.div_div_eq_div_mul, Nat.pow_succ']

theorem compR {e : EF} {i : Nat} {ρ : Loc} {hp : Hp} {a d : Int} {g : Nat → Nat} : ∀ l : List Nat, (∀ k ∈ l, e (ρ.set i (some (.int (a + (k : Nat) * d)))) hp = some (.int (g k : Nat), hp)) → compL none e i (l.map fun k : Nat => .int (a + k * d)) ρ hp = some (nats (l.map g), hp)
  | [], _ => rfl
  | k :: l, h => by
    rw [List.map_cons, compL]
    show ((some (true, hp) : Option (Bool × Hp)).bind _) = _
    rw [Option.bind_some, if_pos rfl, h k (.head _), Option.bind_some, compR l fun j hj => h j (.tail _ hj)]
    rfl
theorem pMul_nat {a b : Nat} (h : a ≤ 1000) : pMul (a : Int) (b : Int) = some ((a * b : Nat) : Int) := by
  unfold pMul
  rw [if_pos (by rw [Int.natAbs_natCast]; omega)]
  norm_cast
theorem sum_cast : ∀ l : List Nat, (l.map fun x : Nat => (x : Int)).sum = ((l.sum : Nat) : Int)
  | [] => rfl
  | x :: l => by rw [List.map_cons, List.sum_cons, List.sum_cons, sum_cast l]; norm_cast
theorem sum_at {xs : List Nat} {hp : Hp} (hx : ∀ x ∈ xs, x ≤ 1000000) (hl : xs.length ≤ 4096) : bSum [.lst (nats xs)] hp = some (.int ((xs.sum : Nat) : Int), hp) := by
  show ((some (nats xs)).bind fun xs => (asInts xs).bind fun ns => if (∀ i ∈ ns, i.natAbs ≤ 2 ^ 40) ∧ ns.length ≤ 4096 then some (V.int ns.sum, hp) else none) = _
  rw [Option.bind_some, asInts_nats, Option.bind_some, if_pos, sum_cast]
  refine ⟨fun i hi => ?_, by rw [List.length_map]; exact hl⟩
  obtain ⟨x, h1, rfl⟩ := List.mem_map.mp hi
  rw [Int.natAbs_natCast]
  exact Nat.le_trans (hx x h1) (by decide)
theorem bytes_at {xs : List Nat} {hp : Hp} (hx : ∀ x ∈ xs, x < 256) (hl : xs.length ≤ 1000) : bBytes [.lst (nats xs)] hp = some (.byt (xs.map fun x => x.toUInt8), hp) := by
  show ((asInts (nats xs)).bind fun ns => if (∀ i ∈ ns, 0 ≤ i ∧ i < 256) ∧ ns.length ≤ lim then some (V.byt (ns.map fun i => i.toNat.toUInt8), hp) else none) = _
  rw [asInts_nats, Option.bind_some, if_pos, List.map_map]
  · rfl
  refine ⟨fun i hi => ?_, by rw [List.length_map]; exact Nat.le_trans hl (Nat.le_of_ble_eq_true rfl)⟩
  obtain ⟨x, h1, rfl⟩ := List.mem_map.mp hi
  have := hx x h1
  omega
theorem items_range8 (q : Nat) (h : q ≤ 1000) : itemsOf (.rng 0 ((8 * q : Nat) : Int) 8) = some (vInts q 0 8) := by
  have : Builtin.Range.rangeSize 0 ((8 * q : Nat) : Int) 8 = q := by
    unfold Builtin.Range.rangeSize
    rw [if_pos (by decide)]
    split <;> omega
  show (if (0 : Int) < 8 ∧ (8 : Int) ≤ 1000 ∧ (0 : Int).natAbs ≤ 2 ^ 40 ∧ ((8 * q : Nat) : Int).natAbs ≤ 2 ^ 40 then some (vInts (Builtin.Range.rangeSize 0 ((8 * q : Nat) : Int) 8).toNat 0 8) else none) = _
  rw [this, if_pos ⟨by decide, by decide, by decide, by omega⟩]
  simp
noncomputable def byteE : EF := (eCall bSum [(eComp (eCall bRange [(eC (.int 8))]) [none, none, some 4, some 1] none (eBin (oInt pMul) (eIdx (eV 2) (eBin (oAdd) (eV 3) (eV 1))) (eBin (oInt pPow) (eC (.int 2)) (eV 1))) 1)])
theorem byte_at {C : List Nat} {i : Nat} {hp : Hp} (h : isBit C) (hi : 8 * i + 8 ≤ C.length) (hl : C.length ≤ 1000) : byteE [none, some (.int ((8 * i : Nat) : Int)), none, none, some (.lst (nats C))] hp = some (.int (val C / 256 ^ i % 256 : Nat), hp) := by
  have hc : compL none (eBin (oInt pMul) (eIdx (eV 2) (eBin (oAdd) (eV 3) (eV 1))) (eBin (oInt pPow) (eC (.int 2)) (eV 1))) 1 (vInts 8 0 1) (mkLoc [none, none, some 4, some 1] [none, some (.int ((8 * i : Nat) : Int)), none, none, some (.lst (nats C))]) hp
      = some (nats ((List.range 8).map fun j => C.getD (8 * i + j) 0 * 2 ^ j), hp) := by
    refine compR (a := 0) (d := 1) (List.range 8) fun j hj => ?_
    have hj := List.mem_range.mp hj
    have ej : (0 : Int) + (j : Nat) * 1 = (j : Int) := by omega
    have hml : mkLoc [none, none, some 4, some 1] [none, some (.int ((8 * i : Nat) : Int)), none, none, some (.lst (nats C))] = [none, none, some (.lst (nats C)), some (.int ((8 * i : Nat) : Int))] := rfl
    rw [ej, hml]
    have hlt : 8 * i + j < C.length := by omega
    have hb : C.getD (8 * i + j) 0 < 2 := by
      rw [List.getD_eq_getElem?_getD, List.getElem?_eq_getElem hlt]
      exact h _ (List.getElem_mem hlt)
    have hix : oIdx (.lst (nats C)) (.int ((8 * i + j : Nat) : Int)) hp = some (.int (C.getD (8 * i + j) 0 : Nat)) :=
      (idx_lst (Nat.lt_of_lt_of_le hlt (Nat.le_trans hl (by decide)))).trans (nats_get hlt)
    exact eBin_at (eIdx_at rfl (eBin_at rfl rfl (add_nat _ _ _)) hix) (eBin_at rfl rfl (oInt_at (pPow_nat (a := 2) (by decide) (by omega)))) (oInt_at (pMul_nat (by omega)))
  have hr : (eCall bRange [(eC (.int 8))]) [none, some (.int ((8 * i : Nat) : Int)), none, none, some (.lst (nats C))] hp = some (.rng 0 8 1, hp) := rfl
  have hcomp := eComp_at hr (items_range 8 (by decide)) hc (Nat.le_of_ble_eq_true rfl)
  have e1 : ((List.range 8).map fun j => C.getD (8 * i + j) 0 * 2 ^ j).sum = val C / 256 ^ i % 256 := by
    rw [← chunk h hi, ← sum_val _ 8 (by rw [List.length_take, List.length_drop]; omega)]
    exact congrArg List.sum (List.map_congr_left fun j hj => by rw [getD_chunk (List.mem_range.mp hj)])
  have hs := sum_at (xs := (List.range 8).map fun j => C.getD (8 * i + j) 0 * 2 ^ j) (hp := hp) (fun x hx => by
    obtain ⟨j, hj, rfl⟩ := List.mem_map.mp hx
    have hj := List.mem_range.mp hj
    have hlt : 8 * i + j < C.length := by omega
    have hb : C.getD (8 * i + j) 0 < 2 := by
      rw [List.getD_eq_getElem?_getD, List.getElem?_eq_getElem hlt]
      exact h _ (List.getElem_mem hlt)
    have hp2 : 2 ^ j ≤ 2 ^ 8 := Nat.pow_le_pow_right (by decide) (by omega)
    exact Nat.le_trans (Nat.mul_le_mul (by omega : C.getD (8 * i + j) 0 ≤ 1) hp2) (by decide)) (by rw [List.length_map, List.length_range]; decide)
  rw [e1] at hs
  exact eCall_at (evL_c hcomp rfl) hs
/-- law's own octets -/
theorem octets_law {C : List Nat} {q : Nat} {ρ : Loc} {hp : Hp} (h : isBit C) (hq : C.length = 8 * q) (hl : q ≤ 100) (h17 : ρ[17]? = some (some (.lst (nats C)))) :
    (eCall bBytes [(eComp (eCall bRange [(eC (.int 0)), (eCall bLen [(eV 17)]), (eC (.int 8))]) [none, none, none, none, some 17] none byteE 1)]) ρ hp = some (.byt (leB (val C) q), hp) := by
  have hlen := len_lst (xs := nats C) (hp := hp) h17 (by rw [nats_len]; omega)
  rw [nats_len, hq] at hlen
  have hr : (eCall bRange [(eC (.int 0)), (eCall bLen [(eV 17)]), (eC (.int 8))]) ρ hp = some (.rng 0 ((8 * q : Nat) : Int) 8, hp) := eCall_at (evL_c rfl (evL_c hlen (evL_c rfl rfl))) rfl
  have hml : mkLoc [none, none, none, none, some 17] ρ = [none, none, none, none, some (.lst (nats C))] := by
    unfold mkLoc
    simp only [List.map_cons, List.map_nil, Option.bind_none, Option.bind_some, h17, Option.join_some]
  have hc : compL none byteE 1 (vInts q 0 8) (mkLoc [none, none, none, none, some 17] ρ) hp = some (nats ((List.range q).map fun i => val C / 256 ^ i % 256), hp) := by
    refine compR (a := 0) (d := 8) (List.range q) fun i hi => ?_
    have hi := List.mem_range.mp hi
    have ei : (0 : Int) + (i : Nat) * 8 = ((8 * i : Nat) : Int) := by omega
    rw [ei, hml]
    exact byte_at h (by omega) (by omega)
  have hcomp := eComp_at hr (items_range8 q (by omega)) hc (by unfold vInts; rw [List.length_map, List.length_range]; exact Nat.le_trans hl (Nat.le_of_ble_eq_true rfl))
  refine eCall_at (evL_c hcomp rfl) ?_
  rw [bytes_at (fun x hx => by obtain ⟨i, _, rfl⟩ := List.mem_map.mp hx; exact Nat.mod_lt _ (by decide)) (by rw [List.length_map, List.length_range]; omega), leB_eq, List.map_map]
  rfl
end Mine
end
section
open PySem PySem.W PyProof.Rows
set_option Elab.async false
set_option linter.unusedVariables false
set_option linter.unusedSimpArgs false
namespace Mine

/-! the counts -/
theorem inc_set {xs : List Nat} {i j y : Nat} (h : i ≠ j) : inc (xs.set j y) i = (inc xs i).set j y := by
  unfold inc
  have : (xs.set j y).getD i 0 = xs.getD i 0 := by
    rw [List.getD_eq_getElem?_getD, List.getD_eq_getElem?_getD, List.getElem?_set_ne (Ne.symm h)]
  rw [this, List.set_comm _ _ (Ne.symm h)]
theorem fold_set : ∀ {toks : List Tok} {is : List TI} (h : TIs toks is) (L : List Nat), is.foldl (fun L t => incL t L) (L.set 256 1) = (is.foldl (fun L t => incL t L) L).set 256 1 := by
  intro toks is h
  induction h with
  | nil => intro L; rfl
  | cons ht hs ih =>
    rename_i t i ts is
    intro L
    rw [List.foldl_cons, List.foldl_cons, ← ih]
    congr 1
    cases t with
    | lit a => cases i with
      | lit b => obtain ⟨rfl, hb⟩ := ht; exact inc_set (by omega)
      | pair => exact ht.elim
    | pair l b => cases i with
      | lit b => exact ht.elim
      | pair ls lr lm ds dr dm => have := ht.1.lo; exact inc_set (by omega)
noncomputable def nz (L : List Nat) (n : Nat) : Nat := (List.range n).countP fun s => decide (0 < L.getD s 0)
theorem nz_one {L L' : List Nat} {i : Nat} (h : ∀ s, s ≠ i → L'.getD s 0 = L.getD s 0) : ∀ n, nz L' n ≤ nz L n + if i < n then 1 else 0
  | 0 => by unfold nz; simp
  | n + 1 => by
    have ih := nz_one h n
    unfold nz at ih ⊢
    rw [List.range_succ, List.countP_append, List.countP_append, List.countP_cons, List.countP_nil, List.countP_cons, List.countP_nil]
    by_cases hn : n = i
    · subst hn
      rw [if_neg (by omega)] at ih
      rw [if_pos (by omega : n < n + 1)]
      split <;> split <;> omega
    · rw [h n hn]
      have : (if i < n + 1 then 1 else 0) = if i < n then 1 else 0 := by
        by_cases hi : i < n
        · rw [if_pos hi, if_pos (by omega)]
        · rw [if_neg hi, if_neg (by omega)]
      rw [this]
      omega
theorem nz_one' {L L' : List Nat} {i : Nat} (h : ∀ s, s ≠ i → L'.getD s 0 = L.getD s 0) (n : Nat) : nz L' n ≤ nz L n + 1 := by
  have := nz_one h n
  split at this <;> omega
theorem getD_set_ne {L : List Nat} {i y s : Nat} (h : s ≠ i) : (L.set i y).getD s 0 = L.getD s 0 := by
  rw [List.getD_eq_getElem?_getD, List.getD_eq_getElem?_getD, List.getElem?_set_ne (Ne.symm h)]
theorem nz_rep (m n : Nat) : nz (List.replicate m 0) n = 0 := by
  unfold nz
  rw [List.countP_eq_zero]
  intro s _
  rw [getD_rep]; decide
theorem nz_foldL {n : Nat} : ∀ (is : List TI) (L : List Nat), nz (is.foldl (fun L t => incL t L) L) n ≤ nz L n + is.length
  | [], L => Nat.le_refl _
  | i :: is, L => by
    have ih := nz_foldL (n := n) is (incL i L)
    have h1 : nz (incL i L) n ≤ nz L n + 1 := by
      cases i with
      | lit a => exact nz_one' (i := a) (fun s hs => getD_set_ne hs) n
      | pair ls _ _ _ _ _ => exact nz_one' (i := ls) (fun s hs => getD_set_ne hs) n
    rw [List.foldl_cons, List.length_cons]
    omega
theorem nz_foldD {n : Nat} : ∀ (is : List TI) (L : List Nat), nz (is.foldl (fun L t => incD t L) L) n ≤ nz L n + is.length
  | [], L => Nat.le_refl _
  | i :: is, L => by
    have ih := nz_foldD (n := n) is (incD i L)
    have h1 : nz (incD i L) n ≤ nz L n + 1 := by
      cases i with
      | lit a => exact Nat.le_succ _
      | pair _ _ _ ds _ _ => exact nz_one' (i := ds) (fun s hs => getD_set_ne hs) n
    rw [List.foldl_cons, List.length_cons]
    omega
theorem inc_mono (L : List Nat) (i s : Nat) : L.getD s 0 ≤ (inc L i).getD s 0 := by
  unfold inc
  by_cases hs : s = i
  · subst hs
    by_cases hl : s < L.length
    · rw [getD_set hl, if_pos rfl]; omega
    · rw [List.set_eq_of_length_le (by omega)]; exact Nat.le_refl _
  · rw [getD_set_ne hs]; exact Nat.le_refl _
theorem incL_mono (t : TI) (L : List Nat) (s : Nat) : L.getD s 0 ≤ (incL t L).getD s 0 := by cases t <;> exact inc_mono _ _ _
theorem incD_mono (t : TI) (L : List Nat) (s : Nat) : L.getD s 0 ≤ (incD t L).getD s 0 := by
  cases t
  · exact Nat.le_refl _
  · exact inc_mono _ _ _
theorem foldL_mono (s : Nat) : ∀ (is : List TI) (L : List Nat), L.getD s 0 ≤ (is.foldl (fun L t => incL t L) L).getD s 0
  | [], L => Nat.le_refl _
  | i :: is, L => Nat.le_trans (incL_mono i L s) (foldL_mono s is _)
theorem foldD_mono (s : Nat) : ∀ (is : List TI) (L : List Nat), L.getD s 0 ≤ (is.foldl (fun L t => incD t L) L).getD s 0
  | [], L => Nat.le_refl _
  | i :: is, L => Nat.le_trans (incD_mono i L s) (foldD_mono s is _)
theorem inc_pos {L : List Nat} {i : Nat} (h : i < L.length) : 0 < (inc L i).getD i 0 := by
  unfold inc; rw [getD_set h, if_pos rfl]; omega
theorem fold_lenL : ∀ (is : List TI) (L : List Nat), (is.foldl (fun L t => incL t L) L).length = L.length
  | [], L => rfl
  | i :: is, L => (fold_lenL is _).trans (incL_len _ _)
theorem fold_lenD : ∀ (is : List TI) (L : List Nat), (is.foldl (fun L t => incD t L) L).length = L.length
  | [], L => rfl
  | i :: is, L => (fold_lenD is _).trans (incD_len _ _)
/-- each sign that comes is counted -/
noncomputable def CountedI (L D : List Nat) : TI → Prop
  | .lit a => a < 286 ∧ a ≠ 256 ∧ 0 < L.getD a 0
  | .pair ls _ lm ds _ dm => (ls < 286 ∧ ls ≠ 256 ∧ 0 < L.getD ls 0) ∧ (ds < 30 ∧ 0 < D.getD ds 0) ∧ lm ≤ 20 ∧ dm ≤ 20
theorem counted : ∀ {toks : List Tok} {is : List TI} (h : TIs toks is) (L D : List Nat), L.length = 286 → D.length = 30 → ∀ i ∈ is, CountedI (is.foldl (fun L t => incL t L) L) (is.foldl (fun D t => incD t D) D) i := by
  intro toks is h
  induction h with
  | nil => intro L D _ _ i hi; cases hi
  | cons ht hs ih =>
    rename_i t j ts is
    intro L D hL hD i hi
    rcases List.mem_cons.mp hi with rfl | hi
    · cases t with
      | lit a => cases i with
        | lit b =>
          obtain ⟨rfl, hb⟩ := ht
          exact ⟨by omega, by omega, Nat.lt_of_lt_of_le (inc_pos (by omega)) (foldL_mono a is (inc L a))⟩
        | pair => exact ht.elim
      | pair l b => cases i with
        | lit b => exact ht.elim
        | pair ls lr lm ds dr dm =>
          have h1 := ht.1.lo; have h2 := ht.1.hi; have h3 := ht.1.more; have h4 := ht.2.hi; have h5 := ht.2.more
          exact ⟨⟨h2, by omega, Nat.lt_of_lt_of_le (inc_pos (by omega)) (foldL_mono ls is (inc L ls))⟩, ⟨h4, Nat.lt_of_lt_of_le (inc_pos (by omega)) (foldD_mono ds is (inc D ds))⟩, by omega, by omega⟩
    · exact ih (incL j L) (incD j D) ((incL_len _ _).trans hL) ((incD_len _ _).trans hD) i hi

/-! the lengths of codes -/
noncomputable def sgL (L : List Nat) (n : Nat) : List Nat := sgn n fun s => decide (0 < L.getD s 0)
theorem esOf_congr {F G : Nat → Nat} : ∀ {l : List Nat}, (∀ s ∈ l, F s = G s) → esOf F l = esOf G l
  | [], _ => rfl
  | s :: l, h => by
    unfold esOf
    rw [List.map_cons, List.map_cons, h s (.head _)]
    congr 1
    exact esOf_congr fun t ht => h t (.tail _ ht)
theorem lens_at {L : List Nat} {n : Nat} {sp : Int} {hp : Hp} (hL : L.length = n) (h7 : nz L n ≤ 7) : ∃ (F : Nat → Nat) (x : O), (∀ s, F s ≤ 15) ∧ (∀ s, 0 < F s ↔ 0 < L.getD s 0) ∧ (sgF F n).length ≤ 7 ∧ (∀ s, n ≤ s → F s = 0) ∧
    b_212 [.lst (nats (sgL L n)), .int sp] hp = some (.dct (esF F n), hp ++ [x]) := by
  have hlen : (sgL L n).length ≤ 7 := by
    unfold sgL sgn
    rw [← List.countP_eq_length_filter]
    exact h7
  obtain ⟨f, x, hf, e⟩ := lengths_at (n := n) (c := fun s => decide (0 < L.getD s 0)) (sp := sp) (hp := hp) hlen
  have hpos : ∀ s, 0 < (if 0 < L.getD s 0 then f s else 0) ↔ 0 < L.getD s 0 := fun s => by
    by_cases h : 0 < L.getD s 0
    · rw [if_pos h]; have := (hf s).1; exact ⟨fun _ => h, fun _ => by omega⟩
    · rw [if_neg h]; exact ⟨fun q => by omega, fun q => (h q).elim⟩
  have hs : sgF (fun s => if 0 < L.getD s 0 then f s else 0) n = sgL L n := by
    unfold sgF sgL sgn
    refine List.filter_congr fun s _ => ?_
    rw [decide_eq_decide]; exact hpos s
  refine ⟨fun s => if 0 < L.getD s 0 then f s else 0, x, fun s => ?_, hpos, by rw [hs]; exact hlen, fun s hs' => ?_, ?_⟩
  · show (if 0 < L.getD s 0 then f s else 0) ≤ 15
    split
    · exact (hf s).2
    · exact Nat.zero_le _
  · show (if 0 < L.getD s 0 then f s else 0) = 0
    have : L.getD s 0 = 0 := by rw [List.getD_eq_getElem?_getD, List.getElem?_eq_none (by omega)]; rfl
    rw [if_neg (by omega)]
  · unfold esF
    rw [hs]
    refine e.trans ?_
    have : esOf f (sgn n fun s => decide (0 < L.getD s 0)) = esOf (fun s => if 0 < L.getD s 0 then f s else 0) (sgL L n) := by
      refine esOf_congr fun s hs' => ?_
      unfold sgn at hs'
      have := (List.mem_filter.mp hs').2
      show f s = if 0 < L.getD s 0 then f s else 0
      rw [if_pos (of_decide_eq_true this)]
    rw [this]

theorem compF {t : TF} {ρ : Loc} {hp : Hp} {c : Nat → Bool} (h1 : 1 < ρ.length) : ∀ l : List Nat, (∀ k ∈ l, t (ρ.set 1 (some (.int ((0 : Int) + (k : Nat) * 1)))) hp = some (c k, hp)) → compL (some t) (eV 1) 1 (l.map fun k : Nat => .int ((0 : Int) + k * 1)) ρ hp = some (nats (l.filter c), hp)
  | [], _ => rfl
  | k :: l, h => by
    have ih := compF h1 l fun j hj => h j (.tail _ hj)
    rw [List.map_cons, compL]
    show ((t (ρ.set 1 (some (.int ((0 : Int) + (k : Nat) * 1)))) hp).bind _) = _
    rw [h k (.head _), Option.bind_some]
    cases hb : c k with
    | true =>
      have e1 : (eV 1) (ρ.set 1 (some (.int ((0 : Int) + (k : Nat) * 1)))) hp = some (.int ((0 : Int) + (k : Nat) * 1), hp) := eV_at (List.getElem?_set_self h1)
      rw [if_pos rfl, e1, Option.bind_some, ih, List.filter_cons, if_pos hb]
      have ek : (0 : Int) + (k : Nat) * 1 = (k : Int) := by omega
      rw [ek]
      rfl
    | false =>
      rw [List.filter_cons, hb]
      exact ih
/-- [sign for sign in range(n) if counts[sign] > 0] -/
theorem signs_at {L : List Nat} {n j m : Nat} {ρ : Loc} {hp : Hp} (hn : n ≤ 1000) (hL : L.length = n) (hj : ρ[j]? = some (some (.ref m))) (hm : hp[m]? = some (.list (nats L))) :
    (eComp (eCall bRange [(eC (.int n))]) [none, none, some j] (some (tCmp (oCmp fun a b => decide (a > b)) (eIdx (eV 2) (eV 1)) (eC (.int 0)))) (eV 1) 1) ρ hp = some (.lst (nats (sgL L n)), hp) := by
  have hml : mkLoc [none, none, some j] ρ = [none, none, some (.ref m)] := by
    unfold mkLoc
    simp only [List.map_cons, List.map_nil, Option.bind_none, Option.bind_some, hj, Option.join_some]
  have hc : compL (some (tCmp (oCmp fun a b => decide (a > b)) (eIdx (eV 2) (eV 1)) (eC (.int 0)))) (eV 1) 1 (vInts n 0 1) (mkLoc [none, none, some j] ρ) hp = some (nats (sgL L n), hp) := by
    rw [hml]
    refine compF (Nat.le_of_ble_eq_true rfl) (List.range n) fun k hk => ?_
    have hk := List.mem_range.mp hk
    have ek : (0 : Int) + (k : Nat) * 1 = (k : Int) := by omega
    rw [ek]
    have hlt : k < L.length := by omega
    have hix : oIdx (.ref m) (.int (k : Int)) hp = some (.int (L.getD k 0 : Nat)) := (idx_ref hm (Nat.lt_of_lt_of_le hlt (by rw [hL]; exact Nat.le_trans hn (by decide)))).trans (nats_get hlt)
    refine tCmp_at (eIdx_at rfl rfl hix) rfl ?_
    show some (decide (((L.getD k 0 : Nat) : Int) > 0)) = _
    congr 1
    rw [decide_eq_decide]; omega
  exact eComp_at (eCall_at (evL_c rfl rfl) rfl) (items_range n (Nat.le_trans hn (by decide))) hc (by unfold vInts; rw [List.length_map, List.length_range]; exact Nat.le_trans hn (Nat.le_of_ble_eq_true rfl))
theorem dctOf_dct {hp : Hp} {es : List (Int × V)} : dctOf hp (.dct es) = some es := rfl
theorem eGet_at {f g h : EF} {ρ : Loc} {hp : Hp} {es : List (Int × V)} {i : Int} {w : V} (h1 : f ρ hp = some (.dct es, hp)) (h2 : g ρ hp = some (.int i, hp)) (h3 : h ρ hp = some (w, hp)) : eGet f g h ρ hp = some ((dGet es i).getD w, hp) := by
  unfold eGet
  rw [h1, Option.bind_some]
  show (if (dctOf hp (.dct es)).isSome = true then _ else _) = _
  rw [if_pos (show (dctOf hp (.dct es)).isSome = true from rfl), h2, Option.bind_some, h3, Option.bind_some]
  rfl
/-- [lots[k].get(sign, 0) for sign in range(n)] -/
theorem dense_at {F : Nat → Nat} {n j m : Nat} {q : Int} {ρ : Loc} {hp : Hp} (hn : n ≤ 1000) (hj : ρ[j]? = some (some (.ref m))) (hm : oIdx (.ref m) (.int q) hp = some (.dct (esF F n))) :
    (eComp (eCall bRange [(eC (.int n))]) [none, none, some j] none (eGet (eIdx (eV 2) (eC (.int q))) (eV 1) (eC (.int 0))) 1) ρ hp = some (.lst (nats ((List.range n).map F)), hp) := by
  have hml : mkLoc [none, none, some j] ρ = [none, none, some (.ref m)] := by
    unfold mkLoc
    simp only [List.map_cons, List.map_nil, Option.bind_none, Option.bind_some, hj, Option.join_some]
  have hc : compL none (eGet (eIdx (eV 2) (eC (.int q))) (eV 1) (eC (.int 0))) 1 (vInts n 0 1) (mkLoc [none, none, some j] ρ) hp = some (nats ((List.range n).map F), hp) := by
    rw [hml]
    refine compR (a := 0) (d := 1) (List.range n) fun k hk => ?_
    have hk := List.mem_range.mp hk
    have ek : (0 : Int) + (k : Nat) * 1 = (k : Int) := by omega
    rw [ek, eGet_at (eIdx_at rfl rfl hm) (i := (k : Int)) (w := .int 0) rfl rfl]
    unfold esF
    rw [dGet_esOf]
    by_cases h : k ∈ sgF F n
    · rw [if_pos h]; rfl
    · rw [if_neg h]
      have : F k = 0 := by
        by_cases h0 : 0 < F k
        · exact (h (mem_sgF.mpr ⟨hk, h0⟩)).elim
        · omega
      rw [this]; rfl
  exact eComp_at (eCall_at (evL_c rfl rfl) rfl) (items_range n (Nat.le_trans hn (by decide))) hc (by unfold vInts; rw [List.length_map, List.length_range]; exact Nat.le_trans hn (Nat.le_of_ble_eq_true rfl))
end Mine
end
section
open PySem PySem.W PyProof.Rows
set_option Elab.async false
set_option linter.unusedVariables false
set_option linter.unusedSimpArgs false
namespace Mine

noncomputable abbrev n14 : Loc := [none, none, none, none, none, none, none, none, none, none, none, none, none, none]
noncomputable def P0 (a : V) (b c : Option V) : Loc := some a :: b :: c :: none :: none :: none :: none :: none :: none :: none :: none :: none :: none :: none :: none :: none :: none :: none :: none :: n14
noncomputable def n20 : Loc := none :: none :: none :: none :: none :: none :: n14
noncomputable def L1 : SF := (sAsg (aVar 1) (eComp (eTake (eV 0) 12) [none, none, none, none] none (eBin (oInt pMod) (eCall bAbs [(eCall bInt [(eV 1)])]) (eBin (oInt pPow) (eC (.int 10)) (eC (.int 6)))) 1))
noncomputable def L2 : SF := (sAsg (aVar 2) (eComp (eCall bRange [(eC (.int 0)), (eBin (oInt pSub) (eCall bLen [(eV 1)]) (eC (.int 1))), (eC (.int 2))]) [none, none, none, some 1] none (eCall b_202 [(eIdx (eV 3) (eV 1)), (eIdx (eV 3) (eBin (oAdd) (eV 1) (eC (.int 1))))]) 1))
noncomputable def L3 : SF := (sAsg (aTupR [3, 4, 5]) (eTup [(eCall (bNew 172 b_141) []), (eCall b_183 []), (eCall b_190 [])]))
noncomputable def L4 : SF := (sAsg (aTup [6, 7, 8]) (eTup [(eRepM (eC (.int 0)) (eC (.int 286))), (eRepM (eC (.int 0)) (eC (.int 30))), (eMut [])]))
noncomputable def L5 : SF := sFor (eV 2) (aVar 9) bodyA
noncomputable def L6 : SF := (sSet (eV 6) (eC (.int 256)) (eC (.int 1)))
noncomputable def L7 : SF := (sAsg (aVar 12) (eMeth 172 "counts" b_162 (eV 3) [(eCall bList [(eV 2)])]))
noncomputable def L8 : SF := (sIf (tOr (tCmp (oNeSeq) (eCall bList [(eIdx (eV 12) (eC (.int 0)))]) (eV 6)) (tCmp (oNeSeq) (eCall bList [(eIdx (eV 12) (eC (.int 1)))]) (eV 7))) (sCons (sRet (eC (.bool false))) sNil) sNil)
noncomputable def fL (is : List TI) : List Nat := (is.foldl (fun L t => incL t L) (List.replicate 286 0)).set 256 1
noncomputable def fD (is : List TI) : List Nat := is.foldl (fun D t => incD t D) (List.replicate 30 0)
theorem list_at {xs : List V} {f : EF} {ρ : Loc} {hp : Hp} (h : f ρ hp = some (.lst xs, hp)) (hl : xs.length ≤ 1000) : (eCall bList [f]) ρ hp = some (.lst xs, hp) := by
  refine eCall_at (evL_c h rfl) ?_
  show ((some xs).bind fun xs => if xs.length ≤ lim then some (V.lst xs, hp) else none) = _
  rw [Option.bind_some, if_pos (Nat.le_trans hl (Nat.le_of_ble_eq_true rfl))]
theorem ne_same {xs : List Nat} {m : Nat} {hp : Hp} (h : hp[m]? = some (.list (nats xs))) : oNeSeq (.lst (nats xs)) (.ref m) hp = some false := by
  have h1 : seqInts hp (.lst (nats xs)) = some (false, xs.map fun x : Nat => (x : Int)) := by
    show ((some (nats xs)).bind fun xs => (asInts xs).map fun ns => (false, ns)) = _
    rw [Option.bind_some, asInts_nats]; rfl
  have h2 : seqInts hp (.ref m) = some (false, xs.map fun x : Nat => (x : Int)) := by
    show ((match hp[m]? with | some (.list xs) => some xs | some (.acc xs) => some xs | _ => none).bind fun xs => (asInts xs).map fun ns => (false, ns)) = _
    rw [h]
    show ((some (nats xs)).bind fun xs => (asInts xs).map fun ns => (false, ns)) = _
    rw [Option.bind_some, asInts_nats]; rfl
  unfold oNeSeq
  rw [h1, h2, Option.bind_some, Option.bind_some, if_pos rfl]
  simp
theorem sAsg_g {a : V → Loc → Option Loc} {f : EF} {ρ ρ1 : Loc} {hp hp1 : Hp} {v : V} (h : f ρ hp = some (v, hp1)) (ha : a v ρ = some ρ1) : sAsg a f ρ hp = some (.next, ρ1, hp1) := by unfold sAsg; rw [h, Option.bind_some, ha]; rfl
noncomputable def told (is : List TI) : V := .tup [.lst (nats (fL is)), .lst (nats (fD is))]
theorem partA {ns : List Int} (hl : ns.length ≤ 63) : ∃ (cs : List Nat) (toks : List Tok) (is : List TI) (t9 t10 t11 : Option V), cs.length ≤ 12 ∧ (∀ x ∈ cs, x < 1000000) ∧ toks.length ≤ 6 ∧ TIs toks is ∧
    ∀ g : SF, (sCons L1 (sCons L2 (sCons L3 (sCons L4 (sCons L5 (sCons L6 (sCons L7 (sCons L8 g)))))))) (P0 (.lst (ns.map .int)) none none) []
      = g (RL (.lst (ns.map .int)) (.lst (nats cs)) (.lst (toks.map Tok.v)) t9 t10 t11 (some (told is) :: n20)) (HL (fL is) (fD is) (is.map stepV) [.dead, .dead]) := by
  obtain ⟨cs, c1, c2, c3⟩ := cells_at (ns := ns) (ρ := P0 (.lst (ns.map .int)) none none) (hp := []) hl rfl
  obtain ⟨toks, r1, r2, r3⟩ := row_at (cs := cs) (ρ := P0 (.lst (ns.map .int)) (some (.lst (nats cs))) none) (hp := []) c1 rfl
  obtain ⟨is, hTI⟩ := tis_of r2
  obtain ⟨t9, t10, t11, m⟩ := mainLoop (x := .lst (ns.map .int)) (y := .lst (nats cs)) (z := .lst (toks.map Tok.v)) (rho := none :: n20) (rest := []) hTI (List.replicate 286 0) (List.replicate 30 0) [] none none none List.length_replicate List.length_replicate (by rw [List.length_nil]; omega)
  refine ⟨cs, toks, is, t9, t10, t11, c1, c2, r1, hTI, fun g => ?_⟩
  have a1 : L1 (P0 (.lst (ns.map .int)) none none) [] = some (.next, P0 (.lst (ns.map .int)) (some (.lst (nats cs))) none, []) := sAsg_v c3
  have a2 : L2 (P0 (.lst (ns.map .int)) (some (.lst (nats cs))) none) [] = some (.next, P0 (.lst (ns.map .int)) (some (.lst (nats cs))) (some (.lst (toks.map Tok.v))), []) := sAsg_v r3
  have a3 : L3 (P0 (.lst (ns.map .int)) (some (.lst (nats cs))) (some (.lst (toks.map Tok.v)))) [] = some (.next, some (.lst (ns.map .int)) :: some (.lst (nats cs)) :: some (.lst (toks.map Tok.v)) :: some (.obj 172 0) :: some (.lst (rowsV 257 lenTab)) :: some (.lst (rowsV 0 distTab)) :: none :: none :: none :: none :: none :: none :: none :: n20, [.ns TF', .dead, .dead, .acc accRows, .dead]) := by
    exact sAsg_g (eTup_at (vs := [.obj 172 0, .lst (rowsV 257 lenTab), .lst (rowsV 0 distTab)]) (evL_c (tool_at _) (evL_c (rows_len [] _) (evL_c (rows_dist _) rfl))) (Nat.le_of_ble_eq_true rfl)) rfl
  have a4 : L4 (some (.lst (ns.map .int)) :: some (.lst (nats cs)) :: some (.lst (toks.map Tok.v)) :: some (.obj 172 0) :: some (.lst (rowsV 257 lenTab)) :: some (.lst (rowsV 0 distTab)) :: none :: none :: none :: none :: none :: none :: none :: n20) [.ns TF', .dead, .dead, .acc accRows, .dead]
      = some (.next, RL (.lst (ns.map .int)) (.lst (nats cs)) (.lst (toks.map Tok.v)) none none none (none :: n20), HL (List.replicate 286 0) (List.replicate 30 0) [] []) := by
    exact sAsg_g (eTup_at (vs := [.ref 5, .ref 6, .ref 7]) (evL_c (repM_at (n := 286) (by decide)) (evL_c (repM_at (n := 30) (by decide)) (evL_c (v := .ref 7) (hp1 := HL (List.replicate 286 0) (List.replicate 30 0) [] []) rfl rfl))) (Nat.le_of_ble_eq_true rfl)) rfl
  have a5 : L5 (RL (.lst (ns.map .int)) (.lst (nats cs)) (.lst (toks.map Tok.v)) none none none (none :: n20)) (HL (List.replicate 286 0) (List.replicate 30 0) [] []) = _ := sFor_at (v := .lst (toks.map Tok.v)) rfl rfl m
  rw [List.nil_append] at a5
  have hlenL : (is.foldl (fun L t => incL t L) (List.replicate 286 0)).length = 286 := (fold_lenL is _).trans List.length_replicate
  have hlenD : (is.foldl (fun L t => incD t L) (List.replicate 30 0)).length = 30 := (fold_lenD is _).trans List.length_replicate
  have a6 : L6 (RL (.lst (ns.map .int)) (.lst (nats cs)) (.lst (toks.map Tok.v)) t9 t10 t11 (none :: n20)) (HL (is.foldl (fun L t => incL t L) (List.replicate 286 0)) (is.foldl (fun L t => incD t L) (List.replicate 30 0)) (is.map stepV) [])
      = some (.next, RL (.lst (ns.map .int)) (.lst (nats cs)) (.lst (toks.map Tok.v)) t9 t10 t11 (none :: n20), HL (fL is) (fD is) (is.map stepV) []) :=
    sSet_at rfl rfl rfl (set_ref (m := 5) (i := 256) (y := 1) rfl (by rw [hlenL]; decide) (by rw [hlenL]; exact Nat.le_of_ble_eq_true rfl))
  have hcnt := counts_at hTI (L := fL is) (D := fD is) (S := is.map stepV)
  rw [fold_set hTI] at hcnt
  have hlr : (toks.map Tok.v).length ≤ 1000 := by rw [List.length_map]; omega
  have a7 : L7 (RL (.lst (ns.map .int)) (.lst (nats cs)) (.lst (toks.map Tok.v)) t9 t10 t11 (none :: n20)) (HL (fL is) (fD is) (is.map stepV) [])
      = some (.next, RL (.lst (ns.map .int)) (.lst (nats cs)) (.lst (toks.map Tok.v)) t9 t10 t11 (some (told is) :: n20), HL (fL is) (fD is) (is.map stepV) [.dead, .dead]) :=
    sAsg_v (eMeth_at (o := .obj 172 0) rfl (noField_T rfl TF_no1.2.2.1) (evL_c (list_at (f := eV 2) rfl hlr) rfl) hcnt)
  have l8 : (fL is).length = 286 := (List.length_set ..).trans hlenL
  have t8 : (tOr (tCmp (oNeSeq) (eCall bList [(eIdx (eV 12) (eC (.int 0)))]) (eV 6)) (tCmp (oNeSeq) (eCall bList [(eIdx (eV 12) (eC (.int 1)))]) (eV 7))) (RL (.lst (ns.map .int)) (.lst (nats cs)) (.lst (toks.map Tok.v)) t9 t10 t11 (some (told is) :: n20)) (HL (fL is) (fD is) (is.map stepV) [.dead, .dead]) = some (false, HL (fL is) (fD is) (is.map stepV) [.dead, .dead]) := by
    refine tOr_ff (tCmp_at (list_at (eIdx_at rfl rfl idx_tup0) (by rw [nats_len]; omega)) rfl (ne_same rfl)) (tCmp_at (list_at (eIdx_at rfl rfl idx_tup1) (by rw [nats_len]; have : (fD is).length = 30 := hlenD; omega)) rfl (ne_same rfl))
  have a8 : L8 (RL (.lst (ns.map .int)) (.lst (nats cs)) (.lst (toks.map Tok.v)) t9 t10 t11 (some (told is) :: n20)) (HL (fL is) (fD is) (is.map stepV) [.dead, .dead]) = some (.next, RL (.lst (ns.map .int)) (.lst (nats cs)) (.lst (toks.map Tok.v)) t9 t10 t11 (some (told is) :: n20), HL (fL is) (fD is) (is.map stepV) [.dead, .dead]) := (sIf_f t8).trans rfl
  exact (sCons_n a1).trans ((sCons_n a2).trans ((sCons_n a3).trans ((sCons_n a4).trans ((sCons_n a5).trans ((sCons_n a6).trans ((sCons_n a7).trans (sCons_n a8)))))))
end Mine
end
section
open PySem PySem.W PyProof.Rows
set_option Elab.async false
set_option linter.unusedVariables false
set_option linter.unusedSimpArgs false
namespace Mine

noncomputable def L9 : SF := (sAsg (aVar 13) (eBin (oInt pMod) (eCall bSum [(eV 1)]) (eC (.int 2))))
noncomputable def L10 : SF := (sAsg (aVar 15) (eMut [(eCall b_212 [(eComp (eCall bRange [(eC (.int 286))]) [none, none, some 6] (some (tCmp (oCmp fun a b => decide (a > b)) (eIdx (eV 2) (eV 1)) (eC (.int 0)))) (eV 1) 1), (eV 13)])]))
noncomputable def L11 : SF := (sExp (eApp (eV 15) (eCall b_212 [(eComp (eCall bRange [(eC (.int 30))]) [none, none, some 7] (some (tCmp (oCmp fun a b => decide (a > b)) (eIdx (eV 2) (eV 1)) (eC (.int 0)))) (eV 1) 1), (eV 13)])))
noncomputable def L12 : SF := (sAsg (aTup [16, 17]) (eTup [(eLst [(eCall b_207 [(eIdx (eV 15) (eC (.int 0)))]), (eCall b_207 [(eIdx (eV 15) (eC (.int 1)))])]), (eLst [])]))
noncomputable def L13 : SF := (sFor (eBin (oAdd) (eV 8) (eLst [(eTup [(eC (.int 256)), (eC .none), (eC .none)])])) (aTup [14, 10, 11]) bodyB)
theorem app_at' {fo fe : EF} {ρ : Loc} {hp hp1 : Hp} {m : Nat} {xs ys : List V} {v : V} (ho : fo ρ hp = some (.ref m, hp)) (hm : hp[m]? = some (.acc ys)) (he : fe ρ hp = some (v, hp1)) (h : hp1[m]? = some (.acc xs)) (hl : xs.length ≤ lim) : eApp fo fe ρ hp = some (.none, hp1.set m (.acc (xs ++ [v]))) := by
  have h1 : isAcc hp (.ref m) = true := by simp only [isAcc, hm]
  have h2 : oApp (.ref m) v hp1 = some (.none, hp1.set m (.acc (xs ++ [v]))) := by simp only [oApp, h, hl, if_true]
  unfold eApp
  rw [ho, Option.bind_some, if_pos h1, he, Option.bind_some, h2]
theorem eLst_at {fs : List EF} {ρ : Loc} {hp hp1 : Hp} {vs : List V} (h : evL fs ρ hp = some (vs, hp1)) (hl : vs.length ≤ lim) : eLst fs ρ hp = some (.lst vs, hp1) := by
  unfold eLst; rw [h, Option.bind_some, if_pos hl]
theorem eMut_at {fs : List EF} {ρ : Loc} {hp hp1 : Hp} {vs : List V} (h : evL fs ρ hp = some (vs, hp1)) (hl : vs.length ≤ lim) : eMut fs ρ hp = some (.ref hp1.length, hp1 ++ [.acc vs]) := by
  unfold eMut; rw [h, Option.bind_some, if_pos hl]
theorem idx_acc {hp : Hp} {m i : Nat} {xs : List V} (h : hp[m]? = some (.acc xs)) (hi : i < 2 ^ 62) : oIdx (.ref m) (.int (i : Int)) hp = xs[i]? := by
  show (match hp[m]? with | some (.list xs) => nth xs (i : Int) | some (.acc xs) => nth xs (i : Int) | some (.dict es) => dGet es (i : Int) | _ => none) = _
  rw [h]
  show nth xs (i : Int) = _
  unfold nth
  rw [if_pos ⟨by omega, by exact_mod_cast hi⟩, Int.toNat_natCast]
theorem idx_acc0 {hp : Hp} {m : Nat} {a : V} {r : List V} (h : hp[m]? = some (.acc (a :: r))) : oIdx (.ref m) (.int 0) hp = some a := (idx_acc (i := 0) h (by decide)).trans (by simp)
theorem idx_acc1 {hp : Hp} {m : Nat} {a b : V} {r : List V} (h : hp[m]? = some (.acc (a :: b :: r))) : oIdx (.ref m) (.int 1) hp = some b := (idx_acc (i := 1) h (by decide)).trans (by simp)
theorem fL_len (is : List TI) : (fL is).length = 286 := (List.length_set ..).trans ((fold_lenL is _).trans List.length_replicate)
theorem fD_len (is : List TI) : (fD is).length = 30 := (fold_lenD is _).trans List.length_replicate
theorem fL_nz {is : List TI} (h : is.length ≤ 6) : nz (fL is) 286 ≤ 7 := by
  have h1 := nz_foldL (n := 286) is (List.replicate 286 0)
  rw [nz_rep] at h1
  have h2 : nz (fL is) 286 ≤ nz (is.foldl (fun L t => incL t L) (List.replicate 286 0)) 286 + 1 := nz_one' (i := 256) (fun s hs => getD_set_ne hs) 286
  omega
theorem fD_nz {is : List TI} (h : is.length ≤ 6) : nz (fD is) 30 ≤ 7 := by
  have h1 := nz_foldD (n := 30) is (List.replicate 30 0)
  rw [nz_rep] at h1
  have h2 : nz (fD is) 30 = nz (is.foldl (fun L t => incD t L) (List.replicate 30 0)) 30 := rfl
  omega
theorem TIs.len {toks : List Tok} {is : List TI} (h : TIs toks is) : is.length = toks.length := by
  induction h with
  | nil => rfl
  | cons _ _ ih => rw [List.length_cons, List.length_cons, ih]
structure Lens (F : Nat → Nat) (L : List Nat) (n : Nat) : Prop where
  le : ∀ s, F s ≤ 15
  pos : ∀ s, 0 < F s ↔ 0 < L.getD s 0
  few : (sgF F n).length ≤ 7
  out : ∀ s, n ≤ s → F s = 0
theorem pos_of {toks : List Tok} {is : List TI} (h : TIs toks is) {FL FD : Nat → Nat} (hL : Lens FL (fL is) 286) (hD : Lens FD (fD is) 30) : ∀ i ∈ is ++ [TI.lit 256], PosI FL FD i := by
  intro i hi
  rcases List.mem_append.mp hi with hi | hi
  · have hc := counted h (List.replicate 286 0) (List.replicate 30 0) List.length_replicate List.length_replicate i hi
    cases i with
    | lit a =>
      refine ⟨hc.1, (hL.pos a).mpr ?_⟩
      show 0 < ((is.foldl (fun L t => incL t L) (List.replicate 286 0)).set 256 1).getD a 0
      rw [getD_set_ne hc.2.1]; exact hc.2.2
    | pair ls lr lm ds dr dm =>
      refine ⟨⟨hc.1.1, (hL.pos ls).mpr ?_⟩, ⟨hc.2.1.1, (hD.pos ds).mpr hc.2.1.2⟩, hc.2.2⟩
      show 0 < ((is.foldl (fun L t => incL t L) (List.replicate 286 0)).set 256 1).getD ls 0
      rw [getD_set_ne hc.1.2.1]; exact hc.1.2.2
  · rw [List.mem_singleton] at hi
    subst hi
    refine ⟨by decide, (hL.pos 256).mpr ?_⟩
    show 0 < ((is.foldl (fun L t => incL t L) (List.replicate 286 0)).set 256 1).getD 256 0
    rw [getD_set (by rw [(fold_lenL is _).trans List.length_replicate]; decide), if_pos rfl]
    decide
theorem partB {s : V} {cs : List Nat} {toks : List Tok} {is : List TI} {t9 t10 t11 : Option V} (c1 : cs.length ≤ 12) (c2 : ∀ x ∈ cs, x < 1000000) (hl : toks.length ≤ 6) (h : TIs toks is) : ∃ (FL FD : Nat → Nat) (x0 x1 : O) (codes : V) (spr t10' t11' t14' : Option V), Lens FL (fL is) 286 ∧ Lens FD (fD is) 30 ∧
    ∀ g : SF, (sCons L9 (sCons L10 (sCons L11 (sCons L12 (sCons L13 g))))) (RL s (.lst (nats cs)) (.lst (toks.map Tok.v)) t9 t10 t11 (some (told is) :: n20)) (HL (fL is) (fD is) (is.map stepV) [.dead, .dead])
      = g (RB s (.lst (nats cs)) (.lst (toks.map Tok.v)) t9 t10' t11' (some (told is)) spr t14' (.ref 11) codes (endB FL FD is) (none :: n14)) (HL (fL is) (fD is) (is.map stepV) [.dead, .dead, x0, .acc [.dct (esF FL 286), .dct (esF FD 30)], x1, .dead, .dead]) := by
  have hil : is.length ≤ 6 := by rw [h.len]; exact hl
  obtain ⟨FL, x0, l1, l2, l3, l4, l5⟩ := lens_at (L := fL is) (n := 286) (sp := ((cs.sum % 2 : Nat) : Int)) (hp := HL (fL is) (fD is) (is.map stepV) [.dead, .dead]) (fL_len is) (fL_nz hil)
  obtain ⟨FD, x1, d1, d2, d3, d4, d5⟩ := lens_at (L := fD is) (n := 30) (sp := ((cs.sum % 2 : Nat) : Int)) (hp := HL (fL is) (fD is) (is.map stepV) [.dead, .dead, x0, .acc [.dct (esF FL 286)]]) (fD_len is) (fD_nz hil)
  obtain ⟨f0, e0, g0⟩ := codes_at (F := FL) (n := 286) (hp := HL (fL is) (fD is) (is.map stepV) [.dead, .dead, x0, .acc [.dct (esF FL 286), .dct (esF FD 30)], x1]) l3 l1 (by decide)
  obtain ⟨f1, e1, g1⟩ := codes_at (F := FD) (n := 30) (hp := HL (fL is) (fD is) (is.map stepV) [.dead, .dead, x0, .acc [.dct (esF FL 286), .dct (esF FD 30)], x1, .dead]) d3 d1 (by decide)
  have hLL : Lens FL (fL is) 286 := ⟨l1, l2, l3, l4⟩
  have hDD : Lens FD (fD is) 30 := ⟨d1, d2, d3, d4⟩
  obtain ⟨t10', t11', t14', b⟩ := loopB (x := s) (y := .lst (nats cs)) (z := .lst (toks.map Tok.v)) (t9 := t9) (told := some (told is)) (spr := some (.int ((cs.sum % 2 : Nat) : Int))) (lots := .ref 11) (rest := none :: n14) (hp := HL (fL is) (fD is) (is.map stepV) [.dead, .dead, x0, .acc [.dct (esF FL 286), .dct (esF FD 30)], x1, .dead, .dead]) l1 d1 g0 g1 (is ++ [TI.lit 256]) [] t10 t11 none (pos_of h hLL hDD) (by rw [List.length_append]; simp; omega)
  refine ⟨FL, FD, x0, x1, .lst [.dct f0, .dct f1], some (.int ((cs.sum % 2 : Nat) : Int)), t10', t11', t14', hLL, hDD, fun g => ?_⟩
  have a9 : L9 (RL s (.lst (nats cs)) (.lst (toks.map Tok.v)) t9 t10 t11 (some (told is) :: n20)) (HL (fL is) (fD is) (is.map stepV) [.dead, .dead])
      = some (.next, RL s (.lst (nats cs)) (.lst (toks.map Tok.v)) t9 t10 t11 (some (told is) :: some (.int ((cs.sum % 2 : Nat) : Int)) :: none :: none :: none :: none :: none :: n14), HL (fL is) (fD is) (is.map stepV) [.dead, .dead]) :=
    sAsg_v (eBin_at (eCall_at (evL_c rfl rfl) (sum_at (fun x hx => Nat.le_of_lt (c2 x hx)) (by omega))) rfl (oInt_at (pMod_nat _ 2 (by decide))))
  have s10 : (eComp (eCall bRange [(eC (.int 286))]) [none, none, some 6] (some (tCmp (oCmp fun a b => decide (a > b)) (eIdx (eV 2) (eV 1)) (eC (.int 0)))) (eV 1) 1) (RL s (.lst (nats cs)) (.lst (toks.map Tok.v)) t9 t10 t11 (some (told is) :: some (.int ((cs.sum % 2 : Nat) : Int)) :: none :: none :: none :: none :: none :: n14)) (HL (fL is) (fD is) (is.map stepV) [.dead, .dead]) = some (.lst (nats (sgL (fL is) 286)), HL (fL is) (fD is) (is.map stepV) [.dead, .dead]) := signs_at (n := 286) (j := 6) (m := 5) (by decide) (fL_len is) rfl rfl
  have a10 : L10 (RL s (.lst (nats cs)) (.lst (toks.map Tok.v)) t9 t10 t11 (some (told is) :: some (.int ((cs.sum % 2 : Nat) : Int)) :: none :: none :: none :: none :: none :: n14)) (HL (fL is) (fD is) (is.map stepV) [.dead, .dead])
      = some (.next, RL s (.lst (nats cs)) (.lst (toks.map Tok.v)) t9 t10 t11 (some (told is) :: some (.int ((cs.sum % 2 : Nat) : Int)) :: none :: some (.ref 11) :: none :: none :: none :: n14), HL (fL is) (fD is) (is.map stepV) [.dead, .dead, x0, .acc [.dct (esF FL 286)]]) :=
    sAsg_v (eMut_at (hp1 := HL (fL is) (fD is) (is.map stepV) [.dead, .dead, x0]) (evL_c (eCall_at (vs := [.lst (nats (sgL (fL is) 286)), .int ((cs.sum % 2 : Nat) : Int)]) (evL_c s10 (evL_c rfl rfl)) l5) rfl) (Nat.le_of_ble_eq_true rfl))
  have s11 : (eComp (eCall bRange [(eC (.int 30))]) [none, none, some 7] (some (tCmp (oCmp fun a b => decide (a > b)) (eIdx (eV 2) (eV 1)) (eC (.int 0)))) (eV 1) 1) (RL s (.lst (nats cs)) (.lst (toks.map Tok.v)) t9 t10 t11 (some (told is) :: some (.int ((cs.sum % 2 : Nat) : Int)) :: none :: some (.ref 11) :: none :: none :: none :: n14)) (HL (fL is) (fD is) (is.map stepV) [.dead, .dead, x0, .acc [.dct (esF FL 286)]]) = some (.lst (nats (sgL (fD is) 30)), HL (fL is) (fD is) (is.map stepV) [.dead, .dead, x0, .acc [.dct (esF FL 286)]]) := signs_at (n := 30) (j := 7) (m := 6) (by decide) (fD_len is) rfl rfl
  have a11 : L11 (RL s (.lst (nats cs)) (.lst (toks.map Tok.v)) t9 t10 t11 (some (told is) :: some (.int ((cs.sum % 2 : Nat) : Int)) :: none :: some (.ref 11) :: none :: none :: none :: n14)) (HL (fL is) (fD is) (is.map stepV) [.dead, .dead, x0, .acc [.dct (esF FL 286)]])
      = some (.next, RL s (.lst (nats cs)) (.lst (toks.map Tok.v)) t9 t10 t11 (some (told is) :: some (.int ((cs.sum % 2 : Nat) : Int)) :: none :: some (.ref 11) :: none :: none :: none :: n14), HL (fL is) (fD is) (is.map stepV) [.dead, .dead, x0, .acc [.dct (esF FL 286), .dct (esF FD 30)], x1]) :=
    sExp_v (app_at' (m := 11) (hp1 := HL (fL is) (fD is) (is.map stepV) [.dead, .dead, x0, .acc [.dct (esF FL 286)], x1]) (ys := [.dct (esF FL 286)]) (xs := [.dct (esF FL 286)]) rfl rfl (eCall_at (vs := [.lst (nats (sgL (fD is) 30)), .int ((cs.sum % 2 : Nat) : Int)]) (evL_c s11 (evL_c rfl rfl)) d5) rfl (Nat.le_of_ble_eq_true rfl))
  have a12 : L12 (RL s (.lst (nats cs)) (.lst (toks.map Tok.v)) t9 t10 t11 (some (told is) :: some (.int ((cs.sum % 2 : Nat) : Int)) :: none :: some (.ref 11) :: none :: none :: none :: n14)) (HL (fL is) (fD is) (is.map stepV) [.dead, .dead, x0, .acc [.dct (esF FL 286), .dct (esF FD 30)], x1])
      = some (.next, RB s (.lst (nats cs)) (.lst (toks.map Tok.v)) t9 t10 t11 (some (told is)) (some (.int ((cs.sum % 2 : Nat) : Int))) none (.ref 11) (.lst [.dct f0, .dct f1]) [] (none :: n14), HL (fL is) (fD is) (is.map stepV) [.dead, .dead, x0, .acc [.dct (esF FL 286), .dct (esF FD 30)], x1, .dead, .dead]) :=
    sAsg_g (eTup_at (vs := [.lst [.dct f0, .dct f1], .lst []]) (evL_c (eLst_at (evL_c (eCall_at (evL_c (eIdx_at rfl rfl (idx_acc0 (m := 11) (a := .dct (esF FL 286)) (r := [.dct (esF FD 30)]) rfl)) rfl) e0) (evL_c (eCall_at (evL_c (eIdx_at rfl rfl (idx_acc1 (m := 11) (a := .dct (esF FL 286)) (b := .dct (esF FD 30)) (r := []) rfl)) rfl) e1) rfl)) (Nat.le_of_ble_eq_true rfl)) (evL_c rfl rfl)) (Nat.le_of_ble_eq_true rfl)) rfl
  have hadd : (eBin (oAdd) (eV 8) (eLst [(eTup [(eC (.int 256)), (eC .none), (eC .none)])])) (RB s (.lst (nats cs)) (.lst (toks.map Tok.v)) t9 t10 t11 (some (told is)) (some (.int ((cs.sum % 2 : Nat) : Int))) none (.ref 11) (.lst [.dct f0, .dct f1]) [] (none :: n14)) (HL (fL is) (fD is) (is.map stepV) [.dead, .dead, x0, .acc [.dct (esF FL 286), .dct (esF FD 30)], x1, .dead, .dead])
      = some (.lst ((is ++ [TI.lit 256]).map stepV), HL (fL is) (fD is) (is.map stepV) [.dead, .dead, x0, .acc [.dct (esF FL 286), .dct (esF FD 30)], x1, .dead, .dead]) := by
    refine eBin_at (b := .lst [stepV (TI.lit 256)]) rfl rfl ?_
    show ((some (is.map stepV)).bind fun xs => (some [stepV (TI.lit 256)]).bind fun ys => if xs.length + ys.length ≤ lim then some (V.lst (xs ++ ys), _) else none) = _
    rw [Option.bind_some, Option.bind_some, if_pos (by rw [List.length_map]; exact Nat.le_trans (by omega : is.length + 1 ≤ 7) (Nat.le_of_ble_eq_true rfl)), List.map_append]
    rfl
  have a13 : L13 (RB s (.lst (nats cs)) (.lst (toks.map Tok.v)) t9 t10 t11 (some (told is)) (some (.int ((cs.sum % 2 : Nat) : Int))) none (.ref 11) (.lst [.dct f0, .dct f1]) [] (none :: n14)) (HL (fL is) (fD is) (is.map stepV) [.dead, .dead, x0, .acc [.dct (esF FL 286), .dct (esF FD 30)], x1, .dead, .dead])
      = some (.next, RB s (.lst (nats cs)) (.lst (toks.map Tok.v)) t9 t10' t11' (some (told is)) (some (.int ((cs.sum % 2 : Nat) : Int))) t14' (.ref 11) (.lst [.dct f0, .dct f1]) (endB FL FD is) (none :: n14), HL (fL is) (fD is) (is.map stepV) [.dead, .dead, x0, .acc [.dct (esF FL 286), .dct (esF FD 30)], x1, .dead, .dead]) := by
    rw [allB_app] at b
    exact sFor_at hadd rfl b
  exact (sCons_n a9).trans ((sCons_n a10).trans ((sCons_n a11).trans ((sCons_n a12).trans (sCons_n a13))))
end Mine
end
section
open PySem PySem.W PyProof.Rows
set_option Elab.async false
set_option linter.unusedVariables false
set_option linter.unusedSimpArgs false
set_option maxRecDepth 100000
namespace Mine

noncomputable def L14 : SF := (sAsg (aVar 18) (eCall (bNew 109 b_50) []))
noncomputable def L15 : SF := (sExp (eMeth 172 "put_row" b_169 (eV 3) [(eV 18), (eCall bList [(eV 2)]), (eComp (eCall bRange [(eC (.int 286))]) [none, none, some 15] none (eGet (eIdx (eV 2) (eC (.int 0))) (eV 1) (eC (.int 0))) 1), (eComp (eCall bRange [(eC (.int 30))]) [none, none, some 15] none (eGet (eIdx (eV 2) (eC (.int 1))) (eV 1) (eC (.int 0))) 1)]))
noncomputable def L16 : SF := (sIf (tCmp (oCmp fun a b => a != b) (eMeth 109 "size" b_85 (eV 18) []) (eCall bLen [(eV 17)])) (sCons (sRet (eC (.bool false))) sNil) sNil)
noncomputable def L17 : SF := (sAsg (aVar 17) (eBin (oAdd) (eV 17) (eRep (eC (.int 0)) (eBin (oInt pMod) (eUn oNeg (eCall bLen [(eV 17)])) (eC (.int 8))))))
noncomputable def L18 : SF := (sRet (eCmp oEqByt (eCall bBytes [(eMeth 109 "octets" b_106 (eV 18) [])]) (eCall bBytes [(eComp (eCall bRange [(eC (.int 0)), (eCall bLen [(eV 17)]), (eC (.int 8))]) [none, none, none, none, some 17] none byteE 1)])))
theorem writer_at {L D : List Nat} {S : List V} {a b c d e f g : O} (ρ : Loc) : (eCall (bNew 109 b_50) []) ρ (HL L D S [a, b, c, d, e, f, g]) = some (.obj 109 15, HL L D S [a, b, c, d, e, f, g, .ns (W 16 0 0), .bytes []]) := by kernel_rfl
theorem pad_at {n : Nat} {ρ : Loc} {hp : Hp} {e : EF} (h : e ρ hp = some (.int n, hp)) : (eRep (eC (.int 0)) (eBin (oInt pMod) (eUn oNeg e) (eC (.int 8)))) ρ hp = some (.lst (nats (List.replicate ((8 - n % 8) % 8) 0)), hp) := by
  have h1 : (eUn oNeg e) ρ hp = some (.int (-(n : Int)), hp) := by
    unfold eUn; rw [h]; rfl
  have h2 : pMod (-(n : Int)) 8 = some (((8 - n % 8) % 8 : Nat) : Int) := by
    unfold pMod
    rw [if_pos ⟨by decide, by decide⟩, Int.fmod_eq_emod_of_nonneg _ (by decide)]
    congr 1
    omega
  have h3 : (eBin (oInt pMod) (eUn oNeg e) (eC (.int 8))) ρ hp = some (.int (((8 - n % 8) % 8 : Nat) : Int), hp) := eBin_at h1 rfl (oInt_at h2)
  have h4 : repL (eC (.int 0)) (eBin (oInt pMod) (eUn oNeg e) (eC (.int 8))) ρ hp = some (nats (List.replicate ((8 - n % 8) % 8) 0), hp) := by
    unfold repL
    show (((eBin (oInt pMod) (eUn oNeg e) (eC (.int 8))) ρ hp).bind _) = _
    rw [h3]
    show (if 0 ≤ (((8 - n % 8) % 8 : Nat) : Int) ∧ (((8 - n % 8) % 8 : Nat) : Int) ≤ (lim : Nat) then some (List.replicate (((8 - n % 8) % 8 : Nat) : Int).toNat (V.int 0), hp) else none) = _
    have : lim = 1000000 := rfl
    rw [if_pos (by omega), Int.toNat_natCast, nats_rep]; rfl
  unfold eRep
  rw [h4]; rfl
theorem endB_bit (FL FD : Nat → Nat) (is : List TI) : isBit (endB FL FD is) := (isBit_all FL FD is [] (fun b hb => by cases hb)).app (isBit_M _ _)
theorem partC {s cs codes : V} {toks : List Tok} {is : List TI} {FL FD : Nat → Nat} {x0 x1 : O} {t9 t10 t11 t14 spr : Option V} (hl : toks.length ≤ 6) (h : TIs toks is) (hL : Lens FL (fL is) 286) (hD : Lens FD (fD is) 30) : ∃ ρ' hp',
    (sCons L14 (sCons L15 (sCons L16 (sCons L17 (sCons L18 sNil))))) (RB s cs (.lst (toks.map Tok.v)) t9 t10 t11 (some (told is)) spr t14 (.ref 11) codes (endB FL FD is) (none :: n14)) (HL (fL is) (fD is) (is.map stepV) [.dead, .dead, x0, .acc [.dct (esF FL 286), .dct (esF FD 30)], x1, .dead, .dead])
      = some (.ret (.bool true), ρ', hp') := by
  have w0 : WB (HL (fL is) (fD is) (is.map stepV) [.dead, .dead, x0, .acc [.dct (esF FL 286), .dct (esF FD 30)], x1, .dead, .dead, .ns (W 16 0 0), .bytes []]) 15 16 [] := ⟨by decide, rfl, rfl, by decide⟩
  obtain ⟨hp1, p1, p2, p3⟩ := put_row_at hL.few hD.few hL.le hD.le hL.out hD.out (by decide) (by decide) h hl w0 rfl
  have a14 : L14 (RB s cs (.lst (toks.map Tok.v)) t9 t10 t11 (some (told is)) spr t14 (.ref 11) codes (endB FL FD is) (none :: n14)) (HL (fL is) (fD is) (is.map stepV) [.dead, .dead, x0, .acc [.dct (esF FL 286), .dct (esF FD 30)], x1, .dead, .dead])
      = some (.next, RB s cs (.lst (toks.map Tok.v)) t9 t10 t11 (some (told is)) spr t14 (.ref 11) codes (endB FL FD is) (some (.obj 109 15) :: n14), HL (fL is) (fD is) (is.map stepV) [.dead, .dead, x0, .acc [.dct (esF FL 286), .dct (esF FD 30)], x1, .dead, .dead, .ns (W 16 0 0), .bytes []]) := sAsg_v (writer_at _)
  have q1 : (eComp (eCall bRange [(eC (.int 286))]) [none, none, some 15] none (eGet (eIdx (eV 2) (eC (.int 0))) (eV 1) (eC (.int 0))) 1) (RB s cs (.lst (toks.map Tok.v)) t9 t10 t11 (some (told is)) spr t14 (.ref 11) codes (endB FL FD is) (some (.obj 109 15) :: n14)) (HL (fL is) (fD is) (is.map stepV) [.dead, .dead, x0, .acc [.dct (esF FL 286), .dct (esF FD 30)], x1, .dead, .dead, .ns (W 16 0 0), .bytes []])
      = some (.lst (nats ((List.range 286).map FL)), HL (fL is) (fD is) (is.map stepV) [.dead, .dead, x0, .acc [.dct (esF FL 286), .dct (esF FD 30)], x1, .dead, .dead, .ns (W 16 0 0), .bytes []]) :=
    dense_at (n := 286) (j := 15) (m := 11) (q := 0) (by decide) rfl (idx_acc0 (a := .dct (esF FL 286)) (r := [.dct (esF FD 30)]) rfl)
  have q2 : (eComp (eCall bRange [(eC (.int 30))]) [none, none, some 15] none (eGet (eIdx (eV 2) (eC (.int 1))) (eV 1) (eC (.int 0))) 1) (RB s cs (.lst (toks.map Tok.v)) t9 t10 t11 (some (told is)) spr t14 (.ref 11) codes (endB FL FD is) (some (.obj 109 15) :: n14)) (HL (fL is) (fD is) (is.map stepV) [.dead, .dead, x0, .acc [.dct (esF FL 286), .dct (esF FD 30)], x1, .dead, .dead, .ns (W 16 0 0), .bytes []])
      = some (.lst (nats ((List.range 30).map FD)), HL (fL is) (fD is) (is.map stepV) [.dead, .dead, x0, .acc [.dct (esF FL 286), .dct (esF FD 30)], x1, .dead, .dead, .ns (W 16 0 0), .bytes []]) :=
    dense_at (n := 30) (j := 15) (m := 11) (q := 1) (by decide) rfl (idx_acc1 (a := .dct (esF FL 286)) (b := .dct (esF FD 30)) (r := []) rfl)
  have a15 : L15 (RB s cs (.lst (toks.map Tok.v)) t9 t10 t11 (some (told is)) spr t14 (.ref 11) codes (endB FL FD is) (some (.obj 109 15) :: n14)) (HL (fL is) (fD is) (is.map stepV) [.dead, .dead, x0, .acc [.dct (esF FL 286), .dct (esF FD 30)], x1, .dead, .dead, .ns (W 16 0 0), .bytes []])
      = some (.next, RB s cs (.lst (toks.map Tok.v)) t9 t10 t11 (some (told is)) spr t14 (.ref 11) codes (endB FL FD is) (some (.obj 109 15) :: n14), hp1) :=
    sExp_v (eMeth_at (o := .obj 172 0) rfl (noField_T rfl TF_no1.2.2.2) (evL_c rfl (evL_c (list_at (f := eV 2) rfl (by rw [List.length_map]; omega)) (evL_c q1 (evL_c q2 rfl)))) p1)
  have hlen : (nats (endB FL FD is)).length ≤ 1000 := by rw [nats_len]; omega
  have ll := len_lst (i := 17) (xs := nats (endB FL FD is)) (ρ := RB s cs (.lst (toks.map Tok.v)) t9 t10 t11 (some (told is)) spr t14 (.ref 11) codes (endB FL FD is) (some (.obj 109 15) :: n14)) (hp := hp1) rfl hlen
  rw [nats_len] at ll
  have t16 : (tCmp (oCmp fun a b => a != b) (eMeth 109 "size" b_85 (eV 18) []) (eCall bLen [(eV 17)])) (RB s cs (.lst (toks.map Tok.v)) t9 t10 t11 (some (told is)) spr t14 (.ref 11) codes (endB FL FD is) (some (.obj 109 15) :: n14)) hp1 = some (false, hp1) := by
    refine tCmp_at (eMeth_at (o := .obj 109 15) rfl (noField_W p2.ns W_no.2.2.2.2) rfl (Wr.size p2 (by omega))) ll ?_
    show some (((endB FL FD is).length : Int) != ((endB FL FD is).length : Int)) = some false
    rw [bne_self_eq_false]
  have a16 : L16 (RB s cs (.lst (toks.map Tok.v)) t9 t10 t11 (some (told is)) spr t14 (.ref 11) codes (endB FL FD is) (some (.obj 109 15) :: n14)) hp1 = some (.next, RB s cs (.lst (toks.map Tok.v)) t9 t10 t11 (some (told is)) spr t14 (.ref 11) codes (endB FL FD is) (some (.obj 109 15) :: n14), hp1) := (sIf_f t16).trans rfl
  have a17 : L17 (RB s cs (.lst (toks.map Tok.v)) t9 t10 t11 (some (told is)) spr t14 (.ref 11) codes (endB FL FD is) (some (.obj 109 15) :: n14)) hp1
      = some (.next, RB s cs (.lst (toks.map Tok.v)) t9 t10 t11 (some (told is)) spr t14 (.ref 11) codes (endB FL FD is ++ List.replicate ((8 - (endB FL FD is).length % 8) % 8) 0) (some (.obj 109 15) :: n14), hp1) :=
    sAsg_v (eBin_at rfl (pad_at ll) (add_lst (by rw [List.length_replicate]; omega)))
  obtain ⟨hp2, o1⟩ := Wr.octets p2 (by omega)
  have hq : (endB FL FD is ++ List.replicate ((8 - (endB FL FD is).length % 8) % 8) 0).length = 8 * (((endB FL FD is).length + 7) / 8) := by
    rw [List.length_append, List.length_replicate]; omega
  have e1 : (eCall bBytes [(eMeth 109 "octets" b_106 (eV 18) [])]) (RB s cs (.lst (toks.map Tok.v)) t9 t10 t11 (some (told is)) spr t14 (.ref 11) codes (endB FL FD is ++ List.replicate ((8 - (endB FL FD is).length % 8) % 8) 0) (some (.obj 109 15) :: n14)) hp1 = some (.byt (leB (val (endB FL FD is)) (((endB FL FD is).length + 7) / 8)), hp2) :=
    eCall_at (evL_c (eMeth_at (o := .obj 109 15) rfl (noField_W p2.ns W_no.2.2.2.1) rfl o1) rfl) rfl
  have e2 := octets_law (ρ := RB s cs (.lst (toks.map Tok.v)) t9 t10 t11 (some (told is)) spr t14 (.ref 11) codes (endB FL FD is ++ List.replicate ((8 - (endB FL FD is).length % 8) % 8) 0) (some (.obj 109 15) :: n14)) (hp := hp2) ((endB_bit FL FD is).app (isBit_rep _)) hq (by omega) rfl
  rw [val_app, val_rep, Nat.zero_mul, Nat.add_zero] at e2
  have a18 : L18 (RB s cs (.lst (toks.map Tok.v)) t9 t10 t11 (some (told is)) spr t14 (.ref 11) codes (endB FL FD is ++ List.replicate ((8 - (endB FL FD is).length % 8) % 8) 0) (some (.obj 109 15) :: n14)) hp1
      = some (.ret (.bool true), RB s cs (.lst (toks.map Tok.v)) t9 t10 t11 (some (told is)) spr t14 (.ref 11) codes (endB FL FD is ++ List.replicate ((8 - (endB FL FD is).length % 8) % 8) 0) (some (.obj 109 15) :: n14), hp2) := by
    refine sRet_v ?_
    unfold eCmp
    rw [tCmp_at (t := true) e1 e2 (by show some (decide (_ = _)) = _; rw [decide_eq_true rfl])]
    rfl
  exact ⟨_, _, (sCons_n a14).trans ((sCons_n a15).trans ((sCons_n a16).trans ((sCons_n a17).trans (sCons_r a18))))⟩
theorem f222_eq : f_222 = sCons L1 (sCons L2 (sCons L3 (sCons L4 (sCons L5 (sCons L6 (sCons L7 (sCons L8 (sCons L9 (sCons L10 (sCons L11 (sCons L12 (sCons L13 (sCons L14 (sCons L15 (sCons L16 (sCons L17 (sCons L18 sNil))))))))))))))))) := rfl
theorem plain (ns : List Int) (h : ns.length ≤ 63) : ∃ hp', b_222 [.lst (ns.map .int)] [] = some (.bool true, hp') := by
  obtain ⟨cs, toks, is, t9, t10, t11, c1, c2, hl, hT, eA⟩ := partA h
  obtain ⟨FL, FD, x0, x1, codes, spr, t10', t11', t14', hL, hD, eB⟩ := partB (s := .lst (ns.map .int)) (t9 := t9) (t10 := t10) (t11 := t11) c1 c2 hl hT
  obtain ⟨ρ', hp', eC'⟩ := partC (s := .lst (ns.map .int)) (cs := .lst (nats cs)) (codes := codes) (x0 := x0) (x1 := x1) (t9 := t9) (t10 := t10') (t11 := t11') (t14 := t14') (spr := spr) hl hT hL hD
  refine ⟨hp', ?_⟩
  unfold b_222 fnF
  rw [f222_eq]
  have hlen' : ([V.lst (ns.map .int)] ++ []).length = [0].length := rfl
  rw [if_pos hlen']
  have hset : setAll [0] ([V.lst (ns.map .int)] ++ []) (List.replicate 33 none) = P0 (.lst (ns.map .int)) none none := rfl
  rw [hset, eA, eB, eC']
  rfl
end Mine
end
section
open PySem PySem.W PyProof.Rows
set_option Elab.async false
set_option linter.unusedVariables false
set_option maxRecDepth 100000
namespace Mine
set_option maxHeartbeats 8000000 in
theorem joined : PySem.Challenge.rw_pb0103_01.Holds := holds_law hd_said fun said => hd ⟨said, by
  intro w s₀ s₁ mg mb G Y a o pm cd doc dV kV ho hd' hcd hD hmg hg args vals as hpre hlay hrd hwl hlo
  have KX := kIn_of Y
  let c : Cx := { prog := PySem.Challenge.pw_pb0103_01, w := w, S0 := s₁, mg := mg, mb := mb, g := G.T.g, b := G.T.b, bb := G.T.builtins, nolimit := G.T.nolimit, frag := hd.heap_1 w.params, X := KX }
  have B : Base c := ⟨rfl⟩
  wrow_args hpre hlay hrd hwl hlo
  have hI := ‹IntsAre _ _›
  have hL := ‹Heap.IsList _ _ _›
  have hc63 := ‹¬ (((63 : Nat) : Int) < _)›
  obtain ⟨hp', hpl⟩ := plain _ (Int.ofNat_le.mp (Int.not_lt.mp hc63))
  have hA : AOk 13 callerA := ⟨rfl, by decide, by decide⟩
  have I : Inv c [] (fun b => s₁.heap.get? b) [] [] s₁ := ⟨fun _ _ e => e, fun _ _ e => e, fun p h => absurd h List.not_mem_nil, List.Pairwise.nil, rfl, List.Pairwise.nil, fun i a o e => absurd e (by rw [List.getElem?_nil]; intro q; cases q), rfl, rfl⟩
  obtain rfl : a = 222 := by
    have h1 := B.mg (x := "law") (r := some (.ref 222)) (by kernel_rfl)
    have h2 : some (Value.ref a) = some (Value.ref 222) := hmg.symm.trans h1
    cases h2; rfl
  obtain ⟨ol, hol, hoc, nn, hod⟩ := hL
  have hv : VsR c (fun b => s₁.heap.get? b) [] [.lst (List.map .int _)] [.ref _] := .cons (.mk_lst hol hoc hod (by simpa using are_ints hI)) .nil
  refine wpN_mono ((d_222 B).bs callerA [] _ [] [] s₁ _ _ _ hp' hA I hv hpl) ?_ (fun _ _ x => x)
  rintro v s' ⟨K', φ', I', k', p', hvr⟩
  cases hvr
  refine GoodW.toG ⟨.inl ⟨_, .bool true, [], rfl, raisesW_false ?_, .bool true, ?_, unshared_nil⟩, fun b o e => I'.keep _ _ (k' _ _ e), I'.os, I'.gens.trans hg⟩
  · wrow_none_raised
  · wrow_post⟩
end Mine
end
set_option Elab.async false
set_option maxRecDepth 100000 in
theorem PySem.Challenge.cw_pb0103_01_holds : PySem.Challenge.rw_pb0103_01.Holds :=
  Mine.joined
